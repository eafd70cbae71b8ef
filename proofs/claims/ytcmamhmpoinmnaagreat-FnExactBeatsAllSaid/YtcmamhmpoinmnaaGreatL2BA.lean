/- The parts of a graph, by their least vertices: what both sides come to. Plain law. -/
import Derived.Test.YtcmamhmpoinmnaaGreatL1BA
import Derived.Test.YtcmamhmpoinmnaaGreatL0BA
import Derived.Test.YtcmamhmpoinmnaaGreatCmpBA
set_option linter.unusedVariables false
set_option linter.unusedSimpArgs false
namespace Go.Proofs.YtcmamhmpoinmnaaGreat
open Go Go.Wk Go.Proofs
open Classical
structure Gr (N : List (List Int)) (M : List Bool) (n : Nat) : Prop where
 ln : N.length = n
 lm : M.length = n
 le : n ≤ 256
 row : ∀ v r, idx N v = some r → r.length ≤ 10000 ∧ ∀ u ∈ r, 0 ≤ u ∧ u < n
noncomputable def scN (N : List (List Int)) (M : List Bool) (v : Int) : List Int := if In M v then ((idx N v).getD []).filter (fun u => decide (In M u)) else []
theorem mem_scN {N : List (List Int)} {M : List Bool} {v u : Int} : u ∈ scN N M v ↔ In M v ∧ In M u ∧ ∃ r, idx N v = some r ∧ u ∈ r := by
 unfold scN
 by_cases h : In M v
 · rw [if_pos h, List.mem_filter, decide_eq_true_eq]
   cases e : idx N v with
   | none => simp
   | some r => simp [h, and_comm]
 · rw [if_neg h]; simp [h]
def rowI' (N : List (List Int)) (v : Int) : List Int := (idx N v).getD []
def Far (sc : Int → List Int) (v : Int) : Prop := ∃ y ∈ sc v, Wy sc noV y v
def Far2 (sc : Int → List Int) (v u : Int) : Prop := ∃ y ∈ sc v, Wy sc noV y u
section
variable {sc : Int → List Int}
theorem Wy.far {v u : Int} (w : Wy sc noV v u) (h : v ≠ u) : Far2 sc v u := by
 cases w with
 | one _ => exact absurd rfl h
 | cons _ e w => exact ⟨_, e, w⟩
theorem Far2.wy {v u : Int} (h : Far2 sc v u) : Wy sc noV v u := by
 obtain ⟨y, h1, h2⟩ := h
 exact .cons id h1 h2
theorem Wy.snoc_in {D : Int → Prop} {v u : Int} (w : Wy sc D v u) : v = u ∨ ∃ z, u ∈ sc z := by
 induction w with
 | one _ => exact .inl rfl
 | cons _ e _ ih =>
  rcases ih with h | h
  · subst h; exact .inr ⟨_, e⟩
  · exact .inr h
theorem akin_far {v u : Int} (h : Akin sc v u) (hne : v ≠ u) : Far sc v ∧ Far sc u := by
 obtain ⟨y, h1, h2⟩ := h.1.far hne
 obtain ⟨z, h3, h4⟩ := h.2.far (Ne.symm hne)
 exact ⟨⟨y, h1, h2.trans h.2⟩, ⟨z, h3, h4.trans h.1⟩⟩
theorem Far.akin {v u : Int} (h : Far sc v) (k : Akin sc v u) : Far sc u := by
 by_cases e : v = u
 · subst e; exact h
 · exact (akin_far k e).2
end
theorem marksL_asc (B : List Bool) (j : Nat) : Asc (marksL B j) := by
 unfold marksL
 rw [Asc, List.pairwise_map]
 refine List.Pairwise.filter _ ?_
 exact List.pairwise_lt_range.imp fun h => by
  show (_ : Int) < _
  exact Int.ofNat_lt.2 h
noncomputable def partG (N : List (List Int)) (M : List Bool) (v : Int) : List Int := (marksL M M.length).filter (fun u => decide (Akin (scN N M) v u))
def Lead (sc : Int → List Int) (v : Int) : Prop := Far sc v ∧ ∀ w, w < v → ¬ Akin sc w v
noncomputable def loopsN (N : List (List Int)) (M : List Bool) : List (List Int) := ((marksL M M.length).filter (fun v => decide (Lead (scN N M) v))).map (partG N M)
section
variable {N : List (List Int)} {M : List Bool}
theorem mem_partG {v u : Int} : u ∈ partG N M v ↔ In M u ∧ Akin (scN N M) v u := by
 unfold partG
 rw [List.mem_filter, mem_marksL, decide_eq_true_eq]
theorem partG_asc (v : Int) : Asc (partG N M v) := (marksL_asc _ _).filter _
theorem partG_eq {v u : Int} (h : Akin (scN N M) v u) : partG N M v = partG N M u :=
 asc_eq (partG_asc _) (partG_asc _) fun z => by
  rw [mem_partG, mem_partG]
  exact ⟨fun ⟨a, b⟩ => ⟨a, h.symm.trans b⟩, fun ⟨a, b⟩ => ⟨a, h.trans b⟩⟩
theorem far_in {v : Int} (h : Far (scN N M) v) : In M v := by
 obtain ⟨y, h1, _⟩ := h
 exact (mem_scN.1 h1).1
def hdI (l : List Int) : Int := l.headD 0
theorem partG_hd {v : Int} (h : Far (scN N M) v) : ∃ t, partG N M v = hdI (partG N M v) :: t ∧ Akin (scN N M) v (hdI (partG N M v)) ∧ Lead (scN N M) (hdI (partG N M v)) := by
 have hv : v ∈ partG N M v := mem_partG.2 ⟨far_in h, Akin.refl v⟩
 cases e : partG N M v with
 | nil => rw [e] at hv; cases hv
 | cons x t =>
  have hx : x ∈ partG N M v := by rw [e]; simp
  obtain ⟨a, b⟩ := mem_partG.1 hx
  refine ⟨t, rfl, b, h.akin b, fun w hw hk => ?_⟩
  have hwx : Akin (scN N M) v w := b.trans hk.symm
  have hw' : w ∈ partG N M v := mem_partG.2 ⟨far_in (h.akin hwx), hwx⟩
  rw [e] at hw'
  have hp : Asc (x :: t) := by rw [← e]; exact partG_asc v
  rcases List.mem_cons.1 hw' with e' | e'
  · have : w < w := by rw [← e'] at hw; exact hw
    omega
  · have := (List.pairwise_cons.1 hp).1 w e'
    have : w < x := hw
    omega
theorem lead_hd {v : Int} (h : Lead (scN N M) v) : hdI (partG N M v) = v := by
 obtain ⟨t, h1, h2, h3⟩ := partG_hd h.1
 have a := h.2 (hdI (partG N M v))
 have b := h3.2 v
 have c : ¬ hdI (partG N M v) < v := fun k => a k h2.symm
 have d : ¬ v < hdI (partG N M v) := fun k => b k h2
 omega
theorem lexI_hd {a b : Int} {s t : List Int} (h : leI (a :: s) (b :: t) = true) (hne : a ≠ b) : a < b := by
 unfold leI lexI at h
 have : ¬ Go.Lib.compareInt a b = 0 := fun e => hne (cmpI_eq.1 e)
 rw [if_neg this, decide_eq_true_eq] at h
 exact cmpI_lt.1 (by omega)
theorem sort_parts {P : List (List Int)} (h1 : ∀ S ∈ P, ∃ v, Far (scN N M) v ∧ S = partG N M v) (h2 : ∀ v, Far (scN N M) v → partG N M v ∈ P) (h3 : P.Pairwise (fun S T => ∀ x ∈ S, x ∉ T)) : P.mergeSort leI = loopsN N M := by
 have hh : ∀ S ∈ P, S = partG N M (hdI S) ∧ Lead (scN N M) (hdI S) ∧ ∃ t, S = hdI S :: t := fun S hS => by
  obtain ⟨v, f, e⟩ := h1 S hS
  obtain ⟨t, k1, k2, k3⟩ := partG_hd f
  rw [← e] at k1 k2 k3
  exact ⟨e.trans (partG_eq k2), k3, t, k1⟩
 have hperm := List.mergeSort_perm P leI
 have hZ : ∀ S ∈ P.mergeSort leI, S = partG N M (hdI S) ∧ Lead (scN N M) (hdI S) ∧ ∃ t, S = hdI S :: t := fun S hS => hh S (hperm.mem_iff.1 hS)
 have hnd : (P.map hdI).Nodup := by
  rw [List.Nodup, List.pairwise_map]
  refine h3.imp_of_mem fun {S T} hS hT hd e => ?_
  obtain ⟨_, _, s, es⟩ := hh S hS
  obtain ⟨_, _, t, et⟩ := hh T hT
  refine hd (hdI S) (by rw [es]; simp [hdI]) ?_
  rw [et, ← e]; simp [hdI]
 have hndZ : ((P.mergeSort leI).map hdI).Nodup := ((hperm.map hdI).nodup_iff).2 hnd
 have hsort : (P.mergeSort leI).Pairwise (fun a b => leI a b = true) := List.pairwise_mergeSort (fun a b c => leI_trans a b c) (fun a b => leI_total a b) P
 have hasc : Asc ((P.mergeSort leI).map hdI) := by
  rw [Asc, List.pairwise_map]
  rw [List.Nodup, List.pairwise_map] at hndZ
  refine (List.Pairwise.and hsort hndZ).imp_of_mem fun {S T} hS hT ⟨a, b⟩ => ?_
  obtain ⟨_, _, s, es⟩ := hZ S hS
  obtain ⟨_, _, t, et⟩ := hZ T hT
  rw [es, et] at a
  exact lexI_hd a b
 have hmap : (P.mergeSort leI) = ((P.mergeSort leI).map hdI).map (partG N M) := by
  rw [List.map_map]
  conv => lhs; rw [← List.map_id (P.mergeSort leI)]
  exact List.map_congr_left fun S hS => (hZ S hS).1
 rw [hmap]
 unfold loopsN
 congr 1
 refine asc_eq hasc ((marksL_asc _ _).filter _) fun z => ?_
 rw [List.mem_map, List.mem_filter, mem_marksL, decide_eq_true_eq]
 constructor
 · rintro ⟨S, hS, rfl⟩
   exact ⟨far_in (hZ S hS).2.1.1, (hZ S hS).2.1⟩
 · rintro ⟨_, hl⟩
   exact ⟨partG N M z, hperm.mem_iff.2 (h2 z hl.1), lead_hd hl⟩
end
end Go.Proofs.YtcmamhmpoinmnaaGreat
set_option linter.unusedVariables false
set_option linter.unusedSimpArgs false
namespace Go.Proofs.YtcmamhmpoinmnaaGreat
open Go Go.Wk Go.Proofs
open Classical
section
variable {N : List (List Int)} {M : List Bool} {n : Nat} (g : Gr N M n)
include g
theorem back_ok : ∃ B, cntM (i_loopsIn_b0 N M) N.length 0 (List.replicate n []) = some (.inr B) ∧ B.length = n ∧ ∀ u : Int, 0 ≤ u → u < n → ∃ r, idx B u = some r ∧ ∀ v, v ∈ r ↔ u ∈ scN N M v := by
 have hn := g.le
 obtain ⟨B, h1, h2, h3⟩ := cnt_inv (f := i_loopsIn_b0 N M) (fun j (B : List (List Int)) => B.length = n ∧ ∀ u : Int, 0 ≤ u → u < n → ∃ r, idx B u = some r ∧ r.length ≤ j * 10000 ∧ ∀ v, v ∈ r ↔ v < (j : Int) ∧ u ∈ scN N M v) N.length (s := List.replicate n []) ⟨by simp, fun u u0 u1 => ⟨[], by rw [idx_int u0, List.getElem?_replicate, if_pos (by omega)], by simp, fun v => by
  constructor
  · intro h; cases h
  · rintro ⟨h, k⟩
    have := (In_of g.lm (mem_scN.1 k).1).1
    omega⟩⟩ (fun j B hj ⟨b1, b2⟩ => by
  have hrow : N[j]? = some N[j] := List.getElem?_eq_getElem hj
  generalize N[j] = row at hrow
  obtain ⟨l1, l2⟩ := g.row (j : Int) row (by rw [idx_nat]; exact hrow)
  unfold i_loopsIn_b0
  rw [idx_nat, hrow, Option.bind_some]
  have hjn : j < n := by rw [← g.ln]; exact hj
  obtain ⟨C, k1, k2, k3⟩ := cnt_inv (f := i_loopsIn_b2 M (j : Int) row) (fun i (B : List (List Int)) => B.length = n ∧ ∀ u : Int, 0 ≤ u → u < n → ∃ r, idx B u = some r ∧ r.length ≤ j * 10000 + i ∧ ∀ v, v ∈ r ↔ (v < (j : Int) ∧ u ∈ scN N M v) ∨ (v = (j : Int) ∧ In M v ∧ In M u ∧ u ∈ row.take i)) row.length (s := B) ⟨b1, fun u u0 u1 => by
   obtain ⟨r, c1, c2, c3⟩ := b2 u u0 u1
   exact ⟨r, c1, Nat.le_trans c2 (Nat.le_add_right _ _), fun v => by rw [c3]; simp⟩⟩ (fun i B hi ⟨d1, d2⟩ => by
   have hu : row[i]? = some row[i] := List.getElem?_eq_getElem hi
   generalize row[i] = u0 at hu
   obtain ⟨u00, u01⟩ := l2 u0 (List.mem_of_getElem? hu)
   have htk : row.take (i + 1) = row.take i ++ [u0] := by rw [List.take_add_one, hu]; rfl
   have hgo : ¬ (In M (j : Int) ∧ In M u0) → ∀ u : Int, 0 ≤ u → u < n → ∃ r, idx B u = some r ∧ r.length ≤ j * 10000 + (i + 1) ∧ ∀ v, v ∈ r ↔ (v < (j : Int) ∧ u ∈ scN N M v) ∨ (v = (j : Int) ∧ In M v ∧ In M u ∧ u ∈ row.take (i + 1)) := fun hno u u0' u1' => by
    obtain ⟨r, c1, c2, c3⟩ := d2 u u0' u1'
    refine ⟨r, c1, by omega, fun v => ?_⟩
    rw [c3, htk]
    constructor
    · rintro (h | ⟨h, h1, h2, h3⟩)
      · exact .inl h
      · exact .inr ⟨h, h1, h2, List.mem_append_left _ h3⟩
    · rintro (h | ⟨h, h1, h2, h3⟩)
      · exact .inl h
      · rcases List.mem_append.1 h3 with h3 | h3
        · exact .inr ⟨h, h1, h2, h3⟩
        · rw [List.mem_singleton] at h3
          exact absurd ⟨h ▸ h1, h3 ▸ h2⟩ hno
   unfold i_loopsIn_b2
   rw [idx_nat, hu, Option.bind_some, In_get (B := M) (by omega) (by rw [g.lm]; omega), Option.bind_some, In_get (B := M) u00 (by rw [g.lm]; omega)]
   by_cases h1 : In M (j : Int)
   · by_cases h2 : In M u0
     · obtain ⟨r, c1, c2, c3⟩ := d2 u0 u00 u01
       obtain ⟨B', hB', hl⟩ := setI_some (xs := B) (i := u0) (r ++ [(j : Int)]) u00 (by omega)
       simp only [decide_eq_true h1, decide_eq_true h2, cond_true, Option.bind_some, c1, app1 (show r.length ≤ 10000000000 by omega) (show Nat.ble 8 1024 = true from rfl), hB']
       refine ⟨_, rfl, by omega, fun u u0' u1' => ?_⟩
       rw [idx_setI hB']
       by_cases e : u = u0
       · subst e
         rw [if_pos rfl]
         refine ⟨_, rfl, by rw [List.length_append]; simp only [List.length_cons, List.length_nil]; omega, fun v => ?_⟩
         rw [List.mem_append, c3, List.mem_singleton, htk]
         constructor
         · rintro ((h | ⟨h, h1, h2, h3⟩) | h)
           · exact .inl h
           · exact .inr ⟨h, h1, h2, List.mem_append_left _ h3⟩
           · subst h; exact .inr ⟨rfl, h1, h2, by simp⟩
         · rintro (h | ⟨h, h1, h2, h3⟩)
           · exact .inl (.inl h)
           · exact .inr h
       · rw [if_neg e]
         obtain ⟨r, c1, c2, c3⟩ := d2 u u0' u1'
         refine ⟨r, c1, by omega, fun v => ?_⟩
         rw [c3, htk, List.mem_append, List.mem_singleton]
         simp [e]
     · simp only [decide_eq_true h1, decide_eq_false h2, cond_true, Option.bind_some, cond_false]
       exact ⟨_, rfl, d1, hgo fun h => h2 h.2⟩
   · simp only [decide_eq_false h1, Option.bind_some, cond_false]
     exact ⟨_, rfl, d1, hgo fun h => h1 h.1⟩)
  rw [k1, Option.bind_some, aft_inr]
  refine ⟨_, rfl, k2, fun u u0 u1 => ?_⟩
  obtain ⟨r, c1, c2, c3⟩ := k3 u u0 u1
  refine ⟨r, c1, by omega, fun v => ?_⟩
  rw [c3, List.take_length]
  constructor
  · rintro (⟨h, k⟩ | ⟨h, h1, h2, h3⟩)
    · exact ⟨by omega, k⟩
    · subst h
      exact ⟨by omega, mem_scN.2 ⟨h1, h2, row, by rw [idx_nat]; exact hrow, h3⟩⟩
  · rintro ⟨h, k⟩
    by_cases e : v = (j : Int)
    · subst e
      obtain ⟨h1, h2, r', e', h3⟩ := mem_scN.1 k
      rw [idx_nat, hrow] at e'
      cases e'
      exact .inr ⟨rfl, h1, h2, h3⟩
    · exact .inl ⟨by omega, k⟩)
 refine ⟨B, h1, h2, fun u u0 u1 => ?_⟩
 obtain ⟨r, c1, c2, c3⟩ := h3 u u0 u1
 refine ⟨r, c1, fun v => ?_⟩
 rw [c3]
 refine ⟨fun h => h.2, fun h => ⟨?_, h⟩⟩
 have := (In_of g.lm (mem_scN.1 h).1).2
 rw [g.ln]; exact this
def Many (N : List (List Int)) (S : List Int) : Prop := 1 < S.length ∨ ∃ v ∈ S, ∃ r, idx N v = some r ∧ v ∈ r
noncomputable def keepP (N : List (List Int)) (P : List (List Int)) : List (List Int) := (P.filter (fun S => decide (Many N S))).map fun S => S.mergeSort fun x y => decide (x ≤ y)
theorem second_ok {B : List (List Int)} {bk : Int → List Int} (hB : B.length = n) (hbr : ∀ v row, idx B v = some row → ∀ u ∈ row, 0 ≤ u ∧ u < n) (hbk : ∀ v row, In M v → idx B v = some row → bk v = row.filter (fun u => decide (In M u)))
 {L : List Int} {d0 : List Bool} (hL : L.length ≤ 256) (hLM : ∀ v ∈ L, In M v) :
 ∀ (k : Nat) (P0 : List (List Int)) (d : List Bool) (F : Nat), k ≤ L.length → P0.length + k ≤ 1000 → d.length = n → k < F →
 ∃ P d', whileM (i_loopsIn_b6 N M B (L, d0)) F (P0, (k : Int) - 1, d) = some (.inr (P0 ++ keepP N P, -1, d')) ∧ Kos bk (In d) ((L.take k).reverse) P
 | _, _, _, 0, _, _, _, h => absurd h (Nat.not_lt_zero _)
 | 0, P0, d, F + 1, _, _, hd, _ => ⟨[], d, by
  show Option.bind (i_loopsIn_b6 N M B (L, d0) (P0, ((0 : Nat) : Int) - 1, d)) _ = _
  have : keepP N [] = [] := rfl
  rw [this, List.append_nil]
  rfl, .nil⟩
 | k + 1, P0, d, F + 1, hk, hP, hd, hF => by
  have hn := g.le
  have hx : L[k]? = some L[k] := List.getElem?_eq_getElem (by omega)
  generalize L[k] = x at hx
  have hxM := hLM x (List.mem_of_getElem? hx)
  obtain ⟨x0, x1⟩ := In_of g.lm hxM
  have htk : (L.take (k + 1)).reverse = x :: (L.take k).reverse := by rw [List.take_add_one, hx]; simp
  have e1 : ((k + 1 : Nat) : Int) - 1 = (k : Int) := by omega
  have ew : IntKind.i64.wrap ((k : Int) - 1) = (k : Int) - 1 := wr' (by omega) (by omega)
  rw [htk, e1]
  show ∃ P d', Option.bind (i_loopsIn_b6 N M B (L, d0) (P0, (k : Int), d)) _ = _ ∧ _
  by_cases hdx : In d x
  · obtain ⟨P, d', w, kk⟩ := second_ok hB hbr hbk hL hLM k P0 d F (by omega) (by omega) hd (by omega)
    have st : i_loopsIn_b6 N M B (L, d0) (P0, (k : Int), d) = some (.inr (.inr (P0, (k : Int) - 1, d))) := by
     unfold i_loopsIn_b6
     dsimp only
     rw [decide_eq_true (show (0 : Int) ≤ (k : Int) by omega), cond_true, idx_nat, hx, Option.bind_some, In_get (B := d) x0 (by omega), Option.bind_some, ew, decide_eq_true hdx, cond_true]
    rw [st, Option.bind_some]
    exact ⟨P, d', w, .skip hdx kk⟩
  · obtain ⟨S, d1, v1, m1, k1⟩ := vis_ok hB g.lm hn hbr hbk (2 ^ 64) x [] d hxM hdx hd (Nat.zero_le _) (by have := cnt_le d; omega)
    have hxS : x ∈ S := (k1.mem_iff x).2 ⟨x, by simp, .one hdx⟩
    have hSl : 0 < S.length := List.length_pos_of_mem hxS
    have hcn := m1.cnt k1.nodup k1.out
    have hcl := cnt_le d1
    have hdl := m1.1
    obtain ⟨rw_, hrw⟩ := idx_some (xs := N) (i := x) x0 (by rw [g.ln]; exact x1)
    have hmany : (Option.bind (bif decide (1 < (S.length : Int)) then some true else Option.bind (idx N x) fun x116 => Option.bind (slices_Contains_I_int64 x116 x) fun x119 => some x119) fun p => if p = decide (Many N S) then some () else none) = some () := by
     by_cases h1 : 1 < S.length
     · rw [decide_eq_true (show (1 : Int) < (S.length : Int) by omega), cond_true, Option.bind_some, if_pos]
       exact (decide_eq_true (.inl h1)).symm
     · rw [decide_eq_false (show ¬ (1 : Int) < (S.length : Int) by omega), cond_false, hrw, Option.bind_some, slices_Contains_I_int64_eq, Option.bind_some, Option.bind_some, if_pos]
       rw [Bool.eq_iff_iff, List.any_eq_true, decide_eq_true_eq]
       constructor
       · rintro ⟨y, hy, e⟩
         have : x = y := by simpa using e
         exact .inr ⟨x, hxS, rw_, hrw, this ▸ hy⟩
       · rintro (h | ⟨v, hv, r, hr, hvr⟩)
         · exact absurd h h1
         · have hvx : v = x := by
            match S, hSl, h1, hxS, hv with
            | [y], _, _, hxS, hv =>
             rw [List.mem_singleton] at hxS hv
             rw [hxS, hv]
            | y :: z :: t, _, h1, _, _ => simp at h1
           subst hvx
           rw [hrw] at hr
           cases hr
           exact ⟨v, hvr, by simp⟩
    obtain ⟨p, hp1, hp2⟩ := Option.bind_eq_some_iff.1 hmany
    have hp : p = decide (Many N S) := Classical.byContradiction fun hne => by rw [if_neg hne] at hp2; cases hp2
    have hsl : slices_Sort_I_int64 S = some (S.mergeSort fun x y => decide (x ≤ y)) := by
     unfold slices_Sort_I_int64
     rw [if_pos ⟨hSl, by omega⟩]
    have st : i_loopsIn_b6 N M B (L, d0) (P0, (k : Int), d) = Option.bind (bif decide (Many N S) then Option.bind (appS 24 P0 [S.mergeSort fun x y => decide (x ≤ y)]) fun x124 => some x124 else some P0) fun q => some (.inr (.inr (q, (k : Int) - 1, d1))) := by
     unfold i_loopsIn_b6
     dsimp only
     rw [decide_eq_true (show (0 : Int) ≤ (k : Int) by omega), cond_true, idx_nat, hx, Option.bind_some, In_get (B := d) x0 (by omega), Option.bind_some, ew, decide_eq_false hdx, cond_false, vis_same, v1, Option.bind_some]
     dsimp only
     rw [List.nil_append, hsl, Option.bind_some, hp1, Option.bind_some, hp]
    by_cases hm : Many N S
    · have ha : appS 24 P0 [S.mergeSort fun x y => decide (x ≤ y)] = some (P0 ++ [S.mergeSort fun x y => decide (x ≤ y)]) := app1 (by omega) rfl
      obtain ⟨P, d', w, kk⟩ := second_ok hB hbr hbk hL hLM k (P0 ++ [S.mergeSort fun x y => decide (x ≤ y)]) d1 F (by omega) (by simp only [List.length_append, List.length_cons, List.length_nil]; omega) hdl (by omega)
      rw [st, decide_eq_true hm, cond_true, ha, Option.bind_some, Option.bind_some, Option.bind_some]
      refine ⟨S :: P, d', ?_, ?_⟩
      · have : keepP N (S :: P) = (S.mergeSort fun x y => decide (x ≤ y)) :: keepP N P := by
         unfold keepP
         rw [List.filter_cons, if_pos (decide_eq_true hm)]; rfl
        rw [this]
        rw [List.append_assoc] at w
        exact w
      · refine .step hdx k1 ?_
        rw [← m1.eq]; exact kk
    · obtain ⟨P, d', w, kk⟩ := second_ok hB hbr hbk hL hLM k P0 d1 F (by omega) (by omega) hdl (by omega)
      rw [st, decide_eq_false hm, cond_false, Option.bind_some, Option.bind_some]
      refine ⟨S :: P, d', ?_, ?_⟩
      · have : keepP N (S :: P) = keepP N P := by
         unfold keepP
         rw [List.filter_cons, if_neg (by simpa using hm)]
        rw [this]; exact w
      · refine .step hdx k1 ?_
        rw [← m1.eq]; exact kk
theorem i_loops : i_loopsIn N M = some (loopsN N M) := by
 have hn := g.le
 obtain ⟨B, b1, b2, b3⟩ := back_ok g
 have hbk : ∀ v u, u ∈ rowI' B v ↔ v ∈ scN N M u := fun v u => by
  unfold rowI'
  constructor
  · intro h
    cases e : idx B v with
    | none => rw [e] at h; cases h
    | some r =>
     rw [e] at h
     obtain ⟨v0, v1⟩ := idx_rng e
     obtain ⟨r', c1, c2⟩ := b3 v v0 (by omega)
     rw [e] at c1; cases c1
     exact (c2 u).1 h
  · intro h
    obtain ⟨v0, v1⟩ := In_of g.lm (mem_scN.1 h).2.1
    obtain ⟨r', c1, c2⟩ := b3 v v0 v1
    rw [c1]; exact (c2 u).2 h
 have hbin : ∀ v u, u ∈ rowI' B v → In M v ∧ In M u := fun v u h => by
  obtain ⟨a, b, _⟩ := mem_scN.1 ((hbk v u).1 h)
  exact ⟨b, a⟩
 have hrowB : ∀ v row, idx B v = some row → rowI' B v = row := fun v row e => by unfold rowI'; rw [e]; rfl
 have hfil : ∀ v row, idx B v = some row → rowI' B v = row.filter (fun u => decide (In M u)) := fun v row e => by
  rw [hrowB v row e]
  symm
  rw [List.filter_eq_self]
  intro u hu
  rw [← hrowB v row e] at hu
  exact decide_eq_true (hbin v u hu).2
 have hbr : ∀ v row, idx B v = some row → ∀ u ∈ row, 0 ≤ u ∧ u < n := fun v row e u hu => by
  rw [← hrowB v row e] at hu
  exact In_of g.lm (hbin v u hu).2
 have hs : ∀ v row, In M v → idx N v = some row → scN N M v = row.filter (fun u => decide (In M u)) := fun v row h e => by
  unfold scN
  rw [if_pos h, e]; rfl
 have h0 : ∀ x, ¬ In (List.replicate n false) x := fun x hx => by
  obtain ⟨x0, x1⟩ := In_of (n := n) (by simp) hx
  unfold In at hx
  rw [idx_int x0, List.getElem?_replicate, if_pos (by omega)] at hx
  cases hx
 have hno : In (List.replicate n false) = noV := funext fun x => propext ⟨fun h => h0 x h, fun h => h.elim⟩
 have hus : ((List.range n).map Int.ofNat).length = n := by simp
 obtain ⟨L, d1, e1, m1, k1⟩ := dfs_loop (f := i_loopsIn_b4 N M) (sc := scN N M) (M := M) (n := n) (c0 := 0) ((List.range n).map Int.ofNat) 0 [] (List.replicate n false) (fun i u ord d hu hd ho _ => by
  have hi : i < n := by have := (List.getElem?_eq_some_iff.1 hu).1; rwa [hus] at this
  have hui : u = (i : Int) := by
   rw [List.getElem?_map, List.getElem?_range hi] at hu
   exact (Option.some.inj hu).symm
  subst hui
  rw [Nat.zero_add]
  unfold i_loopsIn_b4
  dsimp only
  rw [In_get (B := M) (by omega) (by rw [g.lm]; omega), Option.bind_some, In_get (B := d) (by omega) (by omega)]
  refine ⟨fun hno => ?_, fun h1 h2 => ?_⟩
  · by_cases h1 : In M (i : Int)
    · have h2 : In d (i : Int) := Classical.byContradiction fun h => hno ⟨h1, h⟩
      simp only [decide_eq_true h1, decide_eq_true h2, cond_true, Option.bind_some, Bool.not_true, cond_false]
    · simp only [decide_eq_false h1, cond_false, Option.bind_some]
  · obtain ⟨S, d', e, mk, k⟩ := vis_ok g.ln g.lm hn (fun v row e => (g.row v row e).2) hs (2 ^ 64) (i : Int) ord d h1 h2 hd ho (by have := cnt_le d; omega)
    refine ⟨S, d', ?_, mk, k⟩
    simp only [decide_eq_true h1, decide_eq_false h2, cond_true, Option.bind_some, Bool.not_false, e]) (by simp) (Nat.zero_le _) (Nat.zero_le _)
 rw [hus] at e1
 rw [hno] at k1
 have hLin : ∀ v, v ∈ L → In M v := fun v hv => by
  obtain ⟨u, hu, w⟩ := (k1.mem_iff v).1 hv
  have huM : In M u := by simpa using (List.mem_filter.1 hu).2
  cases w.snoc_in with
  | inl h => exact h ▸ huM
  | inr h => obtain ⟨z, hz⟩ := h; exact (mem_scN.1 hz).2.1
 have hLall : ∀ v, In M v → v ∈ L := fun v hv => (k1.mem_iff v).2 ⟨v, List.mem_filter.2 ⟨by
  obtain ⟨v0, v1⟩ := In_of g.lm hv
  obtain ⟨i, hi⟩ := ex_nat v0
  subst hi
  exact List.mem_map.2 ⟨i, List.mem_range.2 (by omega), rfl⟩, by simpa using hv⟩, .one id⟩
 have hLlen : L.length ≤ 256 := by
  have := m1.cnt k1.nodup (fun x _ => h0 x)
  have := cnt_le d1
  have := m1.1
  omega
 obtain ⟨P, d', w, kk⟩ := second_ok g (d0 := d1) b2 hbr (fun v row _ e => hfil v row e) hLlen hLin L.length [] (List.replicate n false) (2 ^ 64) (Nat.le_refl _) (by simp only [List.length_nil]; omega) (by simp) (by omega)
 rw [List.take_length, hno] at kk
 obtain ⟨p1, p2, p3, p4⟩ := kos_parts hbk k1 (fun a b hb => hLall a (mem_scN.1 hb).1) noV L.reverse P kk [] (by simp) (fun x => ⟨fun h => h.elim, fun ⟨q, h, _⟩ => by cases h⟩)
 have hpart : ∀ S ∈ P, ∀ v ∈ S, (∀ x, x ∈ S ↔ Akin (scN N M) v x) ∧ In M v := fun S hS v hv => by
  obtain ⟨_, v', h1, _, h2⟩ := p1 S hS
  have hv' := (h2 v).1 hv
  refine ⟨fun x => by rw [h2]; exact ⟨fun h => hv'.symm.trans h, fun h => hv'.trans h⟩, ?_⟩
  by_cases e : v' = v
  · subst e; exact hLin _ (List.mem_reverse.1 h1)
  · exact far_in (akin_far hv' e).2
 have hsortp : ∀ S ∈ P, ∀ v ∈ S, (S.mergeSort fun x y => decide (x ≤ y)) = partG N M v := fun S hS v hv => by
  obtain ⟨hn', _⟩ := p1 S hS
  obtain ⟨h1, h2⟩ := hpart S hS v hv
  refine asc_eq (sort_asc hn') (partG_asc _) fun z => ?_
  rw [(List.mergeSort_perm S _).mem_iff, mem_partG]
  exact ⟨fun h => ⟨(hpart S hS z h).2, (h1 z).1 h⟩, fun h => (h1 z).2 h.2⟩
 have hmf : ∀ S ∈ P, ∀ v ∈ S, Many N S ↔ Far (scN N M) v := fun S hS v hv => by
  obtain ⟨h1, h2⟩ := hpart S hS v hv
  obtain ⟨hn', _⟩ := p1 S hS
  constructor
  · rintro (h | ⟨u, hu, r, hr, hur⟩)
    · have : ∃ z ∈ S, z ≠ v := Classical.byContradiction fun hno => by
       have : S.length ≤ [v].length := nodup_sub hn' fun x hx => List.mem_singleton.2 (Classical.byContradiction fun hne => hno ⟨x, hx, hne⟩)
       simp only [List.length_cons, List.length_nil] at this
       omega
      obtain ⟨z, hz, hne⟩ := this
      exact (akin_far ((h1 z).1 hz) (Ne.symm hne)).1
    · have hu' := (hpart S hS u hu).2
      have : Far (scN N M) u := ⟨u, mem_scN.2 ⟨hu', hu', r, hr, hur⟩, .one id⟩
      exact this.akin ((h1 u).1 hu).symm
  · rintro ⟨y, hy, wy⟩
    by_cases h : 1 < S.length
    · exact .inl h
    · have hyS : y ∈ S := (h1 y).2 ⟨.cons id hy (.one id), wy⟩
      have : y = v := by
       match S, h, hv, hyS with
       | [a], _, hv, hyS => rw [List.mem_singleton] at hv hyS; rw [hv, hyS]
       | a :: b :: t, h, _, _ => simp at h
      subst this
      obtain ⟨_, _, r, hr, hur⟩ := mem_scN.1 hy
      exact .inr ⟨y, hv, r, hr, hur⟩
 have hne : ∀ S ∈ P, ∃ v, v ∈ S := fun S hS => by
  obtain ⟨_, v, _, _, h⟩ := p1 S hS
  exact ⟨v, (h v).2 (Akin.refl v)⟩
 have hsp : (keepP N P).mergeSort leI = loopsN N M := by
  refine sort_parts (fun T hT => ?_) (fun v hv => ?_) ?_
  · unfold keepP at hT
    obtain ⟨S, hS, rfl⟩ := List.mem_map.1 hT
    obtain ⟨hS, hm⟩ := List.mem_filter.1 hS
    obtain ⟨v, hv⟩ := hne S hS
    exact ⟨v, (hmf S hS v hv).1 (of_decide_eq_true hm), hsortp S hS v hv⟩
  · rcases p2 v (List.mem_reverse.2 (hLall v (far_in hv))) with h | ⟨S, hS, hvS⟩
    · exact h.elim
    · unfold keepP
      exact List.mem_map.2 ⟨S, List.mem_filter.2 ⟨hS, decide_eq_true ((hmf S hS v hvS).2 hv)⟩, hsortp S hS v hvS⟩
  · unfold keepP
    rw [List.pairwise_map]
    refine (p3.filter _).imp fun {S T} h x hx hx' => ?_
    rw [(List.mergeSort_perm _ _).mem_iff] at hx hx'
    exact h x hx hx'
 have hklen : (keepP N P).length ≤ 1000 := by
  have h1 : (loopsN N M).length ≤ n := by
   unfold loopsN
   rw [List.length_map]
   exact Nat.le_trans (List.length_filter_le _ _) (Nat.le_trans (marksL_len _ _) (by rw [g.lm]; exact Nat.le_refl _))
  rw [← hsp, List.length_mergeSort] at h1
  omega
 have hall : ((keepP N P).all fun l => !l.isEmpty) = true := by
  rw [List.all_eq_true]
  intro T hT
  unfold keepP at hT
  obtain ⟨S, hS, rfl⟩ := List.mem_map.1 hT
  obtain ⟨v, hv⟩ := hne S (List.mem_filter.1 hS).1
  have := (List.mergeSort_perm S fun x y => decide (x ≤ y)).mem_iff.2 hv
  cases e : (S.mergeSort fun x y => decide (x ≤ y)) with
  | nil => rw [e] at this; cases this
  | cons _ _ => rfl
 have ew : IntKind.i64.wrap ((L.length : Int) - 1) = (L.length : Int) - 1 := wr' (by omega) (by omega)
 have e1' : cntM (i_loopsIn_b4 N M) n 0 (([] : List Int), List.replicate n false) = some (.inr (L, d1)) := by
  rw [← List.nil_append L]; exact e1
 have b1' : cntM (i_loopsIn_b0 N M) n 0 (List.replicate n []) = some (.inr B) := by rw [← b1, g.ln]
 unfold i_loopsIn
 rw [g.ln, mkS_nat (by omega) rfl, Option.bind_some, b1', Option.bind_some, aft_inr, mkS_nat (by omega) rfl, Option.bind_some, e1', Option.bind_some, aft_inr, Option.bind_some]
 dsimp only
 rw [ew, w, Option.bind_some, aft_inr]
 dsimp only
 rw [List.nil_append]
 unfold slices_SortFunc_I_I
 rw [if_pos ⟨by omega, hall⟩, Option.bind_some, hsp]
end
end Go.Proofs.YtcmamhmpoinmnaaGreat
set_option linter.unusedVariables false
set_option linter.unusedSimpArgs false
namespace Go.Proofs.YtcmamhmpoinmnaaGreat
open Go Go.Wk Go.Proofs
open Classical
theorem noIn {n : Nat} (x : Int) : ¬ In (List.replicate n false) x := fun hx => by
 obtain ⟨x0, x1⟩ := In_of (n := n) (by simp) hx
 unfold In at hx
 rw [idx_int x0, List.getElem?_replicate, if_pos (by omega)] at hx
 cases hx
theorem mark_loop {ρ : Type} {f : Int → List Bool → Option (ρ ⊕ (List Bool ⊕ List Bool))} {set : List Int} {n : Nat} {d : List Bool} (hd : d.length = n) (hs : ∀ x ∈ set, 0 ≤ x ∧ x < n)
 (hf : ∀ (i : Nat) x s, set[i]? = some x → s.length = n → f (i : Int) s = Option.bind (idx s x) fun _ => Option.bind (setI s x true) fun y => some (.inr (.inr y))) :
 ∃ M, cntM f set.length 0 d = some (.inr M) ∧ Mk n d set M := by
 obtain ⟨M, h1, h2⟩ := cnt_inv (f := f) (fun j s => Mk n d (set.take j) s) set.length (s := d) ⟨hd, fun x => by simp⟩ (fun j s hj ⟨a1, a2⟩ => by
  have hx : set[j]? = some set[j] := List.getElem?_eq_getElem hj
  generalize set[j] = x at hx
  obtain ⟨x0, x1⟩ := hs x (List.mem_of_getElem? hx)
  obtain ⟨y, hy, my⟩ := setT a1 x0 x1
  obtain ⟨b, hb⟩ := idx_some (xs := s) (i := x) x0 (by omega)
  rw [hf j x s hx a1, hb, Option.bind_some, hy, Option.bind_some]
  refine ⟨_, rfl, my.1, fun z => ?_⟩
  rw [my.2, a2, List.take_add_one, hx]
  simp [or_assoc])
 rw [List.take_length] at h2
 exact ⟨M, h1, h2⟩
theorem s_marks {set : List Int} {n : Nat} (hn : n ≤ 256) (hs : ∀ x ∈ set, 0 ≤ x ∧ x < n) : ∃ M, s_l1Marks set (n : Int) = some M ∧ M.length = n ∧ ∀ v, In M v ↔ v ∈ set := by
 obtain ⟨M, h1, h2, h3⟩ := mark_loop (f := s_l1Marks_b0 set) (set := set) (n := n) (d := List.replicate n false) (by simp) hs (fun i x s hx hl => by
  unfold s_l1Marks_b0
  rw [idx_nat, hx, Option.bind_some])
 unfold s_l1Marks
 rw [mkS_nat (by omega) rfl, Option.bind_some, h1, Option.bind_some, aft_inr]
 exact ⟨M, rfl, h2, fun v => by rw [h3]; simp [noIn]⟩
section
variable {N : List (List Int)} {M : List Bool} {n : Nat} (g : Gr N M n)
include g
theorem s_beyondN {c : Int} (hc : In M c) : ∃ R, s_l1Beyond N M [c] = some R ∧ R.length = n ∧ ∀ x, In R x ↔ Far2 (scN N M) c x := by
 obtain ⟨c0, c1⟩ := In_of g.lm hc
 have hmem : ∀ {v u : Int}, In M v → In M u → u ∈ rowI' N v → u ∈ scN N M v := fun {v u} h1 h2 h3 => by
  unfold rowI' at h3
  cases e : idx N v with
  | none => rw [e] at h3; cases h3
  | some r => rw [e] at h3; exact mem_scN.2 ⟨h1, h2, r, e, h3⟩
 have hin : ∀ x, Far2 (scN N M) c x → In M x := fun x ⟨y, h1, h2⟩ => by
  rcases h2.snoc_in with h | ⟨z, h⟩
  · rw [← h]; exact (mem_scN.1 h1).2.1
  · exact (mem_scN.1 h).2.1
 refine s_beyond (row := rowI' N) (Y := In M) (S0 := fun x => x = c) (Base := fun _ => False) (Src := Far2 (scN N M) c) (n := n) (N := N) (low := M) (fun v v0 v1 => ?_) g.le g.lm (fun v => Iff.rfl) (fun x u hx hu hy => ?_) g.ln c0 c1 (fun x => Iff.rfl) (fun x h => h) (fun C _ hC x hx => ?_)
 · obtain ⟨r, hr⟩ := idx_some (xs := N) (i := v) v0 (by rw [g.ln]; exact v1)
   have : rowI' N v = r := by unfold rowI'; rw [hr]; rfl
   rw [this]
   exact ⟨hr, g.row v r hr⟩
 · rcases hx with e | h
   · subst e
     exact ⟨u, hmem hc hy hu, .one id⟩
   · obtain ⟨y, h1, h2⟩ := h
     exact ⟨y, h1, h2.snoc (hmem (hin x ⟨y, h1, h2⟩) hy hu) id⟩
 · obtain ⟨y, h1, h2⟩ := hx
   have hrow : ∀ {a b : Int}, b ∈ scN N M a → b ∈ rowI' N a ∧ In M b := fun {a b} h => by
    obtain ⟨_, h2, r, e, h3⟩ := mem_scN.1 h
    unfold rowI'
    rw [e]
    exact ⟨h3, h2⟩
   have hy := hC c y (.inl rfl) (hrow h1).1 (hrow h1).2
   clear h1
   induction h2 with
   | one _ => exact hy
   | cons _ e _ ih => exact ih (hC _ _ (.inr hy) (hrow e).1 (hrow e).2)
theorem s_loops {set : List Int} (hset : set = marksL M M.length) (hM : s_l1Marks set (n : Int) = some M) : s_l1Loops N set = some (loopsN N M) := by
 have hn := g.le
 have hmem : ∀ v, v ∈ set ↔ In M v := fun v => by rw [hset]; exact mem_marksL
 have hlen : set.length ≤ n := by rw [hset]; have := marksL_len M M.length; have := g.lm; omega
 have hasc : Asc set := by rw [hset]; exact marksL_asc _ _
 have hl := g.ln
 have hlM := g.lm
 obtain ⟨Fa, f1, f2, f3⟩ := cnt_inv (f := s_l1Loops_b0 N M) (fun j (F : List (List Bool)) => F.length = j ∧ ∀ i : Nat, i < j → In M (i : Int) → ∃ R, F[i]? = some R ∧ R.length = n ∧ ∀ u, In R u ↔ Far2 (scN N M) (i : Int) u) N.length (s := []) ⟨rfl, fun i hi => absurd hi (Nat.not_lt_zero i)⟩ (fun j F hj ⟨a1, a2⟩ => by
  unfold s_l1Loops_b0
  rw [In_get (B := M) (by omega) (by omega), Option.bind_some]
  by_cases h : In M (j : Int)
  · obtain ⟨R, r1, r2, r3⟩ := s_beyondN g h
    simp only [decide_eq_true h, cond_true, r1, Option.bind_some, app1 (show F.length ≤ 10000000000 by omega) (show Nat.ble 24 1024 = true from rfl)]
    refine ⟨_, rfl, by simp [a1], fun i hi hin => ?_⟩
    by_cases e : i = j
    · subst e
      exact ⟨R, by rw [← a1]; simp, r2, r3⟩
    · obtain ⟨R', q1, q2⟩ := a2 i (by omega) hin
      exact ⟨R', by rw [List.getElem?_append_left (by omega)]; exact q1, q2⟩
  · simp only [decide_eq_false h, cond_false, Option.bind_some, app1 (show F.length ≤ 10000000000 by omega) (show Nat.ble 24 1024 = true from rfl)]
    refine ⟨_, rfl, by simp [a1], fun i hi hin => ?_⟩
    by_cases e : i = j
    · subst e; exact absurd hin h
    · obtain ⟨R', q1, q2⟩ := a2 i (by omega) hin
      exact ⟨R', by rw [List.getElem?_append_left (by omega)]; exact q1, q2⟩)
 have far : ∀ v, In M v → ∃ R, idx Fa v = some R ∧ R.length = n ∧ ∀ u, In R u ↔ Far2 (scN N M) v u := fun v hv => by
  obtain ⟨v0, v1⟩ := In_of hlM hv
  obtain ⟨i, hi⟩ := ex_nat v0
  subst hi
  obtain ⟨R, q1, q2⟩ := f3 i (by omega) hv
  exact ⟨R, by rw [idx_nat]; exact q1, q2⟩
 have hpart : ∀ v, In M v → Far (scN N M) v → ∀ u, In M u → ((Far2 (scN N M) v u ∧ Far2 (scN N M) u v) ↔ Akin (scN N M) v u) := fun v hv hf u hu => by
  constructor
  · exact fun ⟨a, b⟩ => ⟨a.wy, b.wy⟩
  · intro h
    by_cases e : v = u
    · subst e; exact ⟨hf, hf⟩
    · exact ⟨h.1.far e, h.2.far (Ne.symm e)⟩
 have inner : ∀ v, In M v → Far (scN N M) v → ∀ d : List Bool, d.length = n → ∃ d', cntM (s_l1Loops_b4 set Fa v) set.length 0 ([], d) = some (.inr (partG N M v, d')) ∧ Mk n d (partG N M v) d' := fun v hv hf d hd => by
  obtain ⟨v0, v1⟩ := In_of hlM hv
  obtain ⟨Rv, q1, q2, q3⟩ := far v hv
  obtain ⟨⟨p, d'⟩, h1, h2, h3⟩ := cnt_inv (f := s_l1Loops_b4 set Fa v) (fun j (s : List Int × List Bool) => s.1 = (set.take j).filter (fun u => decide (Akin (scN N M) v u)) ∧ Mk n d ((set.take j).filter (fun u => decide (Akin (scN N M) v u))) s.2) set.length (s := ([], d)) ⟨rfl, hd, fun x => by simp⟩ (fun j s hj ⟨a1, a2⟩ => by
   obtain ⟨p, dd⟩ := s
   dsimp only at a1 a2
   have hu : set[j]? = some set[j] := List.getElem?_eq_getElem hj
   generalize set[j] = u at hu
   have huM := (hmem u).1 (List.mem_of_getElem? hu)
   obtain ⟨u0, u1⟩ := In_of hlM huM
   obtain ⟨Ru, w1, w2, w3⟩ := far u huM
   have htk : (set.take (j + 1)).filter (fun u => decide (Akin (scN N M) v u)) = (set.take j).filter (fun u => decide (Akin (scN N M) v u)) ++ (if Akin (scN N M) v u then [u] else []) := by
    rw [List.take_add_one, hu, List.filter_append]
    congr 1
    by_cases h : Akin (scN N M) v u
    · rw [if_pos h]; simp [h]
    · rw [if_neg h]; simp [h]
   have hpl : p.length ≤ n := by
    rw [a1]
    exact Nat.le_trans (List.length_filter_le _ _) (by rw [List.length_take]; omega)
   have hcond : (Option.bind (bif decide (In Rv u) then Option.bind (idx Fa u) fun x91 => Option.bind (idx x91 v) fun x94 => some x94 else some false) fun p => if p = decide (Akin (scN N M) v u) then some () else none) = some () := by
    have hk := hpart v hv hf u huM
    by_cases h1 : Far2 (scN N M) v u
    · rw [decide_eq_true ((q3 u).2 h1), cond_true, w1, Option.bind_some, In_get (B := Ru) v0 (by omega), Option.bind_some, Option.bind_some, if_pos]
      exact decide_eq_decide.2 (by rw [w3, ← hk]; exact ⟨fun h => ⟨h1, h⟩, fun h => h.2⟩)
    · rw [decide_eq_false (fun h => h1 ((q3 u).1 h)), cond_false, Option.bind_some, if_pos]
      exact (decide_eq_false fun h => h1 (hk.2 h).1).symm
   obtain ⟨b, hb1, hb2⟩ := Option.bind_eq_some_iff.1 hcond
   have hb : b = decide (Akin (scN N M) v u) := Classical.byContradiction fun hne => by rw [if_neg hne] at hb2; cases hb2
   unfold s_l1Loops_b4
   dsimp only
   rw [idx_nat, hu, Option.bind_some, q1, Option.bind_some, In_get (B := Rv) u0 (by omega), Option.bind_some, hb1, Option.bind_some, hb, htk]
   by_cases h : Akin (scN N M) v u
   · obtain ⟨y, hy, my⟩ := setT a2.1 u0 u1
     obtain ⟨bb, hbb⟩ := idx_some (xs := dd) (i := u) u0 (by rw [a2.1]; exact u1)
     rw [decide_eq_true h, cond_true, app1 (by omega) rfl, Option.bind_some, hbb, Option.bind_some, hy, Option.bind_some, Option.bind_some, if_pos h]
     refine ⟨_, rfl, by rw [a1], my.1, fun z => ?_⟩
     rw [my.2, a2.2, List.mem_append, or_assoc]
   · rw [decide_eq_false h, cond_false, Option.bind_some, if_neg h, List.append_nil]
     exact ⟨_, rfl, a1, a2⟩)
  rw [List.take_length] at h2 h3
  have hp : partG N M v = set.filter (fun u => decide (Akin (scN N M) v u)) := by unfold partG; rw [hset]
  rw [← hp] at h2 h3
  dsimp only at h2
  subst h2
  exact ⟨d', h1, h3⟩
 obtain ⟨⟨P, dd⟩, h1, h2, h3, h4⟩ := cnt_inv (f := s_l1Loops_b2 set Fa) (fun j (s : List (List Int) × List Bool) => s.1 = ((set.take j).filter (fun v => decide (Lead (scN N M) v))).map (partG N M) ∧ s.2.length = n ∧ ∀ u, In s.2 u ↔ ∃ w ∈ set.take j, Far (scN N M) w ∧ Akin (scN N M) w u) set.length (s := ([], List.replicate n false)) ⟨rfl, by simp, fun u => by simp [noIn]⟩ (fun j s hj ⟨a1, a2, a3⟩ => by
  obtain ⟨P, dd⟩ := s
  dsimp only at a1 a2 a3
  have hv : set[j]? = some set[j] := List.getElem?_eq_getElem hj
  generalize set[j] = v at hv
  have hvM := (hmem v).1 (List.mem_of_getElem? hv)
  obtain ⟨v0, v1⟩ := In_of hlM hvM
  obtain ⟨Rv, q1, q2, q3⟩ := far v hvM
  have hbefore : ∀ w, w ∈ set → w < v → w ∈ set.take j := fun w hw hlt => by
   obtain ⟨i, hi⟩ := List.getElem?_of_mem hw
   have hij : i < j := Classical.byContradiction fun hno => by
    by_cases e : i = j
    · subst e; rw [hi] at hv; cases hv; omega
    · have := asc_get hasc hv hi (by omega); omega
   exact List.mem_of_getElem? (i := i) (by rw [List.getElem?_take, if_pos hij]; exact hi)
  have hafter : ∀ w, w ∈ set.take j → w < v := fun w hw => by
   obtain ⟨i, hi⟩ := List.getElem?_of_mem hw
   rw [List.getElem?_take] at hi
   by_cases hij : i < j
   · rw [if_pos hij] at hi; exact asc_get hasc hi hv hij
   · rw [if_neg hij] at hi; cases hi
  have hlead : ¬ In dd v → Far (scN N M) v → Lead (scN N M) v := fun h1 h2 => ⟨h2, fun w hw hk => h1 ((a3 v).2 ⟨w, hbefore w ((hmem w).2 (far_in (h2.akin hk.symm))) hw, h2.akin hk.symm, hk⟩)⟩
  have hnot : In dd v → ¬ Lead (scN N M) v := fun h1 h2 => by
   obtain ⟨w, hw, _, hk⟩ := (a3 v).1 h1
   exact h2.2 w (hafter w hw) hk
  have htk : set.take (j + 1) = set.take j ++ [v] := by rw [List.take_add_one, hv]; rfl
  have hstay : ¬ Lead (scN N M) v → (∀ u, Far (scN N M) v → Akin (scN N M) v u → In dd u) → P = ((set.take (j + 1)).filter (fun v => decide (Lead (scN N M) v))).map (partG N M) ∧ dd.length = n ∧ ∀ u, In dd u ↔ ∃ w ∈ set.take (j + 1), Far (scN N M) w ∧ Akin (scN N M) w u := fun hno hin => by
   rw [htk]
   refine ⟨by rw [List.filter_append, a1]; simp [hno], a2, fun u => ?_⟩
   rw [a3]
   constructor
   · exact fun ⟨w, h1, h2⟩ => ⟨w, List.mem_append_left _ h1, h2⟩
   · rintro ⟨w, h1, h2, h3⟩
     rcases List.mem_append.1 h1 with h1 | h1
     · exact ⟨w, h1, h2, h3⟩
     · rw [List.mem_singleton] at h1
       subst h1
       exact (a3 u).1 (hin u h2 h3)
  unfold s_l1Loops_b2
  dsimp only
  rw [idx_nat, hv, Option.bind_some, In_get (B := dd) v0 (by omega), Option.bind_some]
  by_cases hd : In dd v
  · rw [decide_eq_true hd, cond_true, Option.bind_some, cond_true]
    refine ⟨_, rfl, hstay (hnot hd) fun u h1 h2 => ?_⟩
    obtain ⟨w, hw, hf, hk⟩ := (a3 v).1 hd
    exact (a3 u).2 ⟨w, hw, hf, hk.trans h2⟩
  · rw [decide_eq_false hd, cond_false, q1, Option.bind_some, In_get (B := Rv) v0 (by omega), Option.bind_some, Option.bind_some]
    by_cases hf : Far (scN N M) v
    · obtain ⟨d', i1, i2⟩ := inner v hvM hf dd a2
      have hPl : P.length ≤ 256 := by
       rw [a1, List.length_map]
       exact Nat.le_trans (List.length_filter_le _ _) (by rw [List.length_take]; omega)
      rw [decide_eq_true ((q3 v).2 hf), Bool.not_true, cond_false, i1, Option.bind_some, aft_inr]
      dsimp only
      rw [app1 (by omega) rfl, Option.bind_some]
      refine ⟨_, rfl, ?_, i2.1, fun u => ?_⟩
      · rw [htk, List.filter_append, a1]; simp [hlead hd hf]
      · dsimp only
        rw [i2.2, a3, htk]
        constructor
        · rintro (⟨w, h1, h2⟩ | h)
          · exact ⟨w, List.mem_append_left _ h1, h2⟩
          · exact ⟨v, by simp, hf, (mem_partG.1 h).2⟩
        · rintro ⟨w, h1, h2, h3⟩
          rcases List.mem_append.1 h1 with h1 | h1
          · exact .inl ⟨w, h1, h2, h3⟩
          · rw [List.mem_singleton] at h1
            subst h1
            exact .inr (mem_partG.2 ⟨far_in (h2.akin h3), h3⟩)
    · rw [decide_eq_false (fun h => hf ((q3 v).1 h)), Bool.not_false, cond_true]
      exact ⟨_, rfl, hstay (fun h => hf h.1) fun u h => absurd h hf⟩)
 rw [List.take_length] at h2
 dsimp only at h2
 unfold s_l1Loops
 rw [hl, hM, Option.bind_some, ← hl, f1, Option.bind_some, aft_inr, hl, mkS_nat (by omega) rfl, Option.bind_some, h1, Option.bind_some, aft_inr]
 dsimp only
 rw [h2]
 unfold loopsN
 rw [hset]
end
end Go.Proofs.YtcmamhmpoinmnaaGreat
set_option linter.unusedVariables false
set_option linter.unusedSimpArgs false
namespace Go.Proofs.YtcmamhmpoinmnaaGreat
open Go Go.Wk Go.Proofs
open Classical
def Broken (S : List Int) (p : Pair) : Prop := (∃ x ∈ S, x ∈ p.Ask) ∧ ¬ ∃ x ∈ S, x ∈ p.Give
noncomputable def leftP (pairs : List Pair) (S : List Int) : List Int := S.filter fun x => decide (¬ ∃ p ∈ pairs, Broken S p ∧ x ∈ p.Ask)
theorem leftP_all {pairs : List Pair} {S : List Int} : leftP pairs S = S ↔ ∀ p ∈ pairs, ¬ Broken S p := by
 unfold leftP
 rw [List.filter_eq_self]
 constructor
 · intro h p hp hb
   obtain ⟨x, hx, hxa⟩ := hb.1
   have := h x hx
   rw [decide_eq_true_eq] at this
   exact this ⟨p, hp, hb, hxa⟩
 · intro h x hx
   rw [decide_eq_true_eq]
   rintro ⟨p, hp, hb, _⟩
   exact h p hp hb
theorem leftP_len {pairs : List Pair} {S : List Int} (h : ¬ leftP pairs S = S) : (leftP pairs S).length < S.length := by
 have h1 : (leftP pairs S).length ≤ S.length := List.length_filter_le _ _
 by_cases e : (leftP pairs S).length = S.length
 · exact absurd (List.Sublist.eq_of_length (List.filter_sublist (l := S)) e) h
 · omega
section
variable {n : Nat} {pairs : List Pair} {S : List Int} (hn : n ≤ 256) (hp : ∀ p ∈ pairs, St n p.Ask ∧ St n p.Give) (hpl : pairs.length ≤ 4) (hS : St n S)
include hn hS
theorem i_meets_eq {ys : List Int} (hy : St n ys) : i_meets S ys = some (decide (∃ x ∈ S, x ∈ ys)) := by
 have a := hS.len
 have b := hy.len
 unfold i_meets
 rw [lessOf_eq hy.asc (by omega) (by omega), Option.bind_some]
 congr 1
 apply decide_eq_decide.2
 have hle : (S.filter fun x => !decide (x ∈ ys)).length ≤ S.length := List.length_filter_le _ _
 constructor
 · intro h
   refine Classical.byContradiction fun hno => ?_
   have : (S.filter fun x => !decide (x ∈ ys)) = S := by
    rw [List.filter_eq_self]
    intro x hx
    simp only [Bool.not_eq_true', decide_eq_false_iff_not]
    exact fun hxy => hno ⟨x, hx, hxy⟩
   rw [this] at h
   omega
 · rintro ⟨x, hx, hxy⟩
   refine Classical.byContradiction fun hno => ?_
   have : (S.filter fun x => !decide (x ∈ ys)) = S := List.Sublist.eq_of_length List.filter_sublist (by omega)
   rw [List.filter_eq_self] at this
   have := this x hx
   simp [hxy] at this
include hp hpl
theorem i_brokenBy_eq : ∃ K, i_brokenBy pairs S = some K ∧ K.length ≤ 4 ∧ ∀ k, k ∈ K ↔ ∃ p, idx pairs k = some p ∧ Broken S p := by
 obtain ⟨K, h1, h2, h3⟩ := cnt_inv (f := i_brokenBy_b0 pairs S) (fun j K => K.length ≤ j ∧ ∀ k, k ∈ K ↔ k < (j : Int) ∧ ∃ p, idx pairs k = some p ∧ Broken S p) pairs.length (s := []) ⟨Nat.le_refl _, fun k => by
  constructor
  · intro h; cases h
  · rintro ⟨h, p, e, _⟩
    have := (idx_rng e).1
    omega⟩ (fun j K hj ⟨a1, a2⟩ => by
  have hpj : pairs[j]? = some pairs[j] := by simp [hj]
  generalize pairs[j] = p at hpj
  obtain ⟨p1, p2⟩ := hp p (List.mem_of_getElem? hpj)
  have hcond : (Option.bind (bif decide (∃ x ∈ S, x ∈ p.Ask) then Option.bind (i_meets S p.Give) fun x24 => some (!x24) else some false) fun b => if b = decide (Broken S p) then some () else none) = some () := by
   by_cases h : ∃ x ∈ S, x ∈ p.Ask
   · rw [decide_eq_true h, cond_true, i_meets_eq hn hS p2, Option.bind_some, Option.bind_some, if_pos]
     rw [← decide_not]
     exact decide_eq_decide.2 ⟨fun k => ⟨h, k⟩, fun k => k.2⟩
   · rw [decide_eq_false h, cond_false, Option.bind_some, if_pos]
     exact (decide_eq_false fun k => h k.1).symm
  obtain ⟨b, hb1, hb2⟩ := Option.bind_eq_some_iff.1 hcond
  have hb : b = decide (Broken S p) := Classical.byContradiction fun hne => by rw [if_neg hne] at hb2; cases hb2
  unfold i_brokenBy_b0
  rw [idx_nat, hpj, Option.bind_some, i_meets_eq hn hS p1, Option.bind_some, hb1, Option.bind_some, hb]
  by_cases h : Broken S p
  · rw [decide_eq_true h, cond_true, app1 (by omega) rfl, Option.bind_some, Option.bind_some]
    refine ⟨_, rfl, by simp; omega, fun k => ?_⟩
    rw [List.mem_append, List.mem_singleton, a2]
    constructor
    · rintro (⟨k1, k2⟩ | e)
      · exact ⟨by omega, k2⟩
      · subst e; exact ⟨by omega, p, by rw [idx_nat]; exact hpj, h⟩
    · rintro ⟨k1, k2⟩
      by_cases e : k = (j : Int)
      · exact .inr e
      · exact .inl ⟨by omega, k2⟩
  · rw [decide_eq_false h, cond_false, Option.bind_some]
    refine ⟨_, rfl, by omega, fun k => ?_⟩
    rw [a2]
    constructor
    · rintro ⟨k1, k2⟩; exact ⟨by omega, k2⟩
    · rintro ⟨k1, q, e, hq⟩
      by_cases ek : k = (j : Int)
      · subst ek
        rw [idx_nat, hpj] at e
        cases e; exact absurd hq h
      · exact ⟨by omega, q, e, hq⟩)
 unfold i_brokenBy
 rw [h1, Option.bind_some, aft_inr]
 refine ⟨K, rfl, by omega, fun k => ?_⟩
 rw [h3]
 exact ⟨fun h => h.2, fun ⟨p, e, h⟩ => ⟨(idx_rng e).2, p, e, h⟩⟩
theorem i_left : ∃ K, i_brokenBy pairs S = some K ∧ cntM (i_fairIn_b2 pairs K) K.length 0 S = some (.inr (leftP pairs S)) := by
 obtain ⟨K, k1, k2, k3⟩ := i_brokenBy_eq hn hp hpl hS
 refine ⟨K, k1, ?_⟩
 obtain ⟨s, h1, h2⟩ := cnt_inv (f := i_fairIn_b2 pairs K) (fun j s => s = S.filter fun x => decide (¬ ∃ k ∈ K.take j, ∃ p, idx pairs k = some p ∧ x ∈ p.Ask)) K.length (s := S) (by
  symm; rw [List.filter_eq_self]; intro x _; simp) (fun j s hj hs => by
  have hk : K[j]? = some K[j] := by simp [hj]
  generalize K[j] = k at hk
  obtain ⟨p, e, hb⟩ := (k3 k).1 (List.mem_of_getElem? hk)
  have hpm : p ∈ pairs := by
   obtain ⟨k0, _⟩ := idx_rng e
   rw [idx_int k0] at e
   exact List.mem_of_getElem? e
  have a := hS.len
  have b := (hp p hpm).1.len
  have hl : s.length ≤ 100000 := by rw [hs]; exact Nat.le_trans (List.length_filter_le _ _) (by omega)
  unfold i_fairIn_b2
  rw [idx_nat, hk, Option.bind_some, e, Option.bind_some, lessOf_eq (hp p hpm).1.asc (by omega) hl, Option.bind_some]
  refine ⟨_, rfl, ?_⟩
  rw [hs, List.filter_filter]
  refine List.filter_congr fun x _ => ?_
  rw [List.take_add_one, hk, Bool.eq_iff_iff]
  simp only [Option.toList_some, Bool.and_eq_true, Bool.not_eq_true', decide_eq_false_iff_not, decide_eq_true_eq, List.mem_append, List.mem_singleton]
  constructor
  · rintro ⟨h1, h2⟩ ⟨k', h3 | h3, q, e', h4⟩
    · exact h2 ⟨k', h3, q, e', h4⟩
    · subst h3; rw [e] at e'; cases e'; exact h1 h4
  · intro h
    exact ⟨fun hx => h ⟨k, .inr rfl, p, e, hx⟩, fun ⟨k', h3, q, e', h4⟩ => h ⟨k', .inl h3, q, e', h4⟩⟩)
 rw [h1, h2, List.take_length]
 congr 2
 unfold leftP
 refine List.filter_congr fun x _ => decide_eq_decide.2 (not_congr ?_)
 constructor
 · rintro ⟨k, hk, p, e, hx⟩
   obtain ⟨q, e', hb⟩ := (k3 k).1 hk
   rw [e] at e'; cases e'
   obtain ⟨k0, _⟩ := idx_rng e
   rw [idx_int k0] at e
   exact ⟨p, List.mem_of_getElem? e, hb, hx⟩
 · rintro ⟨p, hpm, hb, hx⟩
   obtain ⟨i, hi⟩ := List.getElem?_of_mem hpm
   exact ⟨(i : Int), (k3 _).2 ⟨p, by rw [idx_nat]; exact hi, hb⟩, p, by rw [idx_nat]; exact hi, hx⟩
omit hpl in
theorem s_vain : ∃ R, s_l33Vain pairs S = some R ∧ St n R ∧ ∀ z, z ∈ R ↔ ∃ p ∈ pairs, Broken S p ∧ z ∈ S ∧ z ∈ p.Ask := by
 obtain ⟨R, h1, h2, h3⟩ := cnt_inv (f := s_l33Vain_b0 pairs S) (fun j R => St n R ∧ ∀ z, z ∈ R ↔ ∃ p ∈ pairs.take j, Broken S p ∧ z ∈ S ∧ z ∈ p.Ask) pairs.length (s := []) ⟨⟨List.Pairwise.nil, fun x h => by cases h⟩, fun z => by simp⟩ (fun j R hj ⟨a1, a2⟩ => by
  have hpj : pairs[j]? = some pairs[j] := by simp [hj]
  generalize pairs[j] = p at hpj
  obtain ⟨p1, p2⟩ := hp p (List.mem_of_getElem? hpj)
  have hA : ∀ q : List Int, decide ((0 : Int) < ((S.filter fun x => decide (x ∈ q)).length : Int)) = decide (∃ x ∈ S, x ∈ q) := fun q => decide_eq_decide.2 (by
   constructor
   · intro h
     obtain ⟨x, hx⟩ := List.exists_mem_of_length_pos (l := S.filter fun x => decide (x ∈ q)) (by omega)
     obtain ⟨h1, h2⟩ := List.mem_filter.1 hx
     exact ⟨x, h1, by simpa using h2⟩
   · rintro ⟨x, h1, h2⟩
     have := List.length_pos_of_mem (List.mem_filter.2 ⟨h1, decide_eq_true h2⟩ : x ∈ S.filter fun x => decide (x ∈ q))
     omega)
  have hcond : (Option.bind (bif decide ((0 : Int) < ((S.filter fun x => decide (x ∈ p.Ask)).length : Int)) then Option.bind (idx pairs (j : Int)) fun x29 => Option.bind (s_MeetOf S x29.Give) fun x32 => some ((x32.length : Int) == 0) else some false) fun b => if b = decide (Broken S p) then some () else none) = some () := by
   rw [hA]
   by_cases h : ∃ x ∈ S, x ∈ p.Ask
   · rw [decide_eq_true h, cond_true, idx_nat, hpj, Option.bind_some, s_MeetOf_eq hn hS p2, Option.bind_some, Option.bind_some, if_pos]
     have h0 := hA p.Give
     by_cases hg : ∃ x ∈ S, x ∈ p.Give
     · rw [decide_eq_true hg, decide_eq_true_eq] at h0
       rw [decide_eq_false (fun k : Broken S p => k.2 hg), beq_eq_false_iff_ne]
       omega
     · rw [decide_eq_false hg, decide_eq_false_iff_not] at h0
       rw [decide_eq_true (show Broken S p from ⟨h, hg⟩), beq_iff_eq]
       omega
   · rw [decide_eq_false h, cond_false, Option.bind_some, if_pos]
     exact (decide_eq_false fun k => h k.1).symm
  obtain ⟨b, hb1, hb2⟩ := Option.bind_eq_some_iff.1 hcond
  have hb : b = decide (Broken S p) := Classical.byContradiction fun hne => by rw [if_neg hne] at hb2; cases hb2
  unfold s_l33Vain_b0
  rw [idx_nat, hpj, Option.bind_some, s_MeetOf_eq hn hS p1, Option.bind_some]
  rw [idx_nat, hpj] at hb1
  rw [hb1, Option.bind_some, hb, List.take_add_one, hpj]
  by_cases h : Broken S p
  · obtain ⟨R', r1, r2, r3⟩ := s_BothOf_eq hn a1 (hS.filter fun x => decide (x ∈ p.Ask))
    rw [decide_eq_true h, cond_true, r1, Option.bind_some, Option.bind_some]
    refine ⟨_, rfl, r2, fun z => ?_⟩
    rw [r3, a2, List.mem_filter, decide_eq_true_eq]
    simp only [Option.toList_some, List.mem_append, List.mem_singleton]
    constructor
    · rintro (⟨q, h1, h2⟩ | h1)
      · exact ⟨q, .inl h1, h2⟩
      · exact ⟨p, .inr rfl, h, h1⟩
    · rintro ⟨q, h1 | h1, h2, h3⟩
      · exact .inl ⟨q, h1, h2, h3⟩
      · subst h1; exact .inr h3
  · rw [decide_eq_false h, cond_false, Option.bind_some]
    refine ⟨_, rfl, a1, fun z => ?_⟩
    rw [a2]
    simp only [Option.toList_some, List.mem_append, List.mem_singleton]
    constructor
    · rintro ⟨q, h1, h2⟩; exact ⟨q, .inl h1, h2⟩
    · rintro ⟨q, h1 | h1, h2, h3⟩
      · exact ⟨q, h1, h2, h3⟩
      · subst h1; exact absurd h2 h)
 rw [List.take_length] at h3
 unfold s_l33Vain
 rw [h1, Option.bind_some, aft_inr]
 exact ⟨R, rfl, h2, h3⟩
end
noncomputable def scP (N : List (List Int)) (C : Int → Prop) (v : Int) : List Int := if C v then (rowI' N v).filter (fun u => decide (C u)) else []
theorem mem_scP {N : List (List Int)} {C : Int → Prop} {v u : Int} : u ∈ scP N C v ↔ C v ∧ C u ∧ u ∈ rowI' N v := by
 unfold scP
 by_cases h : C v
 · rw [if_pos h, List.mem_filter, decide_eq_true_eq]; simp [h, and_comm]
 · rw [if_neg h]; simp [h]
theorem scN_scP (N : List (List Int)) (M : List Bool) : scN N M = scP N (In M) := funext fun v => by
 by_cases h : In M v
 · unfold scN scP rowI'
   rw [if_pos h, if_pos h]
   exact List.filter_congr fun u _ => decide_eq_decide.2 Iff.rfl
 · unfold scN scP
   rw [if_neg h, if_neg h]
theorem Wy.sub {N : List (List Int)} {C D : Int → Prop} (h : ∀ x, C x → D x) {v u : Int} (w : Wy (scP N C) noV v u) : Wy (scP N D) noV v u := by
 induction w with
 | one k => exact .one k
 | cons k e _ ih =>
  obtain ⟨a, b, c⟩ := mem_scP.1 e
  exact .cons k (mem_scP.2 ⟨h _ a, h _ b, c⟩) ih
structure FairC (N : List (List Int)) (pairs : List Pair) (C : List Int) : Prop where
 ne : C ≠ []
 con : ∀ x ∈ C, ∀ y ∈ C, Far2 (scP N (fun z => z ∈ C)) x y
 ok : ∀ p ∈ pairs, ¬ Broken C p
def FairP (N : List (List Int)) (pairs : List Pair) (S : List Int) : Prop := ∃ C, (∀ x ∈ C, x ∈ S) ∧ FairC N pairs C
theorem part_con {N : List (List Int)} {M : List Bool} {v : Int} (hf : Far (scN N M) v) : ∀ x ∈ partG N M v, ∀ y ∈ partG N M v, Far2 (scP N (fun z => z ∈ partG N M v)) x y := by
 have key : ∀ {a b : Int}, Wy (scN N M) noV a b → Akin (scN N M) v a → Wy (scN N M) noV b v → Wy (scP N (fun z => z ∈ partG N M v)) noV a b := fun {a b} w => by
  induction w with
  | one _ => exact fun _ _ => .one id
  | @cons a c b h e w ih =>
   intro ha hb
   have hc : Akin (scN N M) v c := ⟨ha.1.snoc e id, w.trans hb⟩
   have hm := mem_scN.1 e
   refine .cons id (mem_scP.2 ⟨mem_partG.2 ⟨hm.1, ha⟩, mem_partG.2 ⟨hm.2.1, hc⟩, ?_⟩) (ih hc hb)
   obtain ⟨_, _, r, hr, hu⟩ := hm
   unfold rowI'; rw [hr]; exact hu
 intro x hx y hy
 have ax := (mem_partG.1 hx).2
 have ay := (mem_partG.1 hy).2
 have : Far2 (scN N M) x y := by
  by_cases e : x = y
  · subst e
    exact hf.akin ax
  · exact (ax.symm.trans ay).1.far e
 obtain ⟨z, hz, w⟩ := this
 have hm := mem_scN.1 hz
 have hzA : Akin (scN N M) v z := ⟨ax.1.snoc hz id, w.trans ay.2⟩
 refine ⟨z, mem_scP.2 ⟨hx, mem_partG.2 ⟨hm.2.1, hzA⟩, ?_⟩, key w hzA ay.2⟩
 obtain ⟨_, _, r, hr, hu⟩ := hm
 unfold rowI'; rw [hr]; exact hu
theorem mem_loops {N : List (List Int)} {M : List Bool} {S : List Int} (h : S ∈ loopsN N M) : ∃ v, In M v ∧ Lead (scN N M) v ∧ S = partG N M v := by
 unfold loopsN at h
 obtain ⟨v, h1, h2⟩ := List.mem_map.1 h
 obtain ⟨h3, h4⟩ := List.mem_filter.1 h1
 exact ⟨v, mem_marksL.1 h3, of_decide_eq_true h4, h2.symm⟩
theorem loops_mem {N : List (List Int)} {M : List Bool} {v : Int} (hf : Far (scN N M) v) : partG N M v ∈ loopsN N M := by
 obtain ⟨t, h1, h2, h3⟩ := partG_hd hf
 unfold loopsN
 refine List.mem_map.2 ⟨hdI (partG N M v), List.mem_filter.2 ⟨mem_marksL.2 (far_in h3.1), decide_eq_true h3⟩, (partG_eq h2).symm⟩
theorem left_fair {N : List (List Int)} {pairs : List Pair} {S C : List Int} (hC : FairC N pairs C) (hs : ∀ x ∈ C, x ∈ S) : ∀ x ∈ C, x ∈ leftP pairs S := fun x hx => by
 unfold leftP
 refine List.mem_filter.2 ⟨hs x hx, decide_eq_true ?_⟩
 rintro ⟨p, hp, hb, hxa⟩
 exact hC.ok p hp ⟨⟨x, hx, hxa⟩, fun ⟨y, hy, hyg⟩ => hb.2 ⟨y, hs y hy, hyg⟩⟩
section
variable {N : List (List Int)} {n : Nat} {pairs : List Pair} (hN : N.length = n) (hn : n ≤ 256) (hr : ∀ v r, idx N v = some r → r.length ≤ 10000 ∧ ∀ u ∈ r, 0 ≤ u ∧ u < n) (hp : ∀ p ∈ pairs, St n p.Ask ∧ St n p.Give) (hpl : pairs.length ≤ 4)
include hN hn hr hp hpl
theorem fair_same : ∀ (k : Nat) (S : List Int), S.length ≤ k → St n S → ∀ m m', k < m → k < m' → ∃ b, s_l33Fair m N pairs S = some b ∧ i_fairIn m' N pairs S = some b ∧ (b = true ↔ FairP N pairs S) := by
 intro k
 induction k with
 | zero =>
  intro S hl hS m m' hm hm'
  exact fair_step hN hn hr hp hpl 0 (fun S' hl' => absurd hl' (by omega)) S hl hS m m' hm hm'
 | succ k ih =>
  intro S hl hS m m' hm hm'
  exact fair_step hN hn hr hp hpl (k + 1) (fun S' hl' hS' m m' h h' => ih S' (by omega) hS' m m' (by omega) (by omega)) S hl hS m m' hm hm'
where fair_step (hN : N.length = n) (hn : n ≤ 256) (hr : ∀ v r, idx N v = some r → r.length ≤ 10000 ∧ ∀ u ∈ r, 0 ≤ u ∧ u < n) (hp : ∀ p ∈ pairs, St n p.Ask ∧ St n p.Give) (hpl : pairs.length ≤ 4) (k : Nat) (ih : ∀ (S : List Int), S.length < k → St n S → ∀ m m', k ≤ m → k ≤ m' → ∃ b, s_l33Fair m N pairs S = some b ∧ i_fairIn m' N pairs S = some b ∧ (b = true ↔ FairP N pairs S)) : ∀ (S : List Int), S.length ≤ k → St n S → ∀ m m', k < m → k < m' → ∃ b, s_l33Fair m N pairs S = some b ∧ i_fairIn m' N pairs S = some b ∧ (b = true ↔ FairP N pairs S)
 | S, hl, hS, 0, _, h, _ => absurd h (Nat.not_lt_zero _)
 | S, hl, hS, _ + 1, 0, _, h => absurd h (Nat.not_lt_zero _)
 | S, hl, hS, m + 1, m' + 1, hm, hm' => by
  obtain ⟨M, m1, m2, m3⟩ := s_marks hn hS.rng
  have g : Gr N M n := ⟨hN, m2, hn, hr⟩
  have hset : S = marksL M M.length := asc_eq hS.asc (marksL_asc _ _) fun z => by rw [mem_marksL, m3]
  obtain ⟨M', e1, e2⟩ := mark_loop (f := i_markAll_b0 S) (set := S) (n := n) (d := List.replicate n false) (by simp) hS.rng (fun i x s hx _ => by
   unfold i_markAll_b0
   rw [idx_nat, hx, Option.bind_some])
  have hMM : M' = M := List.ext_getElem? fun i => by
   by_cases hi : i < n
   · rw [← idx_nat, ← idx_nat, In_get (B := M') (by omega) (by rw [e2.1]; omega), In_get (B := M) (by omega) (by omega)]
     congr 1
     exact decide_eq_decide.2 (by rw [e2.2, m3]; simp [noIn])
   · rw [List.getElem?_eq_none (by rw [e2.1]; omega), List.getElem?_eq_none (by omega)]
  subst hMM
  have hLs := s_loops g hset m1
  have hLi := i_loops g
  have hpart : ∀ T ∈ loopsN N M', St n T ∧ T.length ≤ S.length ∧ T ≠ [] ∧ (∀ x ∈ T, x ∈ S) ∧ ∀ x ∈ T, ∀ y ∈ T, Far2 (scP N (fun z => z ∈ T)) x y := fun T hT => by
   obtain ⟨v, h1, h2, h3⟩ := mem_loops hT
   subst h3
   have hsub : ∀ x ∈ partG N M' v, x ∈ S := fun x hx => (m3 x).1 (mem_partG.1 hx).1
   refine ⟨⟨partG_asc v, fun x hx => hS.rng x (hsub x hx)⟩, nodup_sub (asc_nodup (partG_asc v)) hsub, fun e => ?_, hsub, part_con h2.1⟩
   have : v ∈ partG N M' v := mem_partG.2 ⟨h1, Akin.refl v⟩
   rw [e] at this; cases this
  have hbody : ∀ (i : Nat) T, (loopsN N M')[i]? = some T → ∃ b, s_l33Fair_b0 (s_l33Fair m) N pairs (loopsN N M') (i : Int) () = some (if b = true then .inl true else .inr (.inr ())) ∧ i_fairIn_b0 (i_fairIn m') N pairs (loopsN N M') (i : Int) () = some (if b = true then .inl true else .inr (.inr ())) ∧ (b = true ↔ FairP N pairs T) := fun i T hT => by
   obtain ⟨t1, t2, t3, t4, t5⟩ := hpart T (List.mem_of_getElem? hT)
   obtain ⟨R, r1, r2, r3⟩ := s_vain hn hp t1
   obtain ⟨K, k1, k2⟩ := i_left hn hp hpl t1
   have hleft : (T.filter fun x => !decide (x ∈ R)) = leftP pairs T := by
    unfold leftP
    refine List.filter_congr fun x hx => ?_
    rw [← decide_not]
    refine decide_eq_decide.2 (not_congr ?_)
    rw [r3]
    exact ⟨fun ⟨p, a, b, _, c⟩ => ⟨p, a, b, c⟩, fun ⟨p, a, b, c⟩ => ⟨p, a, b, hx, c⟩⟩
   have hR : ((R.length : Int) == 0) = decide (leftP pairs T = T) := by
    rw [Bool.eq_iff_iff, beq_iff_eq, decide_eq_true_eq, ← hleft, List.filter_eq_self]
    constructor
    · intro h x hx
      have : R = [] := List.length_eq_zero_iff.1 (by omega)
      simp [this]
    · intro h
      have : R = [] := List.eq_nil_iff_forall_not_mem.2 fun z hz => by
       obtain ⟨_, _, _, hzT, _⟩ := (r3 z).1 hz
       have := h z hzT
       simp [hz] at this
      rw [this]; rfl
   have hI : (((leftP pairs T).length : Int) == (T.length : Int)) = decide (leftP pairs T = T) := by
    rw [Bool.eq_iff_iff, beq_iff_eq, decide_eq_true_eq]
    constructor
    · intro h
      exact Classical.byContradiction fun hne => by have := leftP_len hne; omega
    · intro h; rw [h]
   by_cases hall : leftP pairs T = T
   · refine ⟨true, ?_, ?_, ?_⟩
     · unfold s_l33Fair_b0
       rw [idx_nat, hT, Option.bind_some, r1, Option.bind_some, hR, decide_eq_true hall]
       rfl
     · unfold i_fairIn_b0
       rw [idx_nat, hT, Option.bind_some, k1, Option.bind_some, k2, Option.bind_some, aft_inr, hI, decide_eq_true hall]
       rfl
     · exact ⟨fun _ => ⟨T, fun x h => h, t3, t5, leftP_all.1 hall⟩, fun _ => rfl⟩
   · have hlt := leftP_len hall
     have hst : St n (leftP pairs T) := t1.filter _
     obtain ⟨b, b1, b2, b3⟩ := ih (leftP pairs T) (by omega) hst m m' (by omega) (by omega)
     refine ⟨b, ?_, ?_, ?_⟩
     · unfold s_l33Fair_b0
       rw [idx_nat, hT, Option.bind_some, r1, Option.bind_some, hR, decide_eq_false hall, cond_false, Option.bind_some, s_LessOf_eq hn t1 r2, Option.bind_some, hleft, b1, Option.bind_some, Option.bind_some]
       cases b <;> rfl
     · unfold i_fairIn_b0
       rw [idx_nat, hT, Option.bind_some, k1, Option.bind_some, k2, Option.bind_some, aft_inr, hI, decide_eq_false hall, cond_false, b2, Option.bind_some, Option.bind_some]
       cases b <;> rfl
     · rw [b3]
       constructor
       · rintro ⟨C, h1, h2⟩
         exact ⟨C, fun x hx => (List.mem_filter.1 (h1 x hx)).1, h2⟩
       · rintro ⟨C, h1, h2⟩
         exact ⟨C, left_fair h2 h1, h2⟩
  have hloop : ∀ (us : List (List Int)) (j : Nat), (∀ (i : Nat) T, us[i]? = some T → (loopsN N M')[j + i]? = some T) → ∃ b, cntM (s_l33Fair_b0 (s_l33Fair m) N pairs (loopsN N M')) us.length (j : Int) () = some (if b = true then .inl true else .inr ()) ∧ cntM (i_fairIn_b0 (i_fairIn m') N pairs (loopsN N M')) us.length (j : Int) () = some (if b = true then .inl true else .inr ()) ∧ (b = true ↔ ∃ T ∈ us, FairP N pairs T) := fun us => by
   induction us with
   | nil => exact fun j _ => ⟨false, rfl, rfl, by simp⟩
   | cons T us ihu =>
    intro j h
    obtain ⟨b, b1, b2, b3⟩ := hbody j T (h 0 T rfl)
    cases b with
    | true =>
     refine ⟨true, ?_, ?_, ⟨fun _ => ⟨T, by simp, b3.1 rfl⟩, fun _ => rfl⟩⟩
     · show Option.bind (s_l33Fair_b0 (s_l33Fair m) N pairs (loopsN N M') (j : Int) ()) _ = _
       rw [b1]; rfl
     · show Option.bind (i_fairIn_b0 (i_fairIn m') N pairs (loopsN N M') (j : Int) ()) _ = _
       rw [b2]; rfl
    | false =>
     obtain ⟨c, c1, c2, c3⟩ := ihu (j + 1) (fun i T' hT' => by
      have := h (i + 1) T' (by simpa using hT')
      rw [show j + (i + 1) = (j + 1) + i from by omega] at this
      exact this)
     refine ⟨c, ?_, ?_, ?_⟩
     · show Option.bind (s_l33Fair_b0 (s_l33Fair m) N pairs (loopsN N M') (j : Int) ()) _ = _
       rw [b1]; exact c1
     · show Option.bind (i_fairIn_b0 (i_fairIn m') N pairs (loopsN N M') (j : Int) ()) _ = _
       rw [b2]; exact c2
     · rw [c3]
       constructor
       · rintro ⟨T', h1, h2⟩; exact ⟨T', List.mem_cons_of_mem _ h1, h2⟩
       · rintro ⟨T', h1, h2⟩
         rcases List.mem_cons.1 h1 with e | h1
         · subst e; have := b3.2 h2; cases this
         · exact ⟨T', h1, h2⟩
  obtain ⟨b, b1, b2, b3⟩ := hloop (loopsN N M') 0 (fun i T h => by rw [Nat.zero_add]; exact h)
  refine ⟨b, ?_, ?_, ?_⟩
  · show s_l33Fair_s (s_l33Fair m) N pairs S = _
    unfold s_l33Fair_s
    have b1' : cntM (s_l33Fair_b0 (s_l33Fair m) N pairs (loopsN N M')) (loopsN N M').length 0 () = _ := b1
    rw [hLs, Option.bind_some, b1', Option.bind_some]
    cases b <;> rfl
  · show i_fairIn_s (i_fairIn m') N pairs S = _
    unfold i_fairIn_s i_markAll
    have b2' : cntM (i_fairIn_b0 (i_fairIn m') N pairs (loopsN N M')) (loopsN N M').length 0 () = _ := b2
    rw [hN, mkS_nat (by omega) rfl, Option.bind_some, e1, Option.bind_some, aft_inr, Option.bind_some, hLi, Option.bind_some, b2', Option.bind_some]
    cases b <;> rfl
  · rw [b3]
    constructor
    · rintro ⟨T, hT, C, h1, h2⟩
      exact ⟨C, fun x hx => (hpart T hT).2.2.2.1 x (h1 x hx), h2⟩
    · rintro ⟨C, h1, h2⟩
      obtain ⟨c, hc⟩ := List.exists_mem_of_ne_nil _ h2.ne
      have hCM : ∀ x, x ∈ C → In M' x := fun x hx => (m3 x).2 (h1 x hx)
      have hfar : ∀ x ∈ C, ∀ y ∈ C, Far2 (scN N M') x y := fun x hx y hy => by
       obtain ⟨z, hz, w⟩ := h2.con x hx y hy
       obtain ⟨a1, a2, a3⟩ := mem_scP.1 hz
       rw [scN_scP]
       exact ⟨z, mem_scP.2 ⟨hCM _ a1, hCM _ a2, a3⟩, w.sub hCM⟩
      have hf : Far (scN N M') c := hfar c hc c hc
      exact ⟨partG N M' c, loops_mem hf, C, fun x hx => mem_partG.2 ⟨hCM x hx, (hfar c hc x hx).wy, (hfar x hx c hc).wy⟩, h2⟩
end
end Go.Proofs.YtcmamhmpoinmnaaGreat
set_option linter.unusedVariables false
set_option linter.unusedSimpArgs false
namespace Go.Proofs.YtcmamhmpoinmnaaGreat
open Go Go.Wk Go.Proofs
def sw (v : Key) : Key := (v.2, v.1)
def toR (v : Key) : List Int := [v.2, v.1]
theorem loc_sw (K : List Key) (k : Key) : loc (K.map sw) (sw k) = loc K k := by
 unfold loc
 rw [List.findIdx?_map]
 congr 1
 funext v
 rw [Bool.eq_iff_iff]
 simp only [Function.comp_apply, beq_iff_eq, sw, Prod.mk.injEq]
 exact ⟨fun h => Prod.ext h.2 h.1, fun h => by rw [h]; exact ⟨rfl, rfl⟩⟩
theorem map_toR (K : List Key) : K.map toR = (K.map sw).map toL := by rw [List.map_map]; rfl
theorem placeR {K : List Key} (hl : K.length ≤ 1000) (k : Key) : s_l26Place (K.map toR) k.2 k.1 = some (locI K k) := by
 rw [map_toR]
 have h := place_eq (K := K.map sw) (by rw [List.length_map]; exact hl) (sw k)
 have e : locI (K.map sw) (sw k) = locI K k := by unfold locI; rw [loc_sw]
 rw [e] at h
 exact h
def kyB (r : Rival) (d : Det) (ins : Int) (v : Key) (x : Int) : Key := (tab r.Next v.1 x, tab d.Next v.2 (x * ins + inAt r v.1))
def KinB (r : Rival) (d : Det) (K : List Key) : Prop := ∀ v ∈ K, 0 ≤ v.1 ∧ v.1 < r.In.length ∧ 0 ≤ v.2 ∧ v.2 < d.Next.length
section
variable {p : Sig} {r : Rival} {d : Det} (hs : sigOk p = true) (hr : rivalOk p r = true) (hd : detOk p d = true) {k : Nat} (hk : pw p.Out = (k : Int))
include hs hr hd hk
omit hs in
theorem kyB_in {v : Key} (v0 : 0 ≤ v.1) (v1 : v.1 < r.In.length) (v2 : 0 ≤ v.2) (v3 : v.2 < d.Next.length) {x : Nat} (hx : x < k) :
 ∃ a c, idx r.Next v.1 = some a ∧ idx a (x : Int) = some (kyB r d (pw p.In) v x).1 ∧ idx r.In v.1 = some (inAt r v.1) ∧ idx d.Next v.2 = some c ∧ idx c ((x : Int) * pw p.In + inAt r v.1) = some (kyB r d (pw p.In) v x).2 ∧
  0 ≤ inAt r v.1 ∧ inAt r v.1 < pw p.In ∧ 0 ≤ (x : Int) * pw p.In ∧ (x : Int) * pw p.In ≤ 16 ∧ 0 ≤ (kyB r d (pw p.In) v x).1 ∧ (kyB r d (pw p.In) v x).1 < r.In.length ∧ 0 ≤ (kyB r d (pw p.In) v x).2 ∧ (kyB r d (pw p.In) v x).2 < d.Next.length := by
 obtain ⟨_, _, _, n1⟩ := detOk_spec hd
 obtain ⟨a1, a2, a3⟩ := inAt_in hr v0 v1
 have pI := pw_le p.In
 have pO := pw_le p.Out
 obtain ⟨a, b1, b2, b3, b4⟩ := next_in hr v0 v1 (o := (x : Int)) (by omega) (by omega)
 have hx0 : 0 ≤ (x : Int) * pw p.In := Int.mul_nonneg (by omega) (by omega)
 have hx1 : (x : Int) * pw p.In ≤ 4 * 4 := Int.mul_le_mul (by omega) (by omega) (by omega) (by omega)
 have hlt : (x : Int) * pw p.In + inAt r v.1 < ltd p := by
  unfold ltd
  have h : ((x : Int) + 1) * pw p.In ≤ pw p.Out * pw p.In := Int.mul_le_mul (by omega) (by omega) (by omega) (by omega)
  rw [Int.add_mul, Int.one_mul, Int.mul_comm (pw p.Out)] at h
  omega
 obtain ⟨c, c1, c2, c3, c4⟩ := tab_in n1 v2 v3 (i := (x : Int) * pw p.In + inAt r v.1) (by omega) hlt
 exact ⟨a, c, b1, b2, a1, c1, c2, a2, a3, hx0, by omega, b3, b4, c3, c4⟩
omit hs in
theorem rowB_in {K : List Key} (hK : KinB r d K) {v : Key} (hv : v ∈ K) : ∀ j, j ≤ k → KinB r d (rowK (kyB r d (pw p.In) v) K j).1 := fun j hj u hu => by
 obtain ⟨v0, v1, v2, v3⟩ := hK v hv
 rcases (rowK_ok (kyB r d (pw p.In) v) K j).mem u hu with h | ⟨i, hi, e⟩
 · exact hK u h
 · subst e
   obtain ⟨_, _, _, _, _, _, _, _, _, _, _, h⟩ := kyB_in hr hd hk v0 v1 v2 v3 (x := i) (by omega)
   exact h
theorem i_rowB {K : List Key} (hl : K.length ≤ 300) (hK : KinB r d K) {v : Key} (hv : v ∈ K) {row : List Int} (e3 : idx r.Next v.1 = some row) :
 cntM (i_BeatsAll_b2 p r (d, true) v v row) k 0 (K, [], ixm 0 K) = some (.inr ((rowK (kyB r d (pw p.In) v) K k).1, (rowK (kyB r d (pw p.In) v) K k).2, ixm 0 (rowK (kyB r d (pw p.In) v) K k).1)) := by
 obtain ⟨v0, v1, v2, v3⟩ := hK v hv
 have pO := pw_le p.Out
 have pI := pw_le p.In
 obtain ⟨_, r2, _⟩ := rivalOk_spec hr
 obtain ⟨_, d2, _, _⟩ := detOk_spec hd
 obtain ⟨s', h1, h2⟩ := cnt_inv (f := i_BeatsAll_b2 p r (d, true) v v row) (fun j s => s = ((rowK (kyB r d (pw p.In) v) K j).1, (rowK (kyB r d (pw p.In) v) K j).2, ixm 0 (rowK (kyB r d (pw p.In) v) K j).1)) k (s := (K, [], ixm 0 K)) rfl (fun j s hj hI => by
  subst hI
  have rk := rowK_ok (kyB r d (pw p.In) v) K j
  have hlt := rk.le
  have hrl := rk.rl
  obtain ⟨a, c, k1, k2, k3, k4, k5, k6, k7, k8, k9, k10, k11, k12, k13⟩ := kyB_in hr hd hk v0 v1 v2 v3 hj
  rw [e3] at k1
  cases k1
  refine ⟨_, ?_, rfl⟩
  have e : rowK (kyB r d (pw p.In) v) K (j + 1) = (addK (rowK (kyB r d (pw p.In) v) K j).1 (kyB r d (pw p.In) v j), (rowK (kyB r d (pw p.In) v) K j).2 ++ [atK (rowK (kyB r d (pw p.In) v) K j).1 (kyB r d (pw p.In) v j)]) := rfl
  rw [e]
  unfold i_BeatsAll_b2
  rw [k2, Option.bind_some, k4, Option.bind_some, k3, Option.bind_some, i_inputsOf_eq hs, Option.bind_some, wr' (z := (j : Int) * pw p.In) (by omega) (by omega), wr' (by omega) (by omega), k5, Option.bind_some]
  have hw : kwI2 (kyB r d (pw p.In) v j) = true := kw_in k10 (by omega) k12 (by omega)
  generalize rowK (kyB r d (pw p.In) v) K j = F at *
  generalize kyB r d (pw p.In) v j = u at *
  dsimp only
  rw [show ((u.1, u.2) : Key) = u from rfl, mget_ixm F.1 hw, Option.bind_some]
  unfold addK atK
  cases hloc : loc F.1 u with
  | some i =>
   simp only [Bool.not_true, cond_false, Option.bind_some]
   rw [app1 (by omega) rfl]
   rfl
  | none =>
   simp only [Bool.not_false, cond_true]
   rw [mset_ixm hw hloc, Option.bind_some, app1 (by omega) rfl, Option.bind_some, Option.bind_some]
   dsimp only
   rw [app1 (by omega) rfl]
   rfl)
 rw [h1, h2]
def SetR (R row : List Int) : Prop := Asc R ∧ ∀ z, z ∈ R ↔ z ∈ row
omit hs hr hd hk in
theorem row_rng {ky : Int → Key} {K : List Key} {j : Nat} {K' : List Key} {row : List Int} (h : RowK ky K j K' row) : ∀ z ∈ row, 0 ≤ z ∧ z < K'.length := fun z hz => by
 obtain ⟨i, hi⟩ := List.getElem?_of_mem hz
 have hil := (List.getElem?_eq_some_iff.1 hi).1
 obtain ⟨x, x1, x2, x3⟩ := h.at_ i (by have := h.rl; omega)
 rw [hi] at x1
 cases x1
 have := (List.getElem?_eq_some_iff.1 x3).1
 omega
theorem s_rowB {K : List Key} (hl : K.length ≤ 300) (hK : KinB r d K) {i : Nat} {v : Key} (hv : K[i]? = some v) {M N : List (List Int)} :
 ∃ R, whileM (s_BeatsAll_b2 p r (d, true) (M, N, (i : Int))) (2 ^ 64) (K.map toR, [], 0) = some (.inr ((rowK (kyB r d (pw p.In) v) K k).1.map toR, R, (k : Int))) ∧ SetR R (rowK (kyB r d (pw p.In) v) K k).2 := by
 obtain ⟨v0, v1, v2, v3⟩ := hK v (List.mem_of_getElem? hv)
 have pO := pw_le p.Out
 have pI := pw_le p.In
 obtain ⟨_, ho⟩ := sigOk_in hs
 obtain ⟨o, h1, h2⟩ := while_out (f := s_BeatsAll_b2 p r (d, true) (M, N, (i : Int))) (fun j s => j ≤ k ∧ ∃ R, s = ((rowK (kyB r d (pw p.In) v) K j).1.map toR, R, (j : Int)) ∧ SetR R (rowK (kyB r d (pw p.In) v) K j).2)
  (fun _ => False) (fun s => ∃ R, s = ((rowK (kyB r d (pw p.In) v) K k).1.map toR, R, (k : Int)) ∧ SetR R (rowK (kyB r d (pw p.In) v) K k).2) k (fun j s ⟨hj, R, hI, hR⟩ => by
  subst hI
  unfold s_BeatsAll_b2 s_l33Outputs
  rw [s_l23Power_eq ho, Option.bind_some, Option.bind_some]
  by_cases hlt : j < k
  · have rk := rowK_ok (kyB r d (pw p.In) v) K j
    have hle := rk.le
    have hrl := rk.rl
    obtain ⟨a, c, k1, k2, k3, k4, k5, k6, k7, k8, k9, k10, k11, k12, k13⟩ := kyB_in hr hd hk v0 v1 v2 v3 hlt
    have hSt : St (rowK (kyB r d (pw p.In) v) K j).1.length R := ⟨hR.1, fun x hx => row_rng rk x ((hR.2 x).1 hx)⟩
    have hRl := hSt.len
    obtain ⟨R', q1, q2, q3⟩ := into_all hR.1 (atK (rowK (kyB r d (pw p.In) v) K j).1 (kyB r d (pw p.In) v j)) (by omega)
    refine ⟨.inr (.inr ((rowK (kyB r d (pw p.In) v) K (j + 1)).1.map toR, R', ((j + 1 : Nat) : Int))), ?_, hlt, by omega, R', rfl, q2, fun z => ?_⟩
    · have g1 : idx ((rowK (kyB r d (pw p.In) v) K j).1.map toR) (i : Int) = some (toR v) := by
       rw [idx_nat, List.getElem?_map, rk.pre i v hv]; rfl
      have g2 : idx (toR v) 0 = some v.2 := rfl
      have g3 : idx (toR v) 1 = some v.1 := rfl
      dsimp only
      rw [decide_eq_true (show (j : Int) < pw p.Out by omega), cond_true, g1, Option.bind_some, Option.bind_some, g2, Option.bind_some, k4, Option.bind_some, g3, Option.bind_some, k3, Option.bind_some, s_LetterOf_eq hs k6 k7 (by omega) (by omega), Option.bind_some, k5, Option.bind_some, Option.bind_some, g3, Option.bind_some, k1, Option.bind_some, k2, Option.bind_some, placeR (by omega), Option.bind_some]
      have hst := step_at (K := (rowK (kyB r d (pw p.In) v) K j).1) (k := kyB r d (pw p.In) v j) (F := fun x y => Option.bind (s_l1Into R y) fun x83 => (some (.inr (.inr (x.map toR, x83, IntKind.i64.wrap ((j : Int) + 1)))) : Option (Bool ⊕ (((List (List Int)) × List Int × Int) ⊕ ((List (List Int)) × List Int × Int))))) (app := some ((rowK (kyB r d (pw p.In) v) K j).1 ++ [kyB r d (pw p.In) v j])) rfl
      have e2 : appS 24 ((rowK (kyB r d (pw p.In) v) K j).1.map toR) [[(kyB r d (pw p.In) v j).2, (kyB r d (pw p.In) v j).1]] = some (((rowK (kyB r d (pw p.In) v) K j).1 ++ [kyB r d (pw p.In) v j]).map toR) := by
       rw [app1 (by rw [List.length_map]; omega) rfl, List.map_append]; rfl
      rw [e2, List.length_map]
      rw [q1, Option.bind_some, wr' (by omega) (by omega), Option.bind_some] at hst
      have hfin : ((addK (rowK (kyB r d (pw p.In) v) K j).1 (kyB r d (pw p.In) v j)).map toR, R', (j : Int) + 1) = ((rowK (kyB r d (pw p.In) v) K (j + 1)).1.map toR, R', ((j + 1 : Nat) : Int)) := rfl
      rw [hfin] at hst
      rw [wr' (z := (j : Int) + 1) (by omega) (by omega)]
      cases hdd : decide (locI (rowK (kyB r d (pw p.In) v) K j).1 (kyB r d (pw p.In) v j) < 0) with
      | true =>
       rw [hdd] at hst
       simp only [cond_true, Option.bind_some] at hst ⊢
       exact hst
      | false =>
       rw [hdd] at hst
       simp only [cond_false, Option.bind_some] at hst ⊢
       exact hst
    · rw [q3, hR.2]
      show _ ↔ z ∈ (rowK (kyB r d (pw p.In) v) K j).2 ++ [_]
      rw [List.mem_append, List.mem_singleton]
      exact Or.comm
  · have : j = k := by omega
    subst this
    refine ⟨.inr (.inl _), ?_, R, rfl, hR⟩
    dsimp only
    rw [decide_eq_false (by omega), cond_false]) (2 ^ 64) 0 (K.map toR, [], 0) (by omega) ⟨Nat.zero_le _, [], rfl, List.Pairwise.nil, fun z => Iff.rfl⟩ (by omega)
 match o, h2 with
 | .inr s, ⟨R, e, hR⟩ => exact ⟨R, by rw [h1, e], hR⟩
end
end Go.Proofs.YtcmamhmpoinmnaaGreat
