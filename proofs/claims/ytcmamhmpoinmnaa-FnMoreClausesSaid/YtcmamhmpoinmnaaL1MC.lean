/- The product of two automata: both sides compute the same. -/
import Derived.Test.YtcmamhmpoinmnaaL0MC
import Derived.Test.YtcmamhmpoinmnaaLawMC
set_option linter.unusedVariables false
set_option linter.unusedSimpArgs false
namespace Go.Proofs.Ytcmamhmpoinmnaa
open Go Go.Wk Go.Proofs
def kyJ (a b : Det) (v : Key) (x : Int) : Key := (tab a.Next v.1 x, tab b.Next v.2 x)
def toL (v : Key) : List Int := [v.1, v.2]
def plP (part : Key → Int) (K : List Key) (p : Pair) : Pair := ⟨plK part K p.Ask K.length, plK part K p.Give K.length⟩
def jD (a b : Det) (K : List Key) (R : List (List Int)) : Det := ⟨R, a.Pairs.map (plP (·.1) K) ++ b.Pairs.map (plP (·.2) K)⟩
def zeroD : Det := ⟨[], []⟩
def locI (K : List Key) (k : Key) : Int := match loc K k with | some i => (i : Int) | none => -1
theorem step_at {α : Type} {F : List Key → Int → Option α} {K : List Key} {k : Key} {app : Option (List Key)} (ha : app = some (K ++ [k])) :
 (Option.bind (bif decide (locI K k < 0) then Option.bind app fun x => some (x, (K.length : Int)) else some (K, locI K k)) fun q => F q.1 q.2) = F (addK K k) (atK K k) := by
 unfold locI addK atK
 cases h : loc K k with
 | none =>
  dsimp only
  rw [decide_eq_true (by omega), cond_true, ha]; rfl
 | some i =>
  dsimp only
  rw [decide_eq_false (by omega), cond_false]; rfl
theorem place_eq {K : List Key} (hl : K.length ≤ 1000) (k : Key) : s_l26Place (K.map toL) k.1 k.2 = some (locI K k) := by
 unfold s_l26Place
 rw [cnt_find0 (f := s_l26Place_b0 (K.map toL) k.1 k.2) (fun l => l == toL k) (fun i => (i : Int)) (xs := K.map toL) (fun i l hl => by
  rw [List.getElem?_map] at hl
  obtain ⟨v, hv, rfl⟩ := Option.map_eq_some_iff.1 hl
  unfold s_l26Place_b0
  rw [idx_nat, List.getElem?_map, hv]
  show Option.bind (some (toL v)) _ = _
  rw [Option.bind_some]
  show Option.bind (some v.1) _ = _
  rw [Option.bind_some]
  have e : (toL v == toL k) = (v.1 == k.1 && v.2 == k.2) := by
   rw [Bool.eq_iff_iff]
   simp [toL]
  rw [e]
  cases h1 : v.1 == k.1 with
  | false => rfl
  | true =>
   rw [cond_true]
   show Option.bind (Option.bind (some (toL v)) fun x25 => Option.bind (idx x25 1) fun x27 => some (x27 == k.2)) _ = _
   rw [Option.bind_some]
   show Option.bind (Option.bind (some v.2) fun x27 => some (x27 == k.2)) _ = _
   rw [Option.bind_some, Option.bind_some]
   cases v.2 == k.2 <;> rfl), Option.bind_some]
 unfold locI loc
 have hf : (K.map toL).findIdx? (fun l => l == toL k) = K.findIdx? (fun x => k == x) := by
  rw [List.findIdx?_map]
  congr 1
  funext v
  rw [Bool.eq_iff_iff]
  simp only [Function.comp_apply, beq_iff_eq, toL, List.cons.injEq, and_true]
  exact ⟨fun ⟨h1, h2⟩ => Prod.ext h1.symm h2.symm, fun h => by rw [h]; exact ⟨rfl, rfl⟩⟩
 rw [hf]
 cases K.findIdx? (fun x => k == x) <;> rfl
theorem index_eq {K : List Key} (k : Key) : slices_Index_2_int64_2_int64 K k = some (locI K k) := by
 unfold slices_Index_2_int64_2_int64
 rw [cnt_find0 (f := slices_Index_2_int64_2_int64_b0 K k) (fun x => k == x) (fun i => (i : Int)) (xs := K) (fun i x hx => by
  unfold slices_Index_2_int64_2_int64_b0
  rw [idx_nat, hx, Option.bind_some]
  have e : (k.1 == x.1 && k.2 == x.2) = (k == x) := by
   rw [Bool.eq_iff_iff]
   simp only [Bool.and_eq_true, beq_iff_eq]
   exact ⟨fun ⟨h1, h2⟩ => Prod.ext h1 h2, fun h => by rw [h]; exact ⟨rfl, rfl⟩⟩
  first
   | rw [e]
   | skip
  cases k == x <;> rfl), Option.bind_some]
 unfold locI loc
 cases K.findIdx? (fun x => k == x) <;> rfl
section
variable {p : Sig} {a b : Det} (ha : detOk p a = true) (hb : detOk p b = true) {k : Nat} (hk : ltd p = k)
include ha hb hk
theorem kyJ_in {v : Key} (v0 : 0 ≤ v.1) (v1 : v.1 < a.Next.length) (v2 : 0 ≤ v.2) (v3 : v.2 < b.Next.length) {x : Nat} (hx : x < k) :
 ∃ r s, idx a.Next v.1 = some r ∧ idx r (x : Int) = some (kyJ a b v x).1 ∧ idx b.Next v.2 = some s ∧ idx s (x : Int) = some (kyJ a b v x).2 ∧ 0 ≤ (kyJ a b v x).1 ∧ (kyJ a b v x).1 < a.Next.length ∧ 0 ≤ (kyJ a b v x).2 ∧ (kyJ a b v x).2 < b.Next.length := by
 obtain ⟨_, _, _, n1⟩ := detOk_spec ha
 obtain ⟨_, _, _, n2⟩ := detOk_spec hb
 obtain ⟨r, r1, r2, r3, r4⟩ := tab_in n1 v0 v1 (i := (x : Int)) (by omega) (by omega)
 obtain ⟨s, s1, s2, s3, s4⟩ := tab_in n2 v2 v3 (i := (x : Int)) (by omega) (by omega)
 exact ⟨r, s, r1, r2, s1, s2, r3, r4, s3, s4⟩
def KinJ (a b : Det) (K : List Key) : Prop := ∀ v ∈ K, 0 ≤ v.1 ∧ v.1 < a.Next.length ∧ 0 ≤ v.2 ∧ v.2 < b.Next.length
theorem rowJ_in {K : List Key} (hK : KinJ a b K) {v : Key} (hv : v ∈ K) : KinJ a b (rowK (kyJ a b v) K k).1 := fun u hu => by
 obtain ⟨v0, v1, v2, v3⟩ := hK v hv
 rcases (rowK_ok (kyJ a b v) K k).mem u hu with h | ⟨i, hi, e⟩
 · exact hK u h
 · subst e
   obtain ⟨_, _, _, _, _, _, h⟩ := kyJ_in ha hb hk v0 v1 v2 v3 hi
   exact h
theorem i_rowJ {K : List Key} (hl : K.length ≤ 48) (h16 : k ≤ 16) (hK : KinJ a b K) {i : Nat} {v : Key} (hv : K[i]? = some v) {R : List (List Int)} {row : List Int} (hr : idx a.Next v.1 = some row) (hrl : row.length = k) :
 cntM (i_joinedDet_b2 b (K, (i : Int), R) row) k 0 (K, []) = some (.inr (rowK (kyJ a b v) K k)) := by
 obtain ⟨v0, v1, v2, v3⟩ := hK v (List.mem_of_getElem? hv)
 obtain ⟨s, h1, h2, _⟩ := cnt_inv (f := i_joinedDet_b2 b (K, (i : Int), R) row) (fun j s => s = rowK (kyJ a b v) K j ∧ j ≤ k) k (s := (K, [])) ⟨rfl, Nat.zero_le _⟩ (fun j s hj ⟨e, _⟩ => by
  subst e
  obtain ⟨r, s, r1, r2, s1, s2, _⟩ := kyJ_in ha hb hk v0 v1 v2 v3 hj
  rw [hr] at r1
  cases r1
  have rk := rowK_ok (kyJ a b v) K j
  have hlt := rk.le
  have hrl' := rk.rl
  refine ⟨rowK (kyJ a b v) K (j + 1), ?_, rfl, hj⟩
  unfold i_joinedDet_b2
  dsimp only
  rw [r2, Option.bind_some, idx_nat, rk.pre i v hv, Option.bind_some, s1, Option.bind_some, s2, Option.bind_some]
  have hix := index_eq (K := (rowK (kyJ a b v) K j).1) (kyJ a b v j)
  rw [show ((kyJ a b v j).1, (kyJ a b v j).2) = kyJ a b v j from rfl, hix, Option.bind_some]
  have hst := step_at (K := (rowK (kyJ a b v) K j).1) (k := kyJ a b v j) (F := fun x y => Option.bind (appS 8 (rowK (kyJ a b v) K j).2 [y]) fun x83 => (some (.inr (.inr (x, x83))) : Option ((Det × Bool) ⊕ ((List Key × List Int) ⊕ (List Key × List Int))))) (app := appS 16 (rowK (kyJ a b v) K j).1 [kyJ a b v j]) (app1 (by omega) rfl)
  refine Eq.trans hst ?_
  show Option.bind (appS 8 (rowK (kyJ a b v) K j).2 [_]) _ = _
  rw [app1 (by omega) rfl, Option.bind_some]
  rfl)
 rw [h1, h2]
theorem s_rowJ {K : List Key} (hl : K.length ≤ 48) (h16 : k ≤ 16) (hK : KinJ a b K) {i : Nat} {v : Key} (hv : K[i]? = some v) {M : List (List Int)} {R : List (List Int)} :
 cntM (s_l26Joined_b2 a b (M, (i : Int), R)) k 0 (K.map toL, []) = some (.inr ((rowK (kyJ a b v) K k).1.map toL, (rowK (kyJ a b v) K k).2)) := by
 obtain ⟨v0, v1, v2, v3⟩ := hK v (List.mem_of_getElem? hv)
 obtain ⟨s, h1, h2, _⟩ := cnt_inv (f := s_l26Joined_b2 a b (M, (i : Int), R)) (fun j s => s = ((rowK (kyJ a b v) K j).1.map toL, (rowK (kyJ a b v) K j).2) ∧ j ≤ k) k (s := (K.map toL, [])) ⟨rfl, Nat.zero_le _⟩ (fun j s hj ⟨e, _⟩ => by
  subst e
  obtain ⟨r, s, r1, r2, s1, s2, _⟩ := kyJ_in ha hb hk v0 v1 v2 v3 hj
  have rk := rowK_ok (kyJ a b v) K j
  have hlt := rk.le
  have hrl' := rk.rl
  refine ⟨((rowK (kyJ a b v) K (j + 1)).1.map toL, (rowK (kyJ a b v) K (j + 1)).2), ?_, rfl, hj⟩
  unfold s_l26Joined_b2
  dsimp only
  have g1 : idx ((rowK (kyJ a b v) K j).1.map toL) (i : Int) = some (toL v) := by
   rw [idx_nat, List.getElem?_map, rk.pre i v hv]; rfl
  have g2 : idx (toL v) 0 = some v.1 := rfl
  have g3 : idx (toL v) 1 = some v.2 := rfl
  rw [g1, Option.bind_some, g2, Option.bind_some, r1, Option.bind_some, r2, Option.bind_some, Option.bind_some, g3, Option.bind_some, s1, Option.bind_some, s2, Option.bind_some, place_eq (by omega), Option.bind_some]
  have hst := step_at (K := (rowK (kyJ a b v) K j).1) (k := kyJ a b v j) (F := fun x y => Option.bind (appS 8 (rowK (kyJ a b v) K j).2 [y]) fun x83 => (some (.inr (.inr (x.map toL, x83))) : Option ((Det × Bool) ⊕ (((List (List Int)) × List Int) ⊕ ((List (List Int)) × List Int))))) (app := some ((rowK (kyJ a b v) K j).1 ++ [kyJ a b v j])) rfl
  rw [app1 (by omega) rfl] at hst
  have e2 : appS 24 ((rowK (kyJ a b v) K j).1.map toL) [[(kyJ a b v j).1, (kyJ a b v j).2]] = some (((rowK (kyJ a b v) K j).1 ++ [kyJ a b v j]).map toL) := by
   rw [app1 (by rw [List.length_map]; omega) rfl, List.map_append]; rfl
  rw [e2, List.length_map]
  rw [Option.bind_some] at hst
  cases hd : decide (locI (rowK (kyJ a b v) K j).1 (kyJ a b v j) < 0) with
  | true =>
   rw [hd] at hst
   simp only [cond_true, Option.bind_some] at hst ⊢
   exact hst
  | false =>
   rw [hd] at hst
   simp only [cond_false, Option.bind_some] at hst ⊢
   exact hst)
 rw [h1, h2]
end
end Go.Proofs.Ytcmamhmpoinmnaa
set_option linter.unusedVariables false
set_option linter.unusedSimpArgs false
namespace Go.Proofs.Ytcmamhmpoinmnaa
open Go Go.Wk Go.Proofs
theorem conI (l : List Int) (v : Int) : slices_Contains_I_int64 l v = some (decide (v ∈ l)) := by
 rw [slices_Contains_I_int64_eq]
 congr 1
 rw [Bool.eq_iff_iff, List.any_eq_true, decide_eq_true_eq]
 exact ⟨fun ⟨y, hy, e⟩ => (show v = y by simpa using e) ▸ hy, fun h => ⟨_, h, by simp⟩⟩
theorem plK_step {part : Key → Int} {K : List Key} {S : List Int} {j : Nat} {v : Key} (hv : K[j]? = some v) (hl : j ≤ 1000) : (bif decide (part v ∈ S) then Option.bind (appS 8 (plK part K S j) [(j : Int)]) fun x => some x else some (plK part K S j)) = some (plK part K S (j + 1)) := by
 have hp := plK_len part K S j
 have e : plK part K S (j + 1) = plK part K S j ++ (match K[j]? with | some v => if part v ∈ S then [(j : Int)] else [] | none => []) := rfl
 rw [e, hv]
 dsimp only
 by_cases h : part v ∈ S
 · rw [decide_eq_true h, cond_true, app1 (by omega) rfl, if_pos h]; rfl
 · rw [decide_eq_false h, cond_false, if_neg h, List.append_nil]
theorem s_pairsJ {K : List Key} (hl : K.length ≤ 300) (ps : List Pair) (hpl : ps.length ≤ 4) (w : Bool) : s_l26Pairs ps (K.map toL) (b01 w) = some (ps.map (plP (fun v => bif w then v.2 else v.1) K)) := by
 unfold s_l26Pairs
 obtain ⟨s, h1, h2⟩ := cnt_inv (f := s_l26Pairs_b0 ps (K.map toL) (b01 w)) (fun j s => s = (ps.take j).map (plP (fun v => bif w then v.2 else v.1) K)) ps.length (s := []) rfl (fun j s hj hs => by
  subst hs
  have hp : ps[j]? = some ps[j] := List.getElem?_eq_getElem hj
  generalize ps[j] = p at hp
  obtain ⟨t, k1, k2⟩ := cnt_inv (f := s_l26Pairs_b2 ps (K.map toL) (b01 w) (j : Int)) (fun i s => s = (plK (fun v => bif w then v.2 else v.1) K p.Ask i, plK (fun v => bif w then v.2 else v.1) K p.Give i)) (K.map toL).length (s := ([], [])) rfl (fun i s hi hs => by
   subst hs
   rw [List.length_map] at hi
   have hv : K[i]? = some K[i] := List.getElem?_eq_getElem hi
   generalize K[i] = v at hv
   have g1 : idx (K.map toL) (i : Int) = some (toL v) := by rw [idx_nat, List.getElem?_map, hv]; rfl
   have g2 : idx (toL v) (b01 w) = some (bif w then v.2 else v.1) := by cases w <;> rfl
   have q1 := plK_step (part := fun v => bif w then v.2 else v.1) (S := p.Ask) hv (by omega)
   have q2 := plK_step (part := fun v => bif w then v.2 else v.1) (S := p.Give) hv (by omega)
   unfold s_l26Pairs_b2
   dsimp only at q1 q2 ⊢
   rw [idx_nat, hp, Option.bind_some, g1, Option.bind_some, g2, Option.bind_some, s_hasM, Option.bind_some, q1, Option.bind_some, Option.bind_some, Option.bind_some, g2, Option.bind_some, s_hasM, Option.bind_some, q2, Option.bind_some]
   exact ⟨_, rfl, rfl⟩)
  rw [List.length_map] at k2
  unfold s_l26Pairs_b0
  rw [k1, Option.bind_some, aft_inr, k2]
  dsimp only
  rw [app1 (by rw [List.length_map, List.length_take]; omega) rfl, Option.bind_some]
  exact ⟨_, rfl, by rw [List.take_add_one, hp, List.map_append]; rfl⟩)
 rw [h1, Option.bind_some, aft_inr, h2, List.take_length]
theorem i_pairsJ {K : List Key} (hl : K.length ≤ 300) {ii : Int} {R : List (List Int)} (a b : Det) (w : Bool) (ps : List Pair) (acc : List Pair) (hpl : acc.length + ps.length ≤ 8) (X : Det) (hX : X.Pairs = ps) : cntM (i_joinedDet_b6 (K, ii, R) (b01 w) X) ps.length 0 acc = some (.inr (acc ++ ps.map (plP (fun v => bif w then v.2 else v.1) K))) := by
 obtain ⟨s, h1, h2⟩ := cnt_inv (f := i_joinedDet_b6 (K, ii, R) (b01 w) X) (fun j s => s = acc ++ (ps.take j).map (plP (fun v => bif w then v.2 else v.1) K)) ps.length (s := acc) (by simp) (fun j s hj hs => by
  subst hs
  have hp : ps[j]? = some ps[j] := List.getElem?_eq_getElem hj
  generalize ps[j] = p at hp
  obtain ⟨t, k1, k2⟩ := cnt_inv (f := i_joinedDet_b8 (K, ii, R) (b01 w) p) (fun i s => s = (plK (fun v => bif w then v.2 else v.1) K p.Ask i, plK (fun v => bif w then v.2 else v.1) K p.Give i)) K.length (s := ([], [])) rfl (fun i s hi hs => by
   subst hs
   have hv : K[i]? = some K[i] := List.getElem?_eq_getElem hi
   generalize K[i] = v at hv
   have g2 : idx [v.1, v.2] (b01 w) = some (bif w then v.2 else v.1) := by cases w <;> rfl
   have q1 := plK_step (part := fun v => bif w then v.2 else v.1) (S := p.Ask) hv (by omega)
   have q2 := plK_step (part := fun v => bif w then v.2 else v.1) (S := p.Give) hv (by omega)
   unfold i_joinedDet_b8
   dsimp only at q1 q2 ⊢
   rw [idx_nat, hv, Option.bind_some, g2, Option.bind_some, conI, Option.bind_some, q1, Option.bind_some, Option.bind_some, conI, Option.bind_some, q2, Option.bind_some]
   exact ⟨_, rfl, rfl⟩)
  unfold i_joinedDet_b6
  dsimp only
  rw [hX, idx_nat, hp, Option.bind_some, k1, Option.bind_some, aft_inr, k2]
  dsimp only
  rw [app1 (by rw [List.length_append, List.length_map, List.length_take]; omega) rfl, Option.bind_some]
  exact ⟨_, rfl, by rw [List.take_add_one, hp, List.map_append, List.append_assoc]; rfl⟩)
 rw [h1, h2, List.take_length]
section
variable {p : Sig} {a b : Det} (hs : sigOk p = true) (ha : detOk p a = true) (hb : detOk p b = true) (hsum : a.Pairs.length + b.Pairs.length ≤ 4) {k : Nat} (hk : ltd p = k)
include hs ha hb hsum hk
structure JK (a b : Det) (k : Nat) (K : List Key) (R : List (List Int)) : Prop where
 prod : Prod (kyJ a b) k K K.length R
 kin : KinJ a b K
 le : K.length ≤ 48
theorem joined_same : (s_l26Joined a b (k : Int) = some (zeroD, false) ∧ i_joinedDet a b = some (zeroD, false) ∧ 48 < a.Next.length * b.Next.length) ∨ ∃ K R, JK a b k K R ∧ s_l26Joined a b (k : Int) = some (jD a b K R, true) ∧ i_joinedDet a b = some (jD a b K R, true) := by
 obtain ⟨a1, a2, a3, n1⟩ := detOk_spec ha
 obtain ⟨b1, b2, b3, n2⟩ := detOk_spec hb
 have h16 : k ≤ 16 := by have := ltr_in hs; unfold ltr at this; unfold ltd at hk; omega
 have hr : rng (k : Int) = some () := by unfold rng; rw [if_pos (by omega)]
 obtain ⟨o, t, w1, w2, w3⟩ := while_sim (f := s_l26Joined_b0 a b (k : Int)) (g := i_joinedDet_b0 a b) (fun s t => ∃ K i R, s = (K.map toL, ((i : Nat) : Int), R) ∧ t = (K, ((i : Nat) : Int), R) ∧ Prod (kyJ a b) k K i R ∧ KinJ a b K ∧ K.length ≤ 48) (fun s => 100 - s.2.1.toNat) (fun r r' => r = (zeroD, false) ∧ r' = (zeroD, false) ∧ 48 < a.Next.length * b.Next.length) (fun s t => ∃ K i R, s = (K.map toL, ((i : Nat) : Int), R) ∧ t = (K, ((i : Nat) : Int), R) ∧ Prod (kyJ a b) k K i R ∧ KinJ a b K ∧ K.length ≤ 48 ∧ i = K.length) (fun s t ⟨K, i, R, e1, e2, hP, hK, hl⟩ => by
  subst e1 e2
  unfold s_l26Joined_b0 i_joinedDet_b0
  dsimp only
  rw [List.length_map]
  by_cases hlt : i < K.length
  · have hv : K[i]? = some K[i] := List.getElem?_eq_getElem hlt
    generalize K[i] = v at hv
    obtain ⟨v0, v1, v2, v3⟩ := hK v (List.mem_of_getElem? hv)
    obtain ⟨row, hrow, hmem⟩ := get_el (xs := a.Next) v0 v1
    have hrl : row.length = k := by have := (n1 row hmem).1; omega
    have e1 := s_rowJ ha hb hk hl h16 hK hv (M := K.map toL) (R := R)
    have e2 := i_rowJ ha hb hk hl h16 hK hv (R := R) hrow hrl
    have rk := rowK_ok (kyJ a b v) K k
    have hK' := rowJ_in ha hb hk hK (List.mem_of_getElem? hv)
    have hP' := hP.step hv
    generalize rowK (kyJ a b v) K k = G at *
    have hle := rk.le
    have hRl := hP.rl
    rw [decide_eq_true (show (i : Int) < (K.length : Int) by omega), cond_true, cond_true, hr, Option.bind_some, Int.sub_zero, Int.toNat_natCast, e1, Option.bind_some, aft_inr, idx_nat, hv, Option.bind_some, hrow, Option.bind_some, hrl, e2, Option.bind_some, aft_inr]
    dsimp only
    rw [List.length_map]
    by_cases hbig : 48 < G.1.length
    · rw [decide_eq_true (show (48 : Int) < (G.1.length : Int) by omega), cond_true, cond_true]
      exact ⟨_, _, rfl, rfl, rfl, rfl, Nat.lt_of_lt_of_le hbig (keys_len hP'.nod hK')⟩
    · rw [decide_eq_false (show ¬ (48 : Int) < (G.1.length : Int) by omega), cond_false, cond_false, app1 (by omega) rfl, Option.bind_some, Option.bind_some, wr' (by omega) (by omega)]
      refine ⟨_, _, rfl, rfl, ⟨G.1, i + 1, R ++ [G.2], rfl, rfl, hP', hK', by omega⟩, ?_⟩
      dsimp only; omega
  · rw [decide_eq_false (show ¬ (i : Int) < (K.length : Int) by omega), cond_false, cond_false]
    have := hP.il
    exact ⟨_, _, rfl, rfl, K, i, R, rfl, rfl, hP, hK, hl, by omega⟩) (2 ^ 64) (2 ^ 64) ([[0, 0]], 0, []) ([(0, 0)], 0, []) (by dsimp only; omega) (by dsimp only; omega) ⟨[(0, 0)], 0, [], rfl, rfl, Prod.init _ _, fun v hv => by
     rw [List.mem_singleton] at hv
     subst hv
     exact ⟨Int.le_refl _, by dsimp only; omega, Int.le_refl _, by dsimp only; omega⟩, by simp⟩
 have hsw : decide ((4 : Int) < IntKind.i64.wrap ((a.Pairs.length : Int) + (b.Pairs.length : Int))) = false := by
  rw [wr' (by omega) (by omega)]
  exact decide_eq_false (by omega)
 unfold s_l26Joined i_joinedDet
 rw [hsw, cond_false, w1, w2, Option.bind_some, Option.bind_some]
 match o, t, w3 with
 | .inl r, .inl r', w3 =>
  left
  rw [w3.1, w3.2.1]
  exact ⟨rfl, rfl, w3.2.2⟩
 | .inr s, .inr t, ⟨K, i, R, e1, e2, hP, hK, hl, ei⟩ =>
  right
  subst e1 e2 ei
  refine ⟨K, R, ⟨hP, hK, hl⟩, ?_, ?_⟩
  · rw [aft_inr]
    dsimp only
    have p1 := s_pairsJ (K := K) (by omega) a.Pairs (by omega) false
    have p2 := s_pairsJ (K := K) (by omega) b.Pairs (by omega) true
    rw [show b01 false = 0 from rfl] at p1
    rw [show b01 true = 1 from rfl] at p2
    rw [p1, Option.bind_some, p2, Option.bind_some, appL (by simp; omega) rfl, Option.bind_some]
    rfl
  · rw [aft_inr]
    have q1 := i_pairsJ (K := K) (by omega) (ii := ((K.length : Nat) : Int)) (R := R) a b false a.Pairs [] (by simp; omega) a rfl
    have q2 := i_pairsJ (K := K) (by omega) (ii := ((K.length : Nat) : Int)) (R := R) a b true b.Pairs ([] ++ a.Pairs.map (plP (fun v => bif false then v.2 else v.1) K)) (by simp; omega) b rfl
    have c1 : i_joinedDet_b4 a b (K, ((K.length : Nat) : Int), R) 0 [] = some (.inr (.inr ([] ++ a.Pairs.map (plP (fun v => bif false then v.2 else v.1) K)))) := by
     unfold i_joinedDet_b4
     rw [show idx [a, b] 0 = some a from rfl, Option.bind_some]
     have q1' : cntM (i_joinedDet_b6 (K, ((K.length : Nat) : Int), R) 0 a) a.Pairs.length 0 [] = _ := q1
     rw [q1', Option.bind_some, aft_inr]
    have c2 : i_joinedDet_b4 a b (K, ((K.length : Nat) : Int), R) 1 ([] ++ a.Pairs.map (plP (fun v => bif false then v.2 else v.1) K)) = some (.inr (.inr (([] ++ a.Pairs.map (plP (fun v => bif false then v.2 else v.1) K)) ++ b.Pairs.map (plP (fun v => bif true then v.2 else v.1) K)))) := by
     unfold i_joinedDet_b4
     rw [show idx [a, b] 1 = some b from rfl, Option.bind_some]
     have q2' : cntM (i_joinedDet_b6 (K, ((K.length : Nat) : Int), R) 1 b) b.Pairs.length 0 _ = _ := q2
     rw [q2', Option.bind_some, aft_inr]
    have c3 : cntM (i_joinedDet_b4 a b (K, ((K.length : Nat) : Int), R)) [a, b].length 0 [] = some (.inr (([] ++ a.Pairs.map (plP (fun v => bif false then v.2 else v.1) K)) ++ b.Pairs.map (plP (fun v => bif true then v.2 else v.1) K))) := by
     show Option.bind (i_joinedDet_b4 a b (K, ((K.length : Nat) : Int), R) 0 []) _ = _
     rw [c1, Option.bind_some]
     show Option.bind (i_joinedDet_b4 a b (K, ((K.length : Nat) : Int), R) (0 + 1) _) _ = _
     rw [show (0 : Int) + 1 = 1 from rfl, c2, Option.bind_some]
     rfl
    rw [c3, Option.bind_some, aft_inr]
    rfl
end
theorem jD_ok {p : Sig} {a b : Det} (hsum : a.Pairs.length + b.Pairs.length ≤ 4) {k : Nat} (hk : ltd p = k) {K : List Key} {R : List (List Int)} (h : JK a b k K R) : detOk p (jD a b K R) = true := by
 have hl := h.le
 have h0 := (List.getElem?_eq_some_iff.1 h.prod.zero).1
 have hR : (jD a b K R).Next.length = K.length := h.prod.rl
 unfold detOk
 rw [hR, decide_eq_true (show (1 : Int) ≤ (K.length : Int) by omega), decide_eq_true (show (K.length : Int) ≤ 48 by omega)]
 have e1 : pairsOk (jD a b K R).Pairs (K.length : Int) = true := by
  unfold pairsOk
  rw [Bool.and_eq_true, decide_eq_true_eq, List.all_eq_true]
  refine ⟨?_, fun x hx => ?_⟩
  · show (((a.Pairs.map _ ++ b.Pairs.map _).length : Nat) : Int) ≤ 4
    rw [List.length_append, List.length_map, List.length_map]; omega
  · unfold pairOk
    have : ∀ part : Key → Int, ∀ y : Pair, x = plP part K y → (setOk (K.length : Int) x.Ask && setOk (K.length : Int) x.Give) = true := fun part y e => by
     subst e
     show (setOk _ (plK part K y.Ask K.length) && setOk _ (plK part K y.Give K.length)) = true
     rw [(plK_St part K y.Ask K.length).ok (Int.le_refl _), (plK_St part K y.Give K.length).ok (Int.le_refl _)]; rfl
    rcases List.mem_append.1 (show x ∈ a.Pairs.map (plP (·.1) K) ++ b.Pairs.map (plP (·.2) K) from hx) with hx | hx
    · obtain ⟨y, _, e⟩ := List.mem_map.1 hx; exact this _ y e.symm
    · obtain ⟨y, _, e⟩ := List.mem_map.1 hx; exact this _ y e.symm
 have e2 : ((jD a b K R).Next.all (detRow p (K.length : Int))) = true := by
  rw [List.all_eq_true]
  intro row hrow
  obtain ⟨j, hj⟩ := List.getElem?_of_mem (show row ∈ R from hrow)
  obtain ⟨r1, v, r2, r3⟩ := h.prod.row j row hj
  unfold detRow
  rw [Bool.and_eq_true, List.all_eq_true, beq_iff_eq]
  refine ⟨by omega, fun x hx => inR_iff.2 ?_⟩
  obtain ⟨i, hi⟩ := List.getElem?_of_mem hx
  have hil := (List.getElem?_eq_some_iff.1 hi).1
  obtain ⟨y, y1, y2, y3⟩ := r3 i (by omega)
  rw [hi] at y1
  cases y1
  have := (List.getElem?_eq_some_iff.1 y3).1
  omega
 rw [e1, e2]; rfl
end Go.Proofs.Ytcmamhmpoinmnaa
set_option linter.unusedVariables false
set_option linter.unusedSimpArgs false
namespace Go.Proofs.Ytcmamhmpoinmnaa
open Go Go.Wk Go.Proofs
def oneD (n : Nat) : Det := ⟨[List.replicate n 0], []⟩
inductive PR (n : Nat) : List Clause → Det → Prop
 | nil : PR n [] (oneD n)
 | snoc {cs c D K R} (h : PR n cs D) (k : JK D (monD c n) n K R) : PR n (cs ++ [c]) (jD D (monD c n) K R)
theorem mon_le (c : Clause) (n : Nat) : (monD c n).Next.length ≤ 4 := by
 show ((numsN _).map _).length ≤ 4
 rw [List.length_map, numsN_len]
 unfold monStates
 (repeat' split) <;> omega
theorem PR.size {n : Nat} {cs : List Clause} {D : Det} (h : PR n cs D) : D.Next.length ≤ 4 ^ cs.length := by
 induction h with
 | nil => exact Nat.le_refl _
 | @snoc cs c D K R hp k ih =>
  show R.length ≤ _
  rw [k.prod.rl, List.length_append]
  exact Nat.le_trans (keys_len k.prod.nod k.kin) (by show _ ≤ 4 ^ (cs.length + 1); rw [Nat.pow_succ]; exact Nat.mul_le_mul ih (mon_le c n))
def clausesOk (p : Sig) (cs : List Clause) : Bool := decide ((cs.length : Int) ≤ 3) && cs.all (clauseOk p)
theorem oneD_ok {p : Sig} (hs : sigOk p = true) {n : Nat} (hn : ltd p = n) : detOk p (oneD n) = true := by
 have h := ltr_in hs
 unfold ltr at h
 unfold ltd at hn
 unfold detOk oneD
 have e : ([List.replicate n (0 : Int)].all (detRow p ((1 : Nat) : Int))) = true := by
  rw [List.all_eq_true]
  intro row hrow
  rw [List.mem_singleton] at hrow
  subst hrow
  unfold detRow ltd
  rw [List.length_replicate, Bool.and_eq_true, beq_iff_eq, List.all_eq_true]
  refine ⟨hn.symm, fun x hx => ?_⟩
  rw [(List.mem_replicate.1 hx).2]
  exact inR_iff.2 ⟨Int.le_refl _, by omega⟩
 show (decide ((1 : Int) ≤ ((1 : Nat) : Int)) && decide (((1 : Nat) : Int) ≤ 48) && pairsOk [] ((1 : Nat) : Int) && ([List.replicate n (0 : Int)].all (detRow p ((1 : Nat) : Int)))) = true
 rw [e]; rfl
theorem Product_same (p : Sig) {cs : List Clause} (hb : ∀ c ∈ cs, Clause.bd c) : (s_ProductOf p cs = some (zeroD, false) ∧ i_ProductOf p cs = some (zeroD, false) ∧ (sigOk p = true → clausesOk p cs = true → 2 < cs.length)) ∨
 (sigOk p = true ∧ clausesOk p cs = true ∧ ∃ n D, ltd p = ((n : Nat) : Int) ∧ n ≤ 16 ∧ PR n cs D ∧ detOk p D = true ∧ D.Pairs.length = cs.length ∧ s_ProductOf p cs = some (D, true) ∧ i_ProductOf p cs = some (D, true)) := by
 unfold s_ProductOf i_ProductOf
 rw [i_isSig_eq]
 cases hs : sigOk p with
 | false =>
  left
  have : s_ClausesOk p cs = some false := by
   unfold s_ClausesOk
   rw [s_SigOk_eq, hs]; rfl
  rw [this]
  exact ⟨rfl, rfl, fun h => by cases h⟩
 | true =>
  rw [s_ClausesOk_eq hs hb, Option.bind_some, Option.bind_some, Bool.not_true, cond_false, i_areClauses_eq hs hb, Option.bind_some, Option.bind_some]
  show _ ∨ (_ ∧ clausesOk p cs = true ∧ _)
  have hc' : (decide ((cs.length : Int) ≤ 3) && cs.all (clauseOk p)) = clausesOk p cs := rfl
  rw [hc']
  cases hc : clausesOk p cs with
  | false => exact .inl ⟨rfl, rfl, fun _ h => by cases h⟩
  | true =>
   have hcc := hc
   unfold clausesOk at hcc
   rw [Bool.and_eq_true, decide_eq_true_eq, List.all_eq_true] at hcc
   obtain ⟨l1, l2⟩ := ltr_in hs
   obtain ⟨n, hn⟩ := ex_nat (z := ltr p) (by omega)
   have hn' : ltd p = (n : Int) := hn
   have hmk : mkS 8 (n : Int) (0 : Int) = some (List.replicate n 0) := mkS_nat (by omega) rfl
   have hone := oneD_ok hs hn'
   rw [Bool.not_true, cond_false, cond_false, s_LettersOf_eq hs, i_lettersOf_eq hs, hn, Option.bind_some, Option.bind_some, hmk, Option.bind_some, Option.bind_some]
   obtain ⟨o, t, w1, w2, w3⟩ := cnt_sim2 (f := s_ProductOf_b0 p cs) (g := i_ProductOf_b0 p cs) (fun j s t => s = t ∧ PR n (cs.take j) ⟨s.1, s.2⟩ ∧ detOk p ⟨s.1, s.2⟩ = true ∧ s.2.length = j) (fun r r' => r = (zeroD, false) ∧ r' = (zeroD, false) ∧ 2 < cs.length) (fun _ _ => False) cs.length (fun j s t hj ⟨e, hP, hd, hl⟩ => by
    subst e
    have hcj : cs[j]? = some cs[j] := List.getElem?_eq_getElem hj
    generalize cs[j] = c at hcj
    have hcm := List.mem_of_getElem? hcj
    obtain ⟨q1, q2⟩ := monD_ok (hcc.2 c hcm) hn
    have hsum : (⟨s.1, s.2⟩ : Det).Pairs.length + (monD c n).Pairs.length ≤ 4 := by
     rw [q2]
     show s.2.length + 1 ≤ 4
     omega
    unfold s_ProductOf_b0 i_ProductOf_b0
    rw [idx_nat, hcj, Option.bind_some, Option.bind_some, s_monitor hs (hb c hcm) (hcc.2 c hcm) hn, i_monitor hs (hcc.2 c hcm) hn, Option.bind_some, Option.bind_some]
    have hJ : s_JoinedDet p ⟨s.1, s.2⟩ (monD c n) = s_l26Joined ⟨s.1, s.2⟩ (monD c n) (n : Int) := by
     have hb1 : ∀ D : Det, detOk p D = true → ∀ x ∈ D.Pairs, x.Ask.length ≤ 1000000000 ∧ x.Give.length ≤ 1000000000 := fun D hD x hx => by
      obtain ⟨d1, d2, _, _⟩ := detOk_spec hD
      unfold detOk at hD
      simp only [Bool.and_eq_true] at hD
      have hp := hD.1.2
      unfold pairsOk at hp
      rw [Bool.and_eq_true, List.all_eq_true] at hp
      have := hp.2 x hx
      unfold pairOk at this
      rw [Bool.and_eq_true] at this
      have a1 := (St.of this.1).len
      have a2 := (St.of this.2).len
      omega
     unfold s_JoinedDet
     rw [s_DetOk_eqD hs (hb1 _ hd), hd, Option.bind_some, Bool.not_true, cond_false, s_DetOk_eqD hs (hb1 _ q1), q1, Option.bind_some, Bool.not_true, Option.bind_some, cond_false, wr' (by omega) (by omega), decide_eq_false (by omega), Option.bind_some, cond_false, s_LettersOf_eq hs, hn, Option.bind_some]
     cases s_l26Joined ⟨s.1, s.2⟩ (monD c n) (n : Int) <;> rfl
    rw [hJ]
    rcases joined_same hs hd q1 hsum hn' with ⟨j1, j2, j3⟩ | ⟨K, R, hK, j1, j2⟩
    · rw [j1, j2]
      refine ⟨_, _, rfl, rfl, rfl, rfl, ?_⟩
      have z1 := hP.size
      have z2 : (monD c n).Next.length ≤ 4 := mon_le c n
      rw [List.length_take, Nat.min_eq_left (by omega)] at z1
      by_cases hj2 : j < 2
      · exfalso
        have z3 : 4 ^ j ≤ 4 ^ 1 := Nat.pow_le_pow_right (by omega) (by omega)
        have z4 : (⟨s.1, s.2⟩ : Det).Next.length * (monD c n).Next.length ≤ 4 * 4 := Nat.mul_le_mul (by omega) z2
        omega
      · omega
    · rw [j1, j2]
      refine ⟨_, _, rfl, rfl, rfl, ?_, jD_ok hsum hn' hK, ?_⟩
      · rw [List.take_add_one, hcj]
        exact PR.snoc hP hK
      · show ((s.2.map _ ++ (monD c n).Pairs.map _).length) = _
        rw [List.length_append, List.length_map, List.length_map, hl, q2]) cs.length 0 ([List.replicate n 0], []) ([List.replicate n 0], []) (by omega) ⟨rfl, PR.nil, hone, rfl⟩
   have w1' : cntM (s_ProductOf_b0 p cs) cs.length 0 ([List.replicate n 0], []) = some o := w1
   have w2' : cntM (i_ProductOf_b0 p cs) cs.length 0 ([List.replicate n 0], []) = some t := w2
   rw [w1', w2', Option.bind_some, Option.bind_some]
   match o, t, w3 with
   | .inl r, .inl r', w3 =>
    left
    rw [w3.1, w3.2.1]
    exact ⟨rfl, rfl, fun _ _ => w3.2.2⟩
   | .inr s, .inr t, .inl ⟨e, hP, hd, hl⟩ =>
    right
    subst e
    rw [List.take_length] at hP
    exact ⟨rfl, rfl, n, ⟨s.1, s.2⟩, hn', by omega, hP, hd, hl, rfl, rfl⟩
end Go.Proofs.Ytcmamhmpoinmnaa
set_option linter.unusedVariables false
set_option linter.unusedSimpArgs false
namespace Go.Proofs.Ytcmamhmpoinmnaa
open Go Go.Wk Go.Proofs
theorem find_eq {x : l30Graph} {K : List Key} (h1 : x.of = K.map (·.1)) (h2 : x.by0 = K.map (·.2)) (hl : K.length ≤ 100000) (p q : Int) :
 s_l30Find x p q = some (atK K (p, q), (addK K (p, q)).map (·.1), (addK K (p, q)).map (·.2)) := by
 have hlen : x.of.length = K.length := by rw [h1, List.length_map]
 unfold s_l30Find
 rw [hlen, cnt_find0 (f := s_l30Find_b0 x p q) (fun k => ((p, q) : Key) == k) (fun i => ((i : Int), x.of, x.by0)) (xs := K) (fun i k hk => by
  unfold s_l30Find_b0
  rw [idx_nat, idx_nat, show x.of[i]? = some k.1 from by rw [h1, List.getElem?_map, hk]; rfl, show x.by0[i]? = some k.2 from by rw [h2, List.getElem?_map, hk]; rfl]
  simp only [Option.bind_some]
  have : (((p, q) : Key) == k) = ((k.1 == p) && (k.2 == q)) := by
   obtain ⟨a, b⟩ := k
   rw [Bool.eq_iff_iff, beq_iff_eq, Bool.and_eq_true, beq_iff_eq, beq_iff_eq, Prod.mk.injEq]
   exact ⟨fun h => ⟨h.1.symm, h.2.symm⟩, fun h => ⟨h.1.symm, h.2.symm⟩⟩
  rw [this]
  cases k.1 == p <;> cases k.2 == q <;> rfl)]
 unfold atK addK loc
 rw [Option.bind_some]
 cases K.findIdx? (fun k => ((p, q) : Key) == k) with
 | some i => simp [aft, h1, h2]
 | none =>
  have l2 : x.by0.length = K.length := by rw [h2, List.length_map]
  simp only [aft_inr]
  rw [app1 (by omega) rfl, Option.bind_some, app1 (by omega) rfl, Option.bind_some, h1, h2]
  simp only [List.length_append, List.length_map, List.length_cons, List.length_nil, List.map_append, List.map_cons, List.map_nil]
  rw [wr' (by omega) (by omega)]
  congr 2
  omega
def nums (n : Nat) : List Int := (List.range n).map (fun i : Nat => (i : Int))
theorem nums_succ (n : Nat) : nums (n + 1) = nums n ++ [(n : Int)] := by simp [nums, List.range_succ]
def keyW (m : Machine) (d : Det) (ins q r j : Int) : Key := (tab m.Next q j, tab d.Next r (tab m.Out q j * ins + j))
abbrev St3 := List Key × List Int × List Int
def stepW (m : Machine) (d : Det) (ins q r : Int) (s : St3) (j : Int) : St3 := (addK s.1 (keyW m d ins q r j), s.2.1 ++ [atK s.1 (keyW m d ins q r j)], s.2.2 ++ [tab m.Out q j * ins + j])
def rowW (m : Machine) (d : Det) (ins q r : Int) (K : List Key) (j : Nat) : St3 := (nums j).foldl (stepW m d ins q r) (K, [], [])
theorem rowW_succ (m : Machine) (d : Det) (ins q r : Int) (K : List Key) (j : Nat) : rowW m d ins q r K (j + 1) = stepW m d ins q r (rowW m d ins q r K j) j := by
 unfold rowW
 rw [nums_succ, List.foldl_append]; rfl
def Kin (a b : Int) (K : List Key) : Prop := ∀ k ∈ K, 0 ≤ k.1 ∧ k.1 < a ∧ 0 ≤ k.2 ∧ k.2 < b
section
variable {p : Sig} {m : Machine} {d : Det} (hm : machOk p m = true) (hd : detOk p d = true)
include hm hd
theorem keyW_in {q r j : Int} (q0 : 0 ≤ q) (q1 : q < m.Next.length) (r0 : 0 ≤ r) (r1 : r < d.Next.length) (j0 : 0 ≤ j) (j1 : j < pw p.In) :
 ∃ a b c, idx m.Next q = some a ∧ idx a j = some (keyW m d (pw p.In) q r j).1 ∧ idx m.Out q = some b ∧ idx b j = some (tab m.Out q j) ∧ idx d.Next r = some c ∧ idx c (tab m.Out q j * pw p.In + j) = some (keyW m d (pw p.In) q r j).2 ∧
  0 ≤ tab m.Out q j ∧ tab m.Out q j < 4 ∧ 0 ≤ (keyW m d (pw p.In) q r j).1 ∧ (keyW m d (pw p.In) q r j).1 < m.Next.length ∧ 0 ≤ (keyW m d (pw p.In) q r j).2 ∧ (keyW m d (pw p.In) q r j).2 < d.Next.length := by
 obtain ⟨_, _, hlen, n1, n2⟩ := machOk_spec hm
 obtain ⟨_, _, _, n3⟩ := detOk_spec hd
 obtain ⟨a, a1, a2, a3, a4⟩ := tab_in n1 q0 q1 j0 j1
 obtain ⟨b, b1, b2, b3, b4⟩ := tab_in n2 q0 (by omega) j0 j1
 have pO := pw_le p.Out
 have hlt : tab m.Out q j * pw p.In + j < ltd p := by
  unfold ltd
  have hp : pw p.In = 2 ∨ pw p.In = 4 := by unfold pw; split <;> simp
  rcases hp with hp | hp <;> rw [hp] at j1 ⊢ <;> omega
 have h0 : 0 ≤ tab m.Out q j * pw p.In + j := by
  have hp : pw p.In = 2 ∨ pw p.In = 4 := by unfold pw; split <;> simp
  rcases hp with hp | hp <;> rw [hp] <;> omega
 obtain ⟨c, c1, c2, c3, c4⟩ := tab_in n3 r0 r1 h0 hlt
 exact ⟨a, b, c, a1, a2, b1, b2, c1, c2, b3, by omega, a3, a4, c3, c4⟩
theorem rowW_in {q r : Int} (q0 : 0 ≤ q) (q1 : q < m.Next.length) (r0 : 0 ≤ r) (r1 : r < d.Next.length) {K : List Key} (hK : Kin m.Next.length d.Next.length K) : ∀ (j : Nat), (j : Int) ≤ pw p.In →
 Kin m.Next.length d.Next.length (rowW m d (pw p.In) q r K j).1 ∧ K.length ≤ (rowW m d (pw p.In) q r K j).1.length ∧ (rowW m d (pw p.In) q r K j).1.length ≤ K.length + j ∧ (rowW m d (pw p.In) q r K j).2.1.length = j ∧ (rowW m d (pw p.In) q r K j).2.2.length = j ∧
  (∀ (i : Nat) v, K[i]? = some v → (rowW m d (pw p.In) q r K j).1[i]? = some v)
 | 0, _ => ⟨hK, Nat.le_refl _, by simp [rowW, nums], rfl, rfl, fun _ _ h => h⟩
 | j + 1, hj => by
  obtain ⟨h1, h2, h3, h4, h5, h6⟩ := rowW_in q0 q1 r0 r1 hK j (by omega)
  obtain ⟨_, _, _, _, _, _, _, _, _, _, _, k1, k2, k3, k4⟩ := keyW_in hm hd q0 q1 r0 r1 (j := (j : Int)) (by omega) (by omega)
  rw [rowW_succ]
  generalize rowW m d (pw p.In) q r K j = F at *
  have hl := addK_len F.1 (keyW m d (pw p.In) q r j)
  refine ⟨fun k hk => ?_, ?_, ?_, ?_, ?_, fun i v hv => addK_get (h6 i v hv)⟩
  · rcases addK_mem hk with hk | rfl
    · exact h1 k hk
    · exact ⟨k1, k2, k3, k4⟩
  · show K.length ≤ (addK F.1 _).length
    omega
  · show (addK F.1 _).length ≤ _
    omega
  · show (F.2.1 ++ [_]).length = _
    simp [h4]
  · show (F.2.2 ++ [_]).length = _
    simp [h5]
end
end Go.Proofs.Ytcmamhmpoinmnaa
set_option linter.unusedVariables false
set_option linter.unusedSimpArgs false
namespace Go.Proofs.Ytcmamhmpoinmnaa
open Go Go.Wk Go.Proofs
abbrev WT := List Key × Int × List (List Int) × List (List Int) × List (Key × Int)
abbrev WS := Int × List Int × List Int × List (List Int) × List (List Int)
def toS (t : WT) : WS := (t.2.1, t.1.map (·.1), t.1.map (·.2), t.2.2.1, t.2.2.2.1)
def InvW (m : Machine) (d : Det) (k : Nat) (t : WT) : Prop := Kin m.Next.length d.Next.length t.1 ∧ 0 ≤ t.2.1 ∧ t.2.1 ≤ t.1.length ∧ (t.2.2.1.length : Int) = t.2.1 ∧ (t.2.2.2.1.length : Int) = t.2.1 ∧ (∀ r ∈ t.2.2.1, r.length = k) ∧ t.2.2.2.2 = ixm 0 t.1 ∧ t.1.length ≤ 256
section
variable {p : Sig} {m : Machine} {d : Det} (hs : sigOk p = true) (hm : machOk p m = true) (hd : detOk p d = true) {k : Nat} (hk : pw p.In = (k : Int))
include hs hm hd hk
theorem i_rowW {q r : Int} (q0 : 0 ≤ q) (q1 : q < m.Next.length) (r0 : 0 ≤ r) (r1 : r < d.Next.length) {K : List Key} (hK : Kin m.Next.length d.Next.length K) (hl : K.length ≤ 1000) {x42 x47 : Key} (e1 : x42.1 = q) (e2 : x47.2 = r) {row : List Int} (e3 : idx m.Next q = some row) :
 cntM (i_watchOf_b2 p m d x42 x47 row) k 0 (K, [], [], ixm 0 K) = some (.inr ((rowW m d (pw p.In) q r K k).1, (rowW m d (pw p.In) q r K k).2.1, (rowW m d (pw p.In) q r K k).2.2, ixm 0 (rowW m d (pw p.In) q r K k).1)) := by
 obtain ⟨m1, m2, m3, m4, m5⟩ := machOk_spec hm
 obtain ⟨d1, d2, _, _⟩ := detOk_spec hd
 obtain ⟨s', h1, h2⟩ := cnt_inv (f := i_watchOf_b2 p m d x42 x47 row) (fun j s => s = ((rowW m d (pw p.In) q r K j).1, (rowW m d (pw p.In) q r K j).2.1, (rowW m d (pw p.In) q r K j).2.2, ixm 0 (rowW m d (pw p.In) q r K j).1)) k (s := (K, [], [], ixm 0 K)) rfl (fun j s hj hI => by
  subst hI
  obtain ⟨g1, g2, g3, g4, g5, g6⟩ := rowW_in hm hd q0 q1 r0 r1 hK j (by omega)
  obtain ⟨a, b, c, k1, k2, k3, k4, k5, k6, k7, k8, k9, k10, k11, k12⟩ := keyW_in hm hd q0 q1 r0 r1 (j := (j : Int)) (by omega) (by omega)
  rw [e3] at k1
  cases k1
  refine ⟨_, ?_, rfl⟩
  rw [rowW_succ]
  have hpw := pw_le p.In
  have hlt : 0 ≤ tab m.Out q j * pw p.In ∧ tab m.Out q j * pw p.In ≤ 16 := by
   have hp : pw p.In = 2 ∨ pw p.In = 4 := by unfold pw; split <;> simp
   rcases hp with hp | hp <;> rw [hp] <;> omega
  unfold i_watchOf_b2
  rw [e1, e2, k2, Option.bind_some, k3, Option.bind_some, k4, Option.bind_some, i_inputsOf_eq hs, Option.bind_some, k5, Option.bind_some, wr' (z := tab m.Out q j * pw p.In) (by omega) (by omega), wr' (by omega) (by omega), k6, Option.bind_some]
  have hw : kwI2 (keyW m d (pw p.In) q r j) = true := kw_in k9 (by omega) k11 (by omega)
  unfold stepW
  generalize rowW m d (pw p.In) q r K j = F at *
  generalize keyW m d (pw p.In) q r j = u at *
  dsimp only
  rw [show ((u.1, u.2) : Key) = u from rfl, mget_ixm F.1 hw, Option.bind_some]
  unfold addK atK
  cases hloc : loc F.1 u with
  | some i =>
   simp only [Bool.not_true, cond_false, Option.bind_some]
   rw [app1 (by omega) rfl, Option.bind_some, app1 (by omega) rfl]
   rfl
  | none =>
   simp only [Bool.not_false, cond_true]
   rw [mset_ixm hw hloc, Option.bind_some, app1 (by omega) rfl, Option.bind_some, Option.bind_some]
   dsimp only
   rw [app1 (by omega) rfl, Option.bind_some, app1 (by omega) rfl]
   rfl)
 rw [h1, h2]
theorem s_rowW {q r : Int} (q0 : 0 ≤ q) (q1 : q < m.Next.length) (r0 : 0 ≤ r) (r1 : r < d.Next.length) {K : List Key} (hK : Kin m.Next.length d.Next.length K) (hl : K.length ≤ 1000) {s1 : WS} {i : Nat} (hi : s1.1 = (i : Int)) (hq : K[i]? = some (q, r)) :
 ∃ z, whileM (s_l30Watch_b2 p m d s1) (2 ^ 64) ([], [], 0, K.map (·.1), K.map (·.2)) = some (.inr ((rowW m d (pw p.In) q r K k).2.1, (rowW m d (pw p.In) q r K k).2.2, z, (rowW m d (pw p.In) q r K k).1.map (·.1), (rowW m d (pw p.In) q r K k).1.map (·.2))) := by
 obtain ⟨m1, m2, m3, m4, m5⟩ := machOk_spec hm
 obtain ⟨d1, d2, _, _⟩ := detOk_spec hd
 have hpw := pw_le p.In
 obtain ⟨hsi, _⟩ := sigOk_in hs
 obtain ⟨o, h1, h2⟩ := while_out (f := s_l30Watch_b2 p m d s1) (fun j s => s = ((rowW m d (pw p.In) q r K j).2.1, (rowW m d (pw p.In) q r K j).2.2, (j : Int), (rowW m d (pw p.In) q r K j).1.map (·.1), (rowW m d (pw p.In) q r K j).1.map (·.2)) ∧ j ≤ k)
  (fun _ => False) (fun s => s = ((rowW m d (pw p.In) q r K k).2.1, (rowW m d (pw p.In) q r K k).2.2, (k : Int), (rowW m d (pw p.In) q r K k).1.map (·.1), (rowW m d (pw p.In) q r K k).1.map (·.2))) k (fun j s ⟨hI, hj⟩ => by
  subst hI
  unfold s_l30Watch_b2 s_l29Ins
  rw [s_l23Power_eq hsi, Option.bind_some, Option.bind_some]
  by_cases hlt : (j : Int) < pw p.In
  · obtain ⟨g1, g2, g3, g4, g5, g6⟩ := rowW_in hm hd q0 q1 r0 r1 hK j (by omega)
    obtain ⟨a, b, c, k1, k2, k3, k4, k5, k6, k7, k8, k9, k10, k11, k12⟩ := keyW_in hm hd q0 q1 r0 r1 (j := (j : Int)) (by omega) (by omega)
    have hlt2 : 0 ≤ tab m.Out q j * pw p.In ∧ tab m.Out q j * pw p.In ≤ 16 := by
     have hp : pw p.In = 2 ∨ pw p.In = 4 := by unfold pw; split <;> simp
     rcases hp with hp | hp <;> rw [hp] <;> omega
    have hr := rowW_succ m d (pw p.In) q r K j
    have hqj := g6 i _ hq
    refine ⟨.inr (.inr ((rowW m d (pw p.In) q r K (j + 1)).2.1, (rowW m d (pw p.In) q r K (j + 1)).2.2, ((j + 1 : Nat) : Int), (rowW m d (pw p.In) q r K (j + 1)).1.map (·.1), (rowW m d (pw p.In) q r K (j + 1)).1.map (·.2))), ?_, by omega, rfl, by omega⟩
    rw [hr]
    unfold stepW
    generalize rowW m d (pw p.In) q r K j = F at *
    generalize hu : keyW m d (pw p.In) q r j = u at *
    simp only [hlt, decide_true, cond_true]
    rw [hi, idx_nat, idx_nat, show (F.1.map (·.1))[i]? = some q from by rw [List.getElem?_map, hqj]; rfl, show (F.1.map (·.2))[i]? = some r from by rw [List.getElem?_map, hqj]; rfl]
    simp only [Option.bind_some, k1, k2, k3, k4, k5]
    rw [wr' (z := tab m.Out q j * pw p.In) (by omega) (by omega), wr' (by omega) (by omega), k6, Option.bind_some, find_eq (K := F.1) rfl rfl (by omega), Option.bind_some, app1 (by omega) rfl, Option.bind_some, app1 (by omega) rfl, Option.bind_some, wr' (by omega) (by omega)]
    rfl
  · have : j = k := by omega
    subst this
    refine ⟨.inr (.inl _), ?_, rfl⟩
    simp only [hlt, decide_false, cond_false]) (2 ^ 64) 0 ([], [], 0, K.map (·.1), K.map (·.2)) (by omega) ⟨rfl, by omega⟩ (by omega)
 match o, h2 with
 | .inr s, h2 => exact ⟨(k : Int), by rw [h1, h2]⟩
end
end Go.Proofs.Ytcmamhmpoinmnaa
set_option linter.unusedVariables false
set_option linter.unusedSimpArgs false
namespace Go.Proofs.Ytcmamhmpoinmnaa
open Go Go.Wk Go.Proofs
theorem s_l1Has_eqW (row : List Int) (v : Int) : s_l1Has row v = some (row.any (fun x => v == x)) := by
 unfold s_l1Has
 rw [cnt_all0 (f := s_l1Has_b0 row v) (r := true) (fun x => !(v == x)) (xs := row) rfl (fun i y hy => by
  unfold s_l1Has_b0
  rw [idx_nat, hy, Option.bind_some, show (y == v) = (v == y) from BEq.comm]
  cases v == y <;> rfl), List.any_eq_not_all_not]
 cases row.all (fun x => !(v == x)) <;> rfl
def partN (K : List Key) (S : List Int) : Nat → List Int
 | 0 => []
 | j + 1 => bif (match K[j]? with | some k => S.any (fun x => k.2 == x) | none => false) then partN K S j ++ [(j : Int)] else partN K S j
theorem partN_len (K : List Key) (S : List Int) : ∀ j, (partN K S j).length ≤ j
 | 0 => Nat.le_refl _
 | j + 1 => by
  have := partN_len K S j
  unfold partN
  cases (match K[j]? with | some k => S.any (fun x => k.2 == x) | none => false) with
  | false => exact Nat.le_succ_of_le this
  | true => simpa using this
theorem s_part {x : l30Graph} {K : List Key} (h2 : x.by0 = K.map (·.2)) (hl : K.length ≤ 1000) (S : List Int) : s_l30Part x S = some (partN K S K.length) := by
 unfold s_l30Part
 obtain ⟨s', h3, h4⟩ := cnt_inv (f := s_l30Part_b0 x S) (fun j s => s = partN K S j) K.length (s := []) rfl (fun j s hj hI => by
  subst hI
  obtain ⟨k, hk⟩ : ∃ k, K[j]? = some k := ⟨_, List.getElem?_eq_getElem hj⟩
  have := partN_len K S j
  refine ⟨_, ?_, rfl⟩
  unfold s_l30Part_b0
  rw [idx_nat, show x.by0[j]? = some k.2 from by rw [h2, List.getElem?_map, hk]; rfl, Option.bind_some, s_l1Has_eqW, Option.bind_some]
  conv => rhs; unfold partN
  rw [hk]
  dsimp only
  cases S.any (fun x => k.2 == x) with
  | false => rfl
  | true =>
   simp only [cond_true]
   rw [app1 (by omega) rfl]; rfl)
 rw [h2, List.length_map, h3, h4]; rfl
def partP (K : List Key) (x : Pair) : Pair := ⟨partN K x.Ask K.length, partN K x.Give K.length⟩
theorem i_part {s3 : WT} (hl : s3.1.length ≤ 1000) (x : Pair) : cntM (i_watchOf_b6 s3 x) s3.1.length 0 ([], []) = some (.inr (partN s3.1 x.Ask s3.1.length, partN s3.1 x.Give s3.1.length)) := by
 obtain ⟨s', h3, h4⟩ := cnt_inv (f := i_watchOf_b6 s3 x) (fun j s => s = (partN s3.1 x.Ask j, partN s3.1 x.Give j)) s3.1.length (s := ([], [])) rfl (fun j s hj hI => by
  subst hI
  obtain ⟨k, hk⟩ : ∃ k, s3.1[j]? = some k := ⟨_, List.getElem?_eq_getElem hj⟩
  have := partN_len s3.1 x.Ask j
  have := partN_len s3.1 x.Give j
  refine ⟨_, ?_, rfl⟩
  unfold i_watchOf_b6
  rw [idx_nat, hk, Option.bind_some, slices_Contains_I_int64_eq, Option.bind_some, slices_Contains_I_int64_eq]
  conv => rhs; unfold partN
  rw [hk]
  dsimp only
  cases x.Ask.any (fun x => k.2 == x) <;> cases x.Give.any (fun x => k.2 == x) <;> simp only [cond_true, cond_false, Option.bind_some]
  · rw [app1 (by omega) rfl]; rfl
  · rw [app1 (by omega) rfl]; rfl
  · rw [app1 (by omega) rfl, Option.bind_some, Option.bind_some, app1 (by omega) rfl]; rfl)
 rw [h3, h4]
section
variable {p : Sig} {m : Machine} {d : Det} (hs : sigOk p = true) (hm : machOk p m = true) (hd : detOk p d = true)
include hs hm hd
end
end Go.Proofs.Ytcmamhmpoinmnaa
set_option linter.unusedVariables false
set_option linter.unusedSimpArgs false
namespace Go.Proofs.Ytcmamhmpoinmnaa
open Go Go.Wk Go.Proofs
def kyW (m : Machine) (d : Det) (ins : Int) (v : Key) (x : Int) : Key := keyW m d ins v.1 v.2 x
def letW (m : Machine) (ins : Int) (v : Key) (x : Int) : Int := tab m.Out v.1 x * ins + x
theorem rowW_rowK (m : Machine) (d : Det) (ins : Int) (v : Key) (K : List Key) : ∀ j : Nat, (rowW m d ins v.1 v.2 K j).1 = (rowK (kyW m d ins v) K j).1 ∧ (rowW m d ins v.1 v.2 K j).2.1 = (rowK (kyW m d ins v) K j).2 ∧ (rowW m d ins v.1 v.2 K j).2.2 = (nums j).map (letW m ins v)
 | 0 => ⟨rfl, rfl, rfl⟩
 | j + 1 => by
  obtain ⟨h1, h2, h3⟩ := rowW_rowK m d ins v K j
  rw [rowW_succ]
  unfold stepW
  dsimp only
  have e : rowK (kyW m d ins v) K (j + 1) = (addK (rowK (kyW m d ins v) K j).1 (kyW m d ins v j), (rowK (kyW m d ins v) K j).2 ++ [atK (rowK (kyW m d ins v) K j).1 (kyW m d ins v j)]) := rfl
  rw [h1, h2, h3, e, nums_succ, List.map_append]
  exact ⟨rfl, rfl, rfl⟩
def InvX (m : Machine) (d : Det) (ins : Int) (k : Nat) (t : WT) : Prop := Prod (kyW m d ins) k t.1 t.2.1.toNat t.2.2.1 ∧ t.2.2.2.1.length = t.2.2.1.length ∧ ∀ (j : Nat) l, t.2.2.2.1[j]? = some l → ∃ v, t.1[j]? = some v ∧ l = (nums k).map (letW m ins v)
theorem InvX.init (m : Machine) (d : Det) (ins : Int) (k : Nat) : InvX m d ins k ([(0, 0)], 0, [], [], ixm 0 [(0, 0)]) := ⟨Prod.init _ _, rfl, fun j l h => by simp at h⟩
theorem InvX.step {m : Machine} {d : Det} {ins : Int} {k : Nat} {K : List Key} {i : Nat} {nx lt : List (List Int)} {ix ix' : List (Key × Int)} (h : InvX m d ins k (K, (i : Int), nx, lt, ix)) {q r : Int} (hq : K[i]? = some (q, r)) :
 InvX m d ins k ((rowW m d ins q r K k).1, (i : Int) + 1, nx ++ [(rowW m d ins q r K k).2.1], lt ++ [(rowW m d ins q r K k).2.2], ix') := by
 obtain ⟨h1, h2, h3⟩ := h
 dsimp only at h1 h2 h3
 obtain ⟨e1, e2, e3⟩ := rowW_rowK m d ins (q, r) K k
 dsimp only at e1 e2 e3
 have rk := rowK_ok (kyW m d ins (q, r)) K k
 unfold InvX
 dsimp only
 rw [e1, e2, e3]
 rw [Int.toNat_natCast] at h1
 have hs := h1.step hq
 have hrl := h1.rl
 refine ⟨?_, by simp [h2], fun j l hj => ?_⟩
 · rw [show ((i : Int) + 1).toNat = i + 1 from by omega]; exact hs
 · by_cases e : j < lt.length
   · rw [List.getElem?_append_left e] at hj
     obtain ⟨v, v1, v2⟩ := h3 j l hj
     exact ⟨v, rk.pre j v v1, v2⟩
   · have hjl := (List.getElem?_eq_some_iff.1 hj).1
     rw [List.length_append] at hjl
     simp only [List.length_cons, List.length_nil] at hjl
     have : j = i := by omega
     subst this
     have hlt : lt.length = j := by omega
     rw [← hlt] at hj
     simp at hj
     exact ⟨(q, r), rk.pre j _ hq, hj.symm⟩
section
variable {p : Sig} {m : Machine} {d : Det} (hs : sigOk p = true) (hm : machOk p m = true) (hd : detOk p d = true) {k : Nat} (hk : pw p.In = (k : Int))
include hs hm hd hk
theorem watch_same2 : ∃ o t, whileM (s_l30Watch_b0 p m d) (2 ^ 64) (0, [0], [0], [], []) = some o ∧ whileM (i_watchOf_b0 p m d) (2 ^ 64) ([(0, 0)], 0, [], [], ixm 0 [(0, 0)]) = some t ∧
 ((∃ t', o = .inr (toS t') ∧ t = .inr t' ∧ InvW m d k t' ∧ InvX m d (pw p.In) k t' ∧ t'.2.1 = t'.1.length) ∨ (o = .inl (⟨[], [], [], []⟩, false) ∧ t = .inl (none, false) ∧ 256 < m.Next.length * d.Next.length)) := by
 obtain ⟨m1, m2, m3, m4, m5⟩ := machOk_spec hm
 obtain ⟨d1, d2, _, _⟩ := detOk_spec hd
 have hpw := pw_le p.In
 obtain ⟨o, t, h1, h2, h3⟩ := while_sim (f := s_l30Watch_b0 p m d) (g := i_watchOf_b0 p m d) (fun s t => s = toS t ∧ InvW m d k t ∧ InvX m d (pw p.In) k t) (fun s => 300 - s.1.toNat) (fun r r' => r = (⟨[], [], [], []⟩, false) ∧ r' = (none, false) ∧ 256 < m.Next.length * d.Next.length) (fun s t => s = toS t ∧ InvW m d k t ∧ InvX m d (pw p.In) k t ∧ t.2.1 = t.1.length) (fun s t ⟨hst, hI, hX⟩ => by
  subst hst
  obtain ⟨hK, i0, i1, n1, n2, n3, n4, n5⟩ := id hI
  obtain ⟨K, ii, nx, lt, ix⟩ := t
  dsimp only at hK i0 i1 n1 n2 n3 n4 n5
  subst n4
  unfold s_l30Watch_b0 i_watchOf_b0 toS
  dsimp only
  rw [List.length_map]
  by_cases hlt : ii < (K.length : Int)
  · obtain ⟨i, rfl⟩ := ex_nat i0
    obtain ⟨⟨q, r⟩, hq⟩ : ∃ v, K[i]? = some v := ⟨_, List.getElem?_eq_getElem (by omega)⟩
    obtain ⟨q0, q1, r0, r1⟩ := hK _ (List.mem_of_getElem? hq)
    dsimp only at q0 q1 r0 r1
    obtain ⟨row, hrow, hmem⟩ := get_el (xs := m.Next) q0 q1
    have hrl : row.length = k := by have := (m4 row hmem).1; omega
    obtain ⟨z, hS⟩ := s_rowW hs hm hd hk q0 q1 r0 r1 hK (by omega) (s1 := ((i : Int), K.map (·.1), K.map (·.2), nx, lt)) (i := i) rfl hq
    have hI' := i_rowW hs hm hd hk q0 q1 r0 r1 hK (by omega) (x42 := (q, r)) (x47 := (q, r)) rfl rfl hrow
    have hX' : InvX m d (pw p.In) k ((rowW m d (pw p.In) q r K k).1, (i : Int) + 1, nx ++ [(rowW m d (pw p.In) q r K k).2.1], lt ++ [(rowW m d (pw p.In) q r K k).2.2], ixm 0 (rowW m d (pw p.In) q r K k).1) := InvX.step hX hq
    obtain ⟨g1, g2, g3, g4, g5, g6⟩ := rowW_in hm hd q0 q1 r0 r1 hK k (by omega)
    generalize rowW m d (pw p.In) q r K k = F at *
    simp only [hlt, decide_true, cond_true, idx_nat, hq, Option.bind_some, hrow, hrl, hS, hI', aft_inr, List.length_map]
    by_cases hbig : (256 : Int) < (F.1.length : Int)
    · refine ⟨.inl (⟨[], [], [], []⟩, false), .inl (none, false), ?_, ?_, rfl, rfl, Nat.lt_of_lt_of_le (show 256 < F.1.length by omega) (keys_len hX'.1.nod g1)⟩
      · simp only [hbig, decide_true, cond_true]
      · simp only [hbig, decide_true, cond_true]
    · have hg := (List.getElem?_eq_some_iff.1 (g6 i _ hq)).1
      refine ⟨.inr (.inr (toS (F.1, (i : Int) + 1, nx ++ [F.2.1], lt ++ [F.2.2], ixm 0 F.1))), .inr (.inr (F.1, (i : Int) + 1, nx ++ [F.2.1], lt ++ [F.2.2], ixm 0 F.1)), ?_, ?_, ⟨rfl, ⟨g1, ?_, ?_, ?_, ?_, ?_, rfl, ?_⟩, hX'⟩, ?_⟩
      · simp only [hbig, decide_false, cond_false]
        rw [app1 (by omega) rfl, Option.bind_some, app1 (by omega) rfl, Option.bind_some, wr' (by omega) (by omega)]
        rfl
      · simp only [hbig, decide_false, cond_false]
        rw [app1 (by omega) rfl, Option.bind_some, app1 (by omega) rfl, Option.bind_some, wr' (by omega) (by omega)]
      · show 0 ≤ (i : Int) + 1; omega
      · show (i : Int) + 1 ≤ (F.1.length : Int); omega
      · show ((nx ++ [F.2.1]).length : Int) = (i : Int) + 1; simp; omega
      · show ((lt ++ [F.2.2]).length : Int) = (i : Int) + 1; simp; omega
      · intro x hx
        rcases List.mem_append.1 hx with hx | hx
        · exact n3 x hx
        · rw [List.mem_singleton.1 hx]; exact g4
      · show F.1.length ≤ 256; omega
      · show 300 - ((i : Int) + 1).toNat < 300 - (i : Int).toNat; omega
  · refine ⟨.inr (.inl (toS (K, ii, nx, lt, ixm 0 K))), .inr (.inl (K, ii, nx, lt, ixm 0 K)), ?_, ?_, rfl, hI, hX, by dsimp only; omega⟩
    · simp only [hlt, decide_false, cond_false]; rfl
    · simp only [hlt, decide_false, cond_false]) (2 ^ 64) (2 ^ 64) (0, [0], [0], [], []) ([(0, 0)], 0, [], [], ixm 0 [(0, 0)]) (by show 300 - 0 < _; omega) (by show 300 - 0 < _; omega) ⟨rfl, ⟨fun k hk => by
      rw [List.mem_singleton.1 hk]
      exact ⟨by simp, by show (0 : Int) < _; omega, by simp, by show (0 : Int) < _; omega⟩, by simp, by simp, by simp, by simp, by simp, rfl, by simp⟩, InvX.init m d (pw p.In) k⟩
 match o, t, h3 with
 | .inl r, .inl r', h3 => exact ⟨_, _, h1, h2, .inr ⟨by rw [h3.1], by rw [h3.2.1], h3.2.2⟩⟩
 | .inr s, .inr t', h3 => exact ⟨_, _, h1, h2, .inl ⟨t', by rw [h3.1], rfl, h3.2⟩⟩
structure WK (p : Sig) (m : Machine) (d : Det) (k : Nat) (K : List Key) (w : watch) : Prop where
 prod : Prod (kyW m d (pw p.In)) k K K.length w.next
 kin : Kin m.Next.length d.Next.length K
 le : K.length ≤ 256
 let_ : w.letters.length = K.length ∧ ∀ (j : Nat) v, K[j]? = some v → w.letters[j]? = some ((nums k).map (letW m (pw p.In) v))
 pairs : w.pairs = d.Pairs.map (partP K)
omit hs hm hd hk in
theorem partN_plK (K : List Key) (S : List Int) : ∀ j, j ≤ K.length → partN K S j = plK (·.2) K S j
 | 0, _ => rfl
 | j + 1, hj => by
  have ih := partN_plK K S j (by omega)
  have e : plK (·.2) K S (j + 1) = plK (·.2) K S j ++ (match K[j]? with | some v => if v.2 ∈ S then [(j : Int)] else [] | none => []) := rfl
  have hv : K[j]? = some K[j] := List.getElem?_eq_getElem (by omega)
  have e' : partN K S (j + 1) = bif (match K[j]? with | some k => S.any (fun x => k.2 == x) | none => false) then partN K S j ++ [(j : Int)] else partN K S j := rfl
  rw [e, e', ih, hv]
  dsimp only
  by_cases h : K[j].2 ∈ S
  · have : S.any (fun x => K[j].2 == x) = true := List.any_eq_true.2 ⟨_, h, by simp⟩
    rw [this, cond_true, if_pos h]
  · have : S.any (fun x => K[j].2 == x) = false := by
     rw [List.any_eq_false]; intro x hx; simp; exact fun e => h (e ▸ hx)
    rw [this, cond_false, if_neg h, List.append_nil]
theorem watchOf_same2 : (s_l30Watch p m d = some (⟨[], [], [], []⟩, false) ∧ i_watchOf p m d = some (none, false) ∧ 256 < m.Next.length * d.Next.length) ∨
 ∃ (g : l30Graph) (w : watch) (K : List Key), s_l30Watch p m d = some (g, true) ∧ i_watchOf p m d = some (some w, true) ∧ cntM (s_WatchOf_b0 d (g, true)) d.Pairs.length 0 [] = some (.inr w.pairs) ∧ g.next = w.next ∧ g.letters = w.letters ∧ WK p m d k K w := by
 have hpw := pw_le p.In
 obtain ⟨_, _, d3, _⟩ := detOk_spec hd
 obtain ⟨o, t, h1, h2, h3⟩ := watch_same2 hs hm hd hk
 have hf : s_l30Find ⟨[], [], [], []⟩ 0 0 = some (0, [0], [0]) := by
  rw [find_eq (K := []) rfl rfl (by simp)]; rfl
 have hms : mset kwI2 ([] : List (Key × Int)) ((0, 0) : Key) 0 = some (ixm 0 [(0, 0)]) := by decide
 unfold s_l30Watch i_watchOf
 rw [hf, Option.bind_some, hms, Option.bind_some]
 dsimp only
 rw [h1, h2, Option.bind_some, Option.bind_some]
 rcases h3 with ⟨t', rfl, rfl, hI, hX, hl⟩ | ⟨rfl, rfl, hbig⟩
 · right
   obtain ⟨hK, i0, i1, n1, n2, n3, n4, n5⟩ := hI
   obtain ⟨x1, x2, x3⟩ := hX
   have hPs : ∀ (g : l30Graph × Bool), g.1.by0 = t'.1.map (·.2) → cntM (s_WatchOf_b0 d g) d.Pairs.length 0 [] = some (.inr (d.Pairs.map (partP t'.1))) ∧ cntM (i_watchOf_b4 d t') d.Pairs.length 0 [] = some (.inr (d.Pairs.map (partP t'.1))) := fun g hg => by
    have hfold : ∀ (xs : List Pair) (acc : List Pair), xs.foldl (fun s y => s ++ [partP t'.1 y]) acc = acc ++ xs.map (partP t'.1) := fun xs => by
     induction xs with
     | nil => intro acc; simp
     | cons x xs ih => intro acc; rw [List.foldl_cons, ih]; simp
    obtain ⟨a1, _⟩ := cnt_foldI (f := s_WatchOf_b0 d g) (fun s y => s ++ [partP t'.1 y]) (fun j s => s.length = j) (xs := d.Pairs) (fun i y s hy hs => by
     have hi := (List.getElem?_eq_some_iff.1 hy).1
     refine ⟨?_, by simp [hs]⟩
     unfold s_WatchOf_b0
     rw [idx_nat, hy, Option.bind_some, Option.bind_some, s_part hg (by omega), Option.bind_some, s_part hg (by omega), Option.bind_some, app1 (by omega) rfl]; rfl) (s := []) rfl
    obtain ⟨b1, _⟩ := cnt_foldI (f := i_watchOf_b4 d t') (fun s y => s ++ [partP t'.1 y]) (fun j s => s.length = j) (xs := d.Pairs) (fun i y s hy hs => by
     have hi := (List.getElem?_eq_some_iff.1 hy).1
     refine ⟨?_, by simp [hs]⟩
     unfold i_watchOf_b4
     rw [idx_nat, hy, Option.bind_some, i_part (by omega), Option.bind_some]
     simp only [aft_inr]
     rw [app1 (by omega) rfl]; rfl) (s := []) rfl
    rw [hfold, List.nil_append] at a1 b1
    exact ⟨a1, b1⟩
   obtain ⟨p1, p2⟩ := hPs (⟨t'.1.map (·.1), t'.1.map (·.2), t'.2.2.1, t'.2.2.2.1⟩, true) rfl
   have hin : t'.2.1.toNat = t'.1.length := by omega
   rw [hin] at x1
   refine ⟨⟨t'.1.map (·.1), t'.1.map (·.2), t'.2.2.1, t'.2.2.2.1⟩, ⟨t'.2.2.1, t'.2.2.2.1, d.Pairs.map (partP t'.1)⟩, t'.1, rfl, ?_, p1, rfl, rfl, x1, hK, n5, ⟨?_, fun j v hv => ?_⟩, rfl⟩
   · simp only [aft_inr]
     rw [p2]; rfl
   · show t'.2.2.2.1.length = t'.1.length; omega
   · have hj := (List.getElem?_eq_some_iff.1 hv).1
     have hjl : j < t'.2.2.2.1.length := by omega
     obtain ⟨u, u1, u2⟩ := x3 j _ (List.getElem?_eq_getElem hjl)
     rw [hv] at u1
     cases u1
     show t'.2.2.2.1[j]? = _
     rw [List.getElem?_eq_getElem hjl, u2]
 · exact .inl ⟨rfl, rfl, hbig⟩
end
end Go.Proofs.Ytcmamhmpoinmnaa
set_option linter.unusedVariables false
set_option linter.unusedSimpArgs false
namespace Go.Proofs.Ytcmamhmpoinmnaa.Par
open Classical
structure Gm where
 own : Int → Bool
 pri : Int → Int
 E : Int → Int → Prop
variable (G : Gm)
def oddP (d : Int) : Bool := decide (d % 2 = 1)
def Play (p : Bool) (D : Int → Prop) (σ : Int → Int) (π : Nat → Int) : Prop := ∀ n, D (π n) ∧ G.E (π n) (π (n + 1)) ∧ (G.own (π n) = p → π (n + 1) = σ (π n))
def Wins (p : Bool) (π : Nat → Int) : Prop := ∃ d, oddP d = p ∧ (∀ N, ∃ n, N ≤ n ∧ G.pri (π n) = d) ∧ ∃ N, ∀ n, N ≤ n → G.pri (π n) ≤ d
def Dom (X : Int → Prop) (p : Bool) (D : Int → Prop) : Prop := ∃ σ : Int → Int, (∀ v, D v → X v) ∧ (∀ v, D v → G.own v = p → G.E v (σ v) ∧ D (σ v)) ∧ (∀ v u, D v → ¬ G.own v = p → G.E v u → X u → D u) ∧ ∀ π, Play G p D σ π → Wins G p π
structure IsAttr (X : Int → Prop) (p : Bool) (S A : Int → Prop) : Prop where
 sub : ∀ v, A v → X v
 base : ∀ v, X v → S v → A v
 rank : ∃ r : Int → Nat, ∀ v, A v → S v ∨ (G.own v = p ∧ ∃ u, G.E v u ∧ A u ∧ r u < r v) ∨ (¬ G.own v = p ∧ ∀ u, G.E v u → X u → A u ∧ r u < r v)
 mine : ∀ v u, X v → ¬ A v → G.own v = p → G.E v u → X u → ¬ A u
 yours : ∀ v, X v → ¬ A v → ¬ G.own v = p → ∃ u, G.E v u ∧ X u ∧ ¬ A u
def Mn (X A : Int → Prop) : Int → Prop := fun v => X v ∧ ¬ A v
variable {G} {X : Int → Prop} {p : Bool} {S A D D' : Int → Prop}
theorem Wins.tail {π : Nat → Int} (k : Nat) (h : Wins G p (fun n => π (n + k))) : Wins G p π := by
 obtain ⟨d, h1, h2, N, h3⟩ := h
 refine ⟨d, h1, fun M => ?_, N + k, fun n hn => ?_⟩
 · obtain ⟨n, hn, he⟩ := h2 M
   exact ⟨n + k, by omega, he⟩
 · have := h3 (n - k) (by omega)
   dsimp only at this
   rwa [show n - k + k = n from by omega] at this
theorem Wins.not_both {π : Nat → Int} (h : Wins G p π) (h' : Wins G (!p) π) : False := by
 obtain ⟨d, a1, a2, N, a3⟩ := h
 obtain ⟨e, b1, b2, M, b3⟩ := h'
 obtain ⟨n, n1, n2⟩ := a2 M
 obtain ⟨m, m1, m2⟩ := b2 N
 have := b3 n n1
 have := a3 m m1
 have : d = e := by omega
 subst this
 rw [a1] at b1
 cases p <;> cases b1
theorem Play.tail {σ : Int → Int} {π : Nat → Int} (h : Play G p D σ π) (k : Nat) : Play G p D σ (fun n => π (n + k)) := fun n => by
 have := h (n + k)
 rwa [show n + k + 1 = n + 1 + k from by omega] at this
theorem Dom.disj (h : Dom G X p D) (h' : Dom G X (!p) D') {v : Int} (hv : D v) (hv' : D' v) : False := by
 obtain ⟨σ, a1, a2, a3, a4⟩ := h
 obtain ⟨τ, b1, b2, b3, b4⟩ := h'
 let f : Int → Int := fun v => if G.own v = p then σ v else τ v
 let π : Nat → Int := fun n => Nat.rec v (fun _ x => f x) n
 have hs : ∀ n, π (n + 1) = f (π n) := fun n => rfl
 have key : ∀ w, D w → D' w → G.E w (f w) ∧ D (f w) ∧ D' (f w) := fun w hw hw' => by
  by_cases ho : G.own w = p
  · have e : f w = σ w := if_pos ho
    obtain ⟨k1, k2⟩ := a2 w hw ho
    rw [e]
    exact ⟨k1, k2, b3 w _ hw' (by rw [ho]; cases p <;> simp) k1 (a1 _ k2)⟩
  · have e : f w = τ w := if_neg ho
    obtain ⟨k1, k2⟩ := b2 w hw' (by revert ho; cases G.own w <;> cases p <;> simp)
    rw [e]
    exact ⟨k1, a3 w _ hw ho k1 (b1 _ k2), k2⟩
 have inv : ∀ n, D (π n) ∧ D' (π n) := fun n => by
  induction n with
  | zero => exact ⟨hv, hv'⟩
  | succ n ih =>
   obtain ⟨_, k2, k3⟩ := key _ ih.1 ih.2
   rw [hs]; exact ⟨k2, k3⟩
 refine (a4 π fun n => ⟨(inv n).1, by rw [hs]; exact (key _ (inv n).1 (inv n).2).1, fun ho => by rw [hs]; exact if_pos ho⟩).not_both (b4 π fun n => ⟨(inv n).2, by rw [hs]; exact (key _ (inv n).1 (inv n).2).1, fun ho => by rw [hs]; exact if_neg (by rw [ho]; cases p <;> simp)⟩)
theorem Dom.empty : Dom G X p (fun _ => False) := ⟨id, fun _ h => h.elim, fun _ h => h.elim, fun _ _ h => h.elim, fun π h => (h 0).1.elim⟩
theorem Dom.congr (h : Dom G X p D) (e : ∀ v, D v ↔ D' v) : Dom G X p D' := by
 have : D = D' := funext fun v => propext (e v)
 exact this ▸ h
theorem descent {r : Nat → Nat} (h : ∀ n, r (n + 1) < r n) : False := by
 have : ∀ n, r n + n ≤ r 0 := fun n => by
  induction n with
  | zero => omega
  | succ n ih => have := h n; omega
 have := this (r 0 + 1)
 omega
theorem Dom.grow (h1 : Dom G X p D) (hA : IsAttr G X p D A) (h2 : Dom G (Mn X A) p D') : Dom G X p (fun v => A v ∨ D' v) := by
 obtain ⟨σ, a1, a2, a3, a4⟩ := h1
 obtain ⟨τ, b1, b2, b3, b4⟩ := h2
 obtain ⟨r, hr⟩ := hA.rank
 have hDA : ∀ v, D v → A v := fun v hv => hA.base v (a1 v hv) hv
 let f : Int → Int := fun v => if D v then σ v else if h : ∃ u, G.E v u ∧ A u ∧ r u < r v then h.choose else τ v
 have fD : ∀ v, D v → f v = σ v := fun v hv => if_pos hv
 have fA : ∀ v, A v → ¬ D v → G.own v = p → G.E v (f v) ∧ A (f v) ∧ r (f v) < r v := fun v hv hd ho => by
  rcases hr v hv with h | ⟨_, h⟩ | ⟨h, _⟩
  · exact absurd h hd
  · have e : f v = h.choose := by show (if D v then _ else _) = _; rw [if_neg hd, dif_pos h]
    rw [e]; exact h.choose_spec
  · exact absurd ho h
 have fT : ∀ v, D' v → G.own v = p → f v = τ v := fun v hv ho => by
  obtain ⟨hx, ha⟩ := b1 v hv
  have : ¬ ∃ u, G.E v u ∧ A u ∧ r u < r v := fun ⟨u, k1, k2, _⟩ => hA.mine v u hx ha ho k1 (hA.sub u k2) k2
  show (if D v then _ else _) = _
  rw [if_neg (fun h => ha (hDA v h)), dif_neg this]
 refine ⟨f, ?_, ?_, ?_, ?_⟩
 · rintro v (h | h)
   · exact hA.sub v h
   · exact (b1 v h).1
 · rintro v (h | h) ho
   · by_cases hd : D v
     · rw [fD v hd]; exact ⟨(a2 v hd ho).1, .inl (hDA _ (a2 v hd ho).2)⟩
     · exact ⟨(fA v h hd ho).1, .inl (fA v h hd ho).2.1⟩
   · rw [fT v h ho]; exact ⟨(b2 v h ho).1, .inr (b2 v h ho).2⟩
 · rintro v u (h | h) ho he hx
   · by_cases hd : D v
     · exact .inl (hDA u (a3 v u hd ho he hx))
     · rcases hr v h with h' | ⟨h', _⟩ | ⟨_, h'⟩
       · exact absurd h' hd
       · exact absurd h' ho
       · exact .inl (h' u he hx).1
   · by_cases ha : A u
     · exact .inl ha
     · exact .inr (b3 v u h ho he ⟨hx, ha⟩)
 · intro π hπ
   have hX : ∀ n, X (π n) := fun n => by
    rcases (hπ n).1 with h | h
    · exact hA.sub _ h
    · exact (b1 _ h).1
   by_cases hD : ∃ n, D (π n)
   · obtain ⟨n, hn⟩ := hD
     have st : ∀ k, D (π (k + n)) := fun k => by
      induction k with
      | zero => rwa [Nat.zero_add]
      | succ k ih =>
       have e : k + 1 + n = k + n + 1 := by omega
       by_cases ho : G.own (π (k + n)) = p
       · have := (hπ (k + n)).2.2 ho
         rw [fD _ ih] at this
         rw [e, this]
         exact (a2 _ ih ho).2
       · rw [e]; exact a3 _ _ ih ho (hπ (k + n)).2.1 (hX _)
     refine Wins.tail n (a4 _ fun k => ⟨st k, ?_, fun ho => ?_⟩)
     · have := (hπ (k + n)).2.1
       rwa [show k + n + 1 = k + 1 + n from by omega] at this
     · have := (hπ (k + n)).2.2 ho
       rw [fD _ (st k), show k + n + 1 = k + 1 + n from by omega] at this
       exact this
   · have hD : ∀ n, ¬ D (π n) := fun n h => hD ⟨n, h⟩
     by_cases hA' : ∃ n, A (π n)
     · obtain ⟨n, hn⟩ := hA'
       have step : ∀ m, A (π m) → A (π (m + 1)) ∧ r (π (m + 1)) < r (π m) := fun m hm => by
        by_cases ho : G.own (π m) = p
        · rw [(hπ m).2.2 ho]; exact (fA _ hm (hD m) ho).2
        · rcases hr _ hm with h' | ⟨h', _⟩ | ⟨_, h'⟩
          · exact absurd h' (hD m)
          · exact absurd h' ho
          · exact h' _ (hπ m).2.1 (hX _)
       have st : ∀ k, A (π (k + n)) := fun k => by
        induction k with
        | zero => rwa [Nat.zero_add]
        | succ k ih => rw [show k + 1 + n = k + n + 1 from by omega]; exact (step _ ih).1
       exact (descent (r := fun k => r (π (k + n))) fun k => by
        have := (step _ (st k)).2
        rwa [show k + n + 1 = k + 1 + n from by omega] at this).elim
     · have hT : ∀ n, D' (π n) := fun n => (hπ n).1.resolve_left fun h => hA' ⟨n, h⟩
       refine b4 π fun n => ⟨hT n, (hπ n).2.1, fun ho => ?_⟩
       rw [(hπ n).2.2 ho, fT _ (hT n) ho]
structure Sol (G : Gm) (X : Int → Prop) (p : Bool) (W : Int → Prop) : Prop where
 sub : ∀ v, W v → X v
 mine : Dom G X p W
 yours : Dom G X (!p) (Mn X W)
theorem Sol.uniq {W W' : Int → Prop} (h : Sol G X p W) (h' : Sol G X p W') (v : Int) : W v ↔ W' v := by
 constructor
 · intro hv
   by_cases hv' : W' v
   · exact hv'
   · exact (Dom.disj h.mine h'.yours hv ⟨h.sub v hv, hv'⟩).elim
 · intro hv
   by_cases hv' : W v
   · exact hv'
   · exact (Dom.disj h'.mine h.yours hv ⟨h'.sub v hv, hv'⟩).elim
theorem Sol.congr {W W' : Int → Prop} (h : Sol G X p W) (e : ∀ v, W v ↔ W' v) : Sol G X p W' := by
 have : W = W' := funext fun v => propext (e v)
 exact this ▸ h
end Go.Proofs.Ytcmamhmpoinmnaa.Par
set_option linter.unusedVariables false
set_option linter.unusedSimpArgs false
namespace Go.Proofs.Ytcmamhmpoinmnaa
open Go Go.Wk Go.Proofs
theorem idx_setI {α : Type} {xs ys : List α} {i v : Int} {x : α} (h : setI xs i x = some ys) : idx ys v = if v = i then some x else idx xs v := by
 obtain ⟨h0, h1, rfl, _⟩ := setI_ok h
 unfold idx
 by_cases hv : 0 ≤ v
 · rw [if_pos hv, if_pos hv]
   by_cases e : v = i
   · subst e
     rw [if_pos rfl, List.getElem?_set_self (by omega)]
   · rw [if_neg e, List.getElem?_set_ne (by omega)]
 · rw [if_neg hv, if_neg hv, if_neg (by omega)]
theorem setI_some {α : Type} {xs : List α} {i : Int} (x : α) (h0 : 0 ≤ i) (h1 : i < xs.length) : ∃ ys, setI xs i x = some ys ∧ ys.length = xs.length := by
 have : setI xs i x = some (xs.set i.toNat x) := by unfold setI; rw [if_pos ⟨h0, h1⟩]
 exact ⟨_, this, (setI_ok this).2.2.2⟩
theorem idx_some {α : Type} {xs : List α} {i : Int} (h0 : 0 ≤ i) (h1 : i < xs.length) : ∃ x, idx xs i = some x := by
 obtain ⟨x, h, _⟩ := get_el h0 h1
 exact ⟨x, h⟩
theorem idx_rng {α : Type} {xs : List α} {i : Int} {x : α} (h : idx xs i = some x) : 0 ≤ i ∧ i < xs.length := ⟨(idx_ok h).1, (idx_ok h).2.1⟩
def In (B : List Bool) (v : Int) : Prop := idx B v = some true
section
variable (row : Int → List Int) (own : Int → Bool) (pri : Int → Int) (inn : Int → Prop) (p : Bool) (goal : Int → Prop)
structure Cert (Q : List Int) : Prop where
 nd : Q.Nodup
 mem : ∀ v ∈ Q, inn v
 why : ∀ (k : Nat) v, Q[k]? = some v → goal v ∨ (own v = p ∧ ∃ u ∈ Q.take k, u ∈ row v) ∨ (¬ own v = p ∧ ∀ u ∈ row v, inn u → u ∈ Q.take k)
variable {row own pri inn p goal}
theorem Cert.snoc {Q : List Int} (h : Cert row own inn p goal Q) {v : Int} (hv : v ∉ Q) (hi : inn v) (hw : goal v ∨ (own v = p ∧ ∃ u ∈ Q, u ∈ row v) ∨ (¬ own v = p ∧ ∀ u ∈ row v, inn u → u ∈ Q)) : Cert row own inn p goal (Q ++ [v]) := by
 refine ⟨?_, ?_, ?_⟩
 · rw [List.nodup_append]
   exact ⟨h.nd, by simp, fun a ha b hb => by simp at hb; subst hb; exact fun e => hv (e ▸ ha)⟩
 · intro x hx
   rcases List.mem_append.1 hx with hx | hx
   · exact h.mem x hx
   · simp at hx; subst hx; exact hi
 · intro k x hk
   by_cases hlt : k < Q.length
   · rw [List.getElem?_append_left hlt] at hk
     rw [List.take_append_of_le_length (by omega)]
     exact h.why k x hk
   · have : k = Q.length := by
      have := (List.getElem?_eq_some_iff.1 hk).1
      simp at this; omega
     subst this
     rw [List.getElem?_append_right (Nat.le_refl _), Nat.sub_self] at hk
     simp at hk
     subst hk
     rw [List.take_append_of_le_length (Nat.le_refl _), List.take_length]
     exact hw
def Trap (row : Int → List Int) (own : Int → Bool) (inn : Int → Prop) (p : Bool) (Q : List Int) (d : Int → Int → Prop) : Prop := ∀ v, inn v → v ∉ Q → (own v = p → ∀ y ∈ row v, inn y → ¬ d v y) ∧ (¬ own v = p → ∃ y ∈ row v, inn y ∧ ¬ d v y)
end
open Classical in
noncomputable def lf (row : List Int) (inn d : Int → Prop) : Nat := (row.filter (fun y => decide (inn y ∧ ¬ d y))).length
theorem lf_zero {row : List Int} {inn d : Int → Prop} : lf row inn d = 0 ↔ ∀ y ∈ row, inn y → d y := by
 classical
 unfold lf
 rw [List.length_eq_zero_iff, List.filter_eq_nil_iff]
 constructor
 · intro h y hy hi
   by_cases hd : d y
   · exact hd
   · exact absurd (by simp; exact ⟨hi, hd⟩) (h y hy)
 · intro h y hy hc
   simp at hc
   exact hc.2 (h y hy hc.1)
def dn (T : List Int) (u : Int) (L : List Int) (v y : Int) : Prop := y ∈ T ∨ (y = u ∧ v ∈ L)
structure Mid (row : Int → List Int) (own : Int → Bool) (inn : Int → Prop) (p : Bool) (goal : Int → Prop) (T : List Int) (u : Int) (L Q : List Int) : Prop where
 cert : Cert row own inn p goal Q
 hu : ∃ R, Q = T ++ u :: R
 trap : Trap row own inn p Q (dn T u L)
section
variable {row : Int → List Int} {own : Int → Bool} {inn : Int → Prop} {p : Bool} {goal : Int → Prop} {T : List Int} {u : Int} {L Q : List Int}
theorem Mid.u_in (h : Mid row own inn p goal T u L Q) : u ∈ Q ∧ u ∉ T ∧ inn u := by
 obtain ⟨R, e⟩ := h.hu
 have hq : u ∈ Q := by rw [e]; simp
 refine ⟨hq, ?_, h.cert.mem u hq⟩
 have := h.cert.nd
 rw [e, List.nodup_append] at this
 exact fun ht => this.2.2 u ht u (by simp) rfl
theorem dn_other {v w y : Int} (h : w ≠ v) : dn T u (L ++ [v]) w y ↔ dn T u L w y := by
 unfold dn
 rw [List.mem_append, List.mem_singleton]
 constructor
 · rintro (h1 | ⟨h1, h2 | h2⟩)
   · exact .inl h1
   · exact .inr ⟨h1, h2⟩
   · exact absurd h2 h
 · rintro (h1 | ⟨h1, h2⟩)
   · exact .inl h1
   · exact .inr ⟨h1, .inl h2⟩
theorem dn_self0 {v y : Int} (h : v ∉ L) : dn T u L v y ↔ y ∈ T := by
 unfold dn; simp [h]
theorem Mid.skip (h : Mid row own inn p goal T u L Q) {v : Int} (hv : ¬ inn v ∨ v ∈ Q ∨ u ∉ row v) : Mid row own inn p goal T u (L ++ [v]) Q := by
 refine ⟨h.cert, h.hu, fun w hw hq => ?_⟩
 obtain ⟨t1, t2⟩ := h.trap w hw hq
 by_cases e : w = v
 · subst e
   have hu : u ∉ row w := by
    rcases hv with hv | hv | hv
    · exact absurd hw hv
    · exact absurd hv hq
    · exact hv
   have key : ∀ y ∈ row w, (dn T u (L ++ [w]) w y ↔ dn T u L w y) := fun y hy => by
    have hyu : y ≠ u := fun e => hu (e ▸ hy)
    unfold dn; simp [hyu]
   refine ⟨fun ho y hy hi => fun hd => t1 ho y hy hi ((key y hy).1 hd), fun ho => ?_⟩
   obtain ⟨y, h1, h2, h3⟩ := t2 ho
   exact ⟨y, h1, h2, fun hd => h3 ((key y h1).1 hd)⟩
 · refine ⟨fun ho y hy hi => fun hd => t1 ho y hy hi ((dn_other e).1 hd), fun ho => ?_⟩
   obtain ⟨y, h1, h2, h3⟩ := t2 ho
   exact ⟨y, h1, h2, fun hd => h3 ((dn_other e).1 hd)⟩
theorem Mid.add (h : Mid row own inn p goal T u L Q) {v : Int} (hi : inn v) (hq : v ∉ Q) (hu : u ∈ row v) (hw : own v = p ∨ lf (row v) inn (fun y => y ∈ T ∨ y = u) = 0) : Mid row own inn p goal T u (L ++ [v]) (Q ++ [v]) := by
 obtain ⟨R, e⟩ := h.hu
 have hTQ : ∀ y, y ∈ T ∨ y = u → y ∈ Q := fun y hy => by
  rw [e]
  rcases hy with hy | hy
  · simp [hy]
  · simp [hy]
 refine ⟨h.cert.snoc hq hi ?_, ⟨R ++ [v], by rw [e]; simp⟩, fun w hw' hq' => ?_⟩
 · by_cases ho : own v = p
   · exact .inr (.inl ⟨ho, u, h.u_in.1, hu⟩)
   · exact .inr (.inr ⟨ho, fun y hy hyi => hTQ y ((lf_zero.1 (hw.resolve_left ho)) y hy hyi)⟩)
 · rw [List.mem_append, List.mem_singleton, not_or] at hq'
   obtain ⟨t1, t2⟩ := h.trap w hw' hq'.1
   refine ⟨fun ho y hy hi => fun hd => t1 ho y hy hi ((dn_other hq'.2).1 hd), fun ho => ?_⟩
   obtain ⟨y, h1, h2, h3⟩ := t2 ho
   exact ⟨y, h1, h2, fun hd => h3 ((dn_other hq'.2).1 hd)⟩
theorem Mid.first {R : List Int} (hc : Cert row own inn p goal (T ++ u :: R)) (ht : Trap row own inn p (T ++ u :: R) (fun _ y => y ∈ T)) : Mid row own inn p goal T u [] (T ++ u :: R) := by
 refine ⟨hc, ⟨R, rfl⟩, fun v hv hq => ?_⟩
 obtain ⟨t1, t2⟩ := ht v hv hq
 refine ⟨fun ho y hy hi hd => t1 ho y hy hi ((dn_self0 (by simp)).1 hd), fun ho => ?_⟩
 obtain ⟨y, h1, h2, h3⟩ := t2 ho
 exact ⟨y, h1, h2, fun hd => h3 ((dn_self0 (by simp)).1 hd)⟩
theorem Mid.last (h : Mid row own inn p goal T u L Q) (hL : ∀ v, inn v → u ∈ row v → v ∈ L) : Trap row own inn p Q (fun _ y => y ∈ T ++ [u]) := fun v hv hq => by
 obtain ⟨t1, t2⟩ := h.trap v hv hq
 have key : ∀ y ∈ row v, (y ∈ T ++ [u] → dn T u L v y) := fun y hy hm => by
  rw [List.mem_append, List.mem_singleton] at hm
  rcases hm with hm | hm
  · exact .inl hm
  · exact .inr ⟨hm, hL v hv (hm ▸ hy)⟩
 refine ⟨fun ho y hy hi hd => t1 ho y hy hi (key y hy hd), fun ho => ?_⟩
 obtain ⟨y, h1, h2, h3⟩ := t2 ho
 exact ⟨y, h1, h2, fun hd => h3 (by
  rcases List.mem_append.1 hd with hm | hm
  · exact .inl hm
  · rw [List.mem_singleton] at hm
    exact .inr ⟨hm, hL v hv (hm ▸ h1)⟩)⟩
end
end Go.Proofs.Ytcmamhmpoinmnaa
set_option linter.unusedVariables false
set_option linter.unusedSimpArgs false
namespace Go.Proofs.Ytcmamhmpoinmnaa
open Go Go.Wk Go.Proofs
def hasN (N : List (List Int)) (u : Int) (v : Nat) : Bool := match N[v]? with
 | some r => decide (u ∈ r)
 | none => false
def prevL (N : List (List Int)) (u : Int) (j : Nat) : List Int := ((List.range j).filter (hasN N u)).map Int.ofNat
theorem prevL_succ (N : List (List Int)) (u : Int) (j : Nat) : prevL N u (j + 1) = prevL N u j ++ (if hasN N u j = true then [(j : Int)] else []) := by
 unfold prevL
 rw [List.range_succ, List.filter_append, List.map_append]
 congr 1
 by_cases h : hasN N u j = true
 · rw [if_pos h, List.filter_cons, if_pos h]; rfl
 · rw [if_neg h, List.filter_cons, if_neg h]; rfl
theorem nodup_mapN : ∀ {xs : List Nat}, xs.Nodup → (xs.map Int.ofNat).Nodup
 | [], _ => by simp
 | x :: xs, h => by
  obtain ⟨h1, h2⟩ := List.nodup_cons.1 h
  rw [List.map_cons, List.nodup_cons]
  refine ⟨fun hm => ?_, nodup_mapN h2⟩
  obtain ⟨y, hy, e⟩ := List.mem_map.1 hm
  have : y = x := Int.ofNat.inj e
  exact h1 (this ▸ hy)
theorem prevL_len (N : List (List Int)) (u : Int) (j : Nat) : (prevL N u j).length ≤ j := by
 unfold prevL
 rw [List.length_map]
 exact Nat.le_trans (List.length_filter_le _ _) (by rw [List.length_range]; omega)
def PrevM (N : List (List Int)) (n j : Nat) (row : List Int) (i : Nat) (t : List (List Int)) : Prop := t.length = n ∧ ∀ u : Int, 0 ≤ u → u < n → idx t u = some (prevL N u j ++ (if u ∈ row.take i then [(j : Int)] else []))
def PrevT (N : List (List Int)) (n j : Nat) (t : List (List Int)) : Prop := t.length = n ∧ ∀ u : Int, 0 ≤ u → u < n → idx t u = some (prevL N u j)
theorem PrevT.zero {N : List (List Int)} {n : Nat} : PrevT N n 0 (List.replicate n []) := ⟨by simp, fun u u0 u1 => by
 rw [idx_int u0, List.getElem?_replicate, if_pos (by omega)]; rfl⟩
theorem PrevT.first {N : List (List Int)} {n j : Nat} {t : List (List Int)} (h : PrevT N n j t) (row : List Int) : PrevM N n j row 0 t := ⟨h.1, fun u u0 u1 => by rw [h.2 u u0 u1]; simp⟩
theorem PrevM.last {N : List (List Int)} {n j : Nat} {row : List Int} {t : List (List Int)} (hr : N[j]? = some row) (h : PrevM N n j row row.length t) : PrevT N n (j + 1) t := ⟨h.1, fun u u0 u1 => by
 rw [h.2 u u0 u1, prevL_succ, List.take_length]
 unfold hasN
 rw [hr]
 by_cases hu : u ∈ row <;> simp [hu]⟩
theorem PrevM.step {N : List (List Int)} {n j i : Nat} {row : List Int} {t : List (List Int)} {u : Int} (h : PrevM N n j row i t) (hu : row[i]? = some u) (hn : row.Nodup) (u0 : 0 ≤ u) (u1 : u < n) :
 ∃ old, idx t u = some old ∧ old.length ≤ j + 1 ∧ ∃ t', setI t u (old ++ [(j : Int)]) = some t' ∧ PrevM N n j row (i + 1) t' := by
 refine ⟨_, h.2 u u0 u1, ?_, ?_⟩
 · have := prevL_len N u j
   rw [List.length_append]
   split
   · simp; omega
   · simp; omega
 · have hnot : u ∉ row.take i := by
    have h2 := hn.sublist (List.take_sublist (i + 1) row)
    rw [List.take_add_one, hu, List.nodup_append] at h2
    exact fun hm => h2.2.2 u hm u (by simp) rfl
   obtain ⟨t', h1, h2⟩ := setI_some (xs := t) (i := u) (prevL N u j ++ (if u ∈ row.take i then [(j : Int)] else []) ++ [(j : Int)]) u0 (by rw [h.1]; exact u1)
   refine ⟨t', h1, by rw [h2]; exact h.1, fun w w0 w1 => ?_⟩
   have htk : row.take (i + 1) = row.take i ++ [u] := by rw [List.take_add_one, hu]; rfl
   rw [idx_setI h1, htk]
   by_cases e : w = u
   · subst e
     rw [if_pos rfl, if_neg hnot]
     simp
   · rw [if_neg e, h.2 w w0 w1]
     congr 2
     simp [e]
def marksL (B : List Bool) (j : Nat) : List Int := ((List.range j).filter (fun v => B[v]?.getD false)).map Int.ofNat
theorem marksL_nodup (B : List Bool) (j : Nat) : (marksL B j).Nodup := by
 unfold marksL
 exact nodup_mapN (List.nodup_range.filter _)
theorem marksL_len (B : List Bool) (j : Nat) : (marksL B j).length ≤ j := by
 unfold marksL
 rw [List.length_map]
 exact Nat.le_trans (List.length_filter_le _ _) (by rw [List.length_range]; omega)
theorem mem_marksL {B : List Bool} {v : Int} : v ∈ marksL B B.length ↔ In B v := by
 unfold marksL In
 rw [List.mem_map]
 constructor
 · rintro ⟨w, hw, rfl⟩
   obtain ⟨h1, h2⟩ := List.mem_filter.1 hw
   rw [List.mem_range] at h1
   rw [show (Int.ofNat w) = (w : Int) from rfl, idx_nat]
   have e : B[w]? = some B[w] := List.getElem?_eq_getElem h1
   rw [e] at h2 ⊢
   simpa using h2
 · intro h
   obtain ⟨h0, h1⟩ := idx_rng h
   obtain ⟨w, hw⟩ := ex_nat h0
   subst hw
   rw [idx_nat] at h
   exact ⟨w, List.mem_filter.2 ⟨List.mem_range.2 (by omega), by rw [h]; rfl⟩, rfl⟩
theorem nodup_sub {ys : List Int} : ∀ {xs : List Int}, xs.Nodup → (∀ x ∈ xs, x ∈ ys) → xs.length ≤ ys.length := by
 induction ys with
 | nil =>
  intro xs _ h
  cases xs with
  | nil => simp
  | cons x xs => exact absurd (h x (List.mem_cons_self ..)) (by simp)
 | cons y ys ih =>
  intro xs hn h
  by_cases hm : y ∈ xs
  · have h1 := List.length_erase_of_mem hm
    have h2 := ih (xs := xs.erase y) (hn.erase _) (fun x hx => by
     rw [hn.mem_erase_iff] at hx
     exact (List.mem_cons.1 (h x hx.2)).resolve_left hx.1)
    rw [List.length_cons]
    omega
  · have := ih (xs := xs) hn (fun x hx => (List.mem_cons.1 (h x hx)).resolve_left fun e => hm (e ▸ hx))
    rw [List.length_cons]
    omega
def cnt (B : List Bool) : Nat := (marksL B B.length).length
theorem cnt_le (B : List Bool) : cnt B ≤ B.length := marksL_len _ _
end Go.Proofs.Ytcmamhmpoinmnaa
set_option linter.unusedVariables false
set_option linter.unusedSimpArgs false
namespace Go.Proofs.Ytcmamhmpoinmnaa
open Go Go.Wk Go.Proofs
theorem fill {ρ α : Type} {f : Int → List α → Option (ρ ⊕ (List α ⊕ List α))} (val : Nat → α) (n : Nat) {s0 : List α} (h0 : s0.length = n)
 (step : ∀ (j : Nat) s, j < n → s.length = n → f (j : Int) s = Option.bind (idx s (j : Int)) fun _ => Option.bind (setI s (j : Int) (val j)) fun y => some (.inr (.inr y))) :
 ∃ s, cntM f n 0 s0 = some (.inr s) ∧ s.length = n ∧ ∀ j : Nat, j < n → idx s (j : Int) = some (val j) := by
 obtain ⟨s, h1, h2, h3⟩ := cnt_inv (f := f) (fun j (s : List α) => s.length = n ∧ ∀ i : Nat, i < j → idx s (i : Int) = some (val i)) n (s := s0) ⟨h0, fun i hi => absurd hi (Nat.not_lt_zero i)⟩ (fun j s hj ⟨q1, q2⟩ => by
  obtain ⟨old, ho⟩ := idx_some (xs := s) (i := (j : Int)) (by omega) (by omega)
  obtain ⟨s', hs, hl⟩ := setI_some (xs := s) (i := (j : Int)) (val j) (by omega) (by omega)
  rw [step j s hj q1, ho, Option.bind_some, hs, Option.bind_some]
  refine ⟨_, rfl, by omega, fun i hi => ?_⟩
  rw [idx_setI hs]
  by_cases e : (i : Int) = (j : Int)
  · have : i = j := by omega
    subst this
    rw [if_pos rfl]
  · rw [if_neg e]; exact q2 i (by omega))
 exact ⟨s, h1, h2, h3⟩
instance (B : List Bool) (v : Int) : Decidable (In B v) := by unfold In; exact inferInstance
theorem In_dec {B : List Bool} {v : Int} {b : Bool} (h : idx B v = some b) : b = decide (In B v) := by
 have : In B v ↔ b = true := by unfold In; rw [h]; simp
 rw [Bool.eq_iff_iff]; simp [this]
theorem In_get {B : List Bool} {v : Int} (h0 : 0 ≤ v) (h1 : v < B.length) : idx B v = some (decide (In B v)) := by
 obtain ⟨b, hb⟩ := idx_some (xs := B) h0 h1
 rw [← In_dec hb]; exact hb
theorem In_of {B : List Bool} {n : Nat} (hB : B.length = n) {v : Int} (h : In B v) : 0 ≤ v ∧ v < n := by
 have := idx_rng h
 rw [hB] at this
 exact this
end Go.Proofs.Ytcmamhmpoinmnaa
