/- The reference's attractor. -/
import Derived.Test.YtndiklipffipcaaAttT
import Derived.Test.YtndiklipffipcaaSigRT
set_option linter.unusedVariables false
set_option linter.unusedSimpArgs false
namespace Go.Proofs.Ytndiklipffipcaa
open Go Go.Wk Go.Proofs

structure WfS (x : l7Game) (n : Nat) : Prop where
  n256 : n ≤ 256
  lo : x.owner.length = n
  lp : x.prio.length = n
  ln : x.next.length = n
  lk : x.pick.length = n
  lv : x.prev.length = n
  ow : ∀ v o, idx x.owner v = some o → o = 0 ∨ o = 1
  row : ∀ v r, idx x.next v = some r → r.length ≤ 16 ∧ r.Nodup ∧ ∀ u ∈ r, 0 ≤ u ∧ u < n
  prev : ∀ u P, idx x.prev u = some P → P.Nodup ∧ P.length ≤ 100000 ∧ ∀ v, v ∈ P ↔ ∃ r, idx x.next v = some r ∧ u ∈ r
def okE (k u : Int) : Bool := decide (k < 0) || (k == u)
def rowS (x : l7Game) (v : Int) : List Int := match idx x.next v, idx x.pick v with
  | some r, some k => r.filter (okE k)
  | _, _ => []
def ownL (O : List Int) (v : Int) : Bool := match idx O v with
  | some o => o == 1
  | none => false
def priL (P : List Int) (v : Int) : Int := (idx P v).getD 0
theorem rowS_eq {x : l7Game} {v k : Int} {r : List Int} (hr : idx x.next v = some r) (hk : idx x.pick v = some k) : rowS x v = r.filter (okE k) := by unfold rowS; rw [hr, hk]
theorem s_edge {x : l7Game} {v k : Int} (u : Int) (hk : idx x.pick v = some k) : s_l7Edge x v u = some (okE k u) := by
  unfold s_l7Edge okE
  rw [hk, Option.bind_some]
  cases decide (k < 0) <;> simp
theorem own_who {O : List Int} {v o : Int} {p : Bool} (h : idx O v = some o) (ho : o = 0 ∨ o = 1) : (o == b2i p) = decide (ownL O v = p) := by
  unfold ownL
  rw [h]
  rcases ho with rfl | rfl <;> cases p <;> decide
section
variable {x : l7Game} {n : Nat} (wf : WfS x n) {B : List Bool} (hB : B.length = n)
include wf
theorem WfS.get {v : Int} (h0 : 0 ≤ v) (h1 : v < n) : ∃ r k, idx x.next v = some r ∧ idx x.pick v = some k := by
  have := wf.ln
  have := wf.lk
  obtain ⟨r, hr⟩ := idx_some (xs := x.next) h0 (by omega)
  obtain ⟨k, hk⟩ := idx_some (xs := x.pick) h0 (by omega)
  exact ⟨r, k, hr, hk⟩
theorem rowS_ok (v : Int) : (rowS x v).Nodup ∧ (rowS x v).length ≤ 16 ∧ ∀ u ∈ rowS x v, 0 ≤ u ∧ u < n := by
  unfold rowS
  cases hr : idx x.next v with
  | none => simp
  | some r =>
    cases hk : idx x.pick v with
    | none => simp
    | some k =>
      obtain ⟨h1, h2, h3⟩ := wf.row v r hr
      exact ⟨h2.filter _, Nat.le_trans (List.length_filter_le _ _) h1, fun u hu => h3 u (List.mem_filter.1 hu).1⟩
include hB
omit wf in
theorem In_rng {v : Int} (h : In B v) : 0 ≤ v ∧ v < n := by
  have := idx_rng h
  rw [hB] at this
  exact this
theorem s_degree {v : Int} (h0 : 0 ≤ v) (h1 : v < n) : s_l7Degree x B v = some (lf (rowS x v) (In B) (fun _ => False) : Int) := by
  classical
  obtain ⟨r, k, hr, hk⟩ := wf.get h0 h1
  obtain ⟨r1, r2, r3⟩ := wf.row v r hr
  let g : Int → Bool := fun u => decide (In B u) && okE k u
  unfold s_l7Degree
  obtain ⟨o, w1, w2⟩ := while_out (f := s_l7Degree_b0 x B v) (fun j (s : Int × Int) => s = ((((r.take j).filter g).length : Int), (j : Int)) ∧ j ≤ r.length) (fun _ => False) (fun s => s.1 = ((r.filter g).length : Int)) r.length (fun j s ⟨hs, hj⟩ => by
    subst hs
    unfold s_l7Degree_b0
    rw [hr, Option.bind_some]
    dsimp only
    by_cases hlt : (j : Int) < (r.length : Int)
    · have hu : r[j]? = some r[j] := List.getElem?_eq_getElem (by omega)
      generalize r[j] = u at hu
      obtain ⟨u0, u1⟩ := r3 u (List.mem_of_getElem? hu)
      obtain ⟨b, hb⟩ := idx_some (xs := B) u0 (by omega)
      have hle : ((r.take j).filter g).length ≤ j := Nat.le_trans (List.length_filter_le _ _) (by rw [List.length_take]; omega)
      simp only [hlt, decide_true, cond_true, Option.bind_some, idx_nat, hu, hb, s_edge u hk, andE]
      have hg : (b && okE k u) = g u := by
        show _ = (decide (In B u) && okE k u)
        congr 1
        unfold In; rw [hb]; cases b <;> simp
      rw [hg]
      have htk : (r.take (j + 1)).filter g = (r.take j).filter g ++ (if g u then [u] else []) := by
        rw [List.take_add_one, hu, List.filter_append]; congr 1
        cases h : g u <;> simp [h]
      rw [wr' (by omega) (by omega), wr' (by omega) (by omega)]
      cases h : g u with
      | true => exact ⟨_, rfl, by omega, by rw [htk, h]; simp, by omega⟩
      | false => exact ⟨_, rfl, by omega, by rw [htk, h]; simp, by omega⟩
    · simp only [hlt, decide_false, cond_false]
      refine ⟨_, rfl, ?_⟩
      dsimp only
      rw [List.take_of_length_le (by omega)]) (2 ^ 64) 0 (0, 0) (by omega) ⟨by simp, by omega⟩ (by omega)
  match o, w2 with
  | .inr s, h2 =>
    rw [w1, Option.bind_some, aft_inr, h2, rowS_eq hr hk]
    unfold lf
    rw [List.filter_filter]
    congr 3
    apply List.filter_congr
    intro u _
    show (decide (In B u) && okE k u) = _
    simp
/-- one predecessor -/
theorem s_prev_step {goal : Int → Prop} {p : Bool} {T L Q : List Int} {u v : Int} {out : List Bool} {left : List Int} (hm : Mid (rowS x) (ownL x.owner) (In B) p goal T u L Q) (hvL : v ∉ L)
    {P : List Int} {j : Nat} (hP : idx x.prev u = some P) (hj : P[j]? = some v) (hQ : Q.length ≤ 100000)
    (ho : out.length = n ∧ ∀ v : Int, 0 ≤ v → v < n → idx out v = some (decide (v ∈ Q))) (hl : left.length = n ∧ ∀ v, In B v → v ∉ Q → idx left v = some (lf (rowS x v) (In B) (dn T u L v) : Int)) :
    ∃ Q' out' left', s_l7Attract_b4 x B (b2i p) u (Q, (j : Int), out, left) = some (.inr (.inr (Q', ((j + 1 : Nat) : Int), out', left'))) ∧ Mid (rowS x) (ownL x.owner) (In B) p goal T u (L ++ [v]) Q' ∧
      (out'.length = n ∧ ∀ v : Int, 0 ≤ v → v < n → idx out' v = some (decide (v ∈ Q'))) ∧ (left'.length = n ∧ ∀ w, In B w → w ∉ Q' → idx left' w = some (lf (rowS x w) (In B) (dn T u (L ++ [v]) w) : Int)) ∧ (∀ v ∈ Q, v ∈ Q') := by
  have hn := wf.n256
  obtain ⟨p1, p2, p3⟩ := wf.prev u P hP
  obtain ⟨r, hr, hur⟩ := (p3 v).1 (List.mem_of_getElem? hj)
  obtain ⟨v0, v1⟩ := idx_rng hr
  rw [wf.ln] at v1
  obtain ⟨k, hk⟩ := idx_some (xs := x.pick) v0 (by rw [wf.lk]; exact v1)
  obtain ⟨b, hb⟩ := idx_some (xs := B) v0 (by omega)
  obtain ⟨w, hw⟩ := idx_some (xs := x.owner) v0 (by rw [wf.lo]; exact v1)
  have hjl : (j : Int) < (P.length : Int) := by have := (List.getElem?_eq_some_iff.1 hj).1; omega
  have hwr : IntKind.i64.wrap ((j : Int) + 1) = ((j + 1 : Nat) : Int) := by rw [wr' (by omega) (by omega)]; omega
  unfold s_l7Attract_b4
  rw [hP, Option.bind_some]
  dsimp only
  simp only [hjl, decide_true, cond_true, Option.bind_some, idx_nat, hj, hb, ho.2 v v0 v1, s_edge u hk, orE, hwr]
  have hedge : u ∈ rowS x v ↔ okE k u = true := by rw [rowS_eq hr hk, List.mem_filter]; exact ⟨fun h => h.2, fun h => ⟨hur, h⟩⟩
  have hdn : ∀ w, w ≠ v → lf (rowS x w) (In B) (dn T u (L ++ [v]) w) = lf (rowS x w) (In B) (dn T u L w) := fun w hw => lf_congr fun y _ _ => dn_other hw
  by_cases hsk : ((!b || decide (v ∈ Q)) || !okE k u) = true
  · rw [hsk, cond_true]
    have hcond : ¬ In B v ∨ v ∈ Q ∨ u ∉ rowS x v := by
      simp only [Bool.or_eq_true, Bool.not_eq_true', decide_eq_true_eq] at hsk
      rcases hsk with (h | h) | h
      · left; unfold In; rw [hb, h]; simp
      · exact .inr (.inl h)
      · right; right; rw [hedge, h]; simp
    refine ⟨Q, out, left, rfl, hm.skip hcond, ho, ⟨hl.1, fun y hy hq => ?_⟩, fun _ h => h⟩
    rw [hl.2 y hy hq]
    by_cases e : y = v
    · subst e
      have hu : u ∉ rowS x y := by
        rcases hcond with h | h | h
        · exact absurd hy h
        · exact absurd h hq
        · exact h
      congr 2
      exact lf_congr fun z hz _ => by
        have : z ≠ u := fun e => hu (e ▸ hz)
        unfold dn; simp [this]
    · rw [hdn y e]
  · simp only [Bool.not_eq_true, Bool.or_eq_false_iff, Bool.not_eq_false', decide_eq_false_iff_not] at hsk
    obtain ⟨⟨h1, h2⟩, h3⟩ := hsk
    subst h1
    have hi : In B v := hb
    have hu : u ∈ rowS x v := hedge.2 h3
    have hlv := hl.2 v hi h2
    have hlf : lf (rowS x v) (In B) (fun y => y ∈ T ∨ y = u) + 1 = lf (rowS x v) (In B) (dn T u L v) := by
      rw [lf_step (rowS_ok wf v).1 hu hm.u_in.2.2 hm.u_in.2.1]
      exact lf_congr fun y _ _ => (dn_self0 hvL).symm
    have hlle : lf (rowS x v) (In B) (dn T u L v) ≤ 16 := Nat.le_trans lf_le (rowS_ok wf v).2.1
    obtain ⟨left', hs, hsl⟩ := setI_some (xs := left) (i := v) (lf (rowS x v) (In B) (fun y => y ∈ T ∨ y = u) : Int) v0 (by omega)
    have hwrl : IntKind.i64.wrap ((lf (rowS x v) (In B) (dn T u L v) : Int) - 1) = (lf (rowS x v) (In B) (fun y => y ∈ T ∨ y = u) : Int) := by rw [wr' (by omega) (by omega)]; omega
    have hnew : idx left' v = some (lf (rowS x v) (In B) (fun y => y ∈ T ∨ y = u) : Int) := by rw [idx_setI hs, if_pos rfl]
    have hleft : ∀ w, In B w → w ∉ Q → idx left' w = some (lf (rowS x w) (In B) (dn T u (L ++ [v]) w) : Int) := fun w hw hq => by
      rw [idx_setI hs]
      by_cases e : w = v
      · subst e
        rw [if_pos rfl]
        congr 2
        exact lf_congr fun y _ _ => dn_self.symm
      · rw [if_neg e, hl.2 w hw hq, hdn w e]
    have hbeq : ((lf (rowS x v) (In B) (fun y => y ∈ T ∨ y = u) : Int) == 0) = decide (lf (rowS x v) (In B) (fun y => y ∈ T ∨ y = u) = 0) := by
      rw [Bool.eq_iff_iff]; simp
    simp only [h2, h3, decide_false, Bool.not_true, Bool.or_false, cond_false, hlv, Option.bind_some, hwrl, hs, hw, own_who hw (wf.ow v w hw), hnew, hbeq, orE]
    by_cases hc : ownL x.owner v = p ∨ lf (rowS x v) (In B) (fun y => y ∈ T ∨ y = u) = 0
    · have hc' : (decide (ownL x.owner v = p) || decide (lf (rowS x v) (In B) (fun y => y ∈ T ∨ y = u) = 0)) = true := by simpa using hc
      obtain ⟨out', hso, hsol⟩ := setI_some (xs := out) (i := v) true v0 (by omega)
      simp only [hc', cond_true, hso, Option.bind_some, app1 (show Q.length ≤ 10000000000 by omega) (show Nat.ble 8 1024 = true from rfl)]
      refine ⟨_, _, _, rfl, hm.add hi h2 hu hc, ⟨by omega, fun y y0 y1 => ?_⟩, ⟨by omega, fun w hw hq => hleft w hw fun h => hq (List.mem_append_left _ h)⟩, fun _ h => List.mem_append_left _ h⟩
      rw [idx_setI hso]
      by_cases e : y = v
      · subst e; simp
      · rw [if_neg e, ho.2 y y0 y1]; simp [e]
    · have hc' : (decide (ownL x.owner v = p) || decide (lf (rowS x v) (In B) (fun y => y ∈ T ∨ y = u) = 0)) = false := by simpa using hc
      rw [not_or] at hc
      simp only [hc', cond_false, Option.bind_some]
      exact ⟨_, _, _, rfl, hm.stay hc.1 hc.2, ho, ⟨by omega, hleft⟩, fun _ h => h⟩
end
end Go.Proofs.Ytndiklipffipcaa
