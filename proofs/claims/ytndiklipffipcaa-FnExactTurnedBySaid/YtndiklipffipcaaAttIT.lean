/- The program's attractor. -/
import Derived.Test.YtndiklipffipcaaAttS2T
set_option linter.unusedVariables false
set_option linter.unusedSimpArgs false
namespace Go.Proofs.Ytndiklipffipcaa
open Go Go.Wk Go.Proofs

structure WfI (x : solver) (n : Nat) : Prop where
  n256 : n ≤ 256
  lo : x.game.Arena.Owner.length = n
  lp : x.game.Prio.length = n
  ln : x.game.Arena.Next.length = n
  lv : x.preds.length = n
  ow : ∀ v o, idx x.game.Arena.Owner v = some o → o = 0 ∨ o = 1
  row : ∀ v r, idx x.game.Arena.Next v = some r → r.length ≤ 16 ∧ r.Nodup ∧ ∀ u ∈ r, 0 ≤ u ∧ u < n
  prev : ∀ u P, idx x.preds u = some P → P.Nodup ∧ P.length ≤ 100000 ∧ ∀ v, v ∈ P ↔ ∃ r, idx x.game.Arena.Next v = some r ∧ u ∈ r
def rowI (a : Arena) (v : Int) : List Int := (idx a.Next v).getD []
/-- the game of the program -/
def gI (g : Parity) : Par.Gm := mkG (rowI g.Arena) (ownL g.Arena.Owner) (priL g.Prio)
theorem rowI_eq {a : Arena} {v : Int} {r : List Int} (hr : idx a.Next v = some r) : rowI a v = r := by unfold rowI; rw [hr]; rfl
theorem own_ne {O : List Int} {v o : Int} {p : Bool} (h : idx O v = some o) (ho : o = 0 ∨ o = 1) : (o != b2i p) = decide (¬ ownL O v = p) := by
  have := own_who (p := p) h ho
  rw [bne, this]
  by_cases h : ownL O v = p <;> simp [h]
section
variable {x : solver} {n : Nat} (wf : WfI x n) {B : List Bool} (hB : B.length = n)
include wf
theorem rowI_ok (v : Int) : (rowI x.game.Arena v).Nodup ∧ (rowI x.game.Arena v).length ≤ 16 ∧ ∀ u ∈ rowI x.game.Arena v, 0 ≤ u ∧ u < n := by
  unfold rowI
  cases hr : idx x.game.Arena.Next v with
  | none => simp
  | some r =>
    obtain ⟨h1, h2, h3⟩ := wf.row v r hr
    exact ⟨h2, h1, h3⟩
include hB
omit wf in
theorem InI_rng {v : Int} (h : In B v) : 0 ≤ v ∧ v < n := by
  have := idx_rng h
  rw [hB] at this
  exact this
/-- the count of what may be taken -/
theorem i_count {v : Int} {r left : List Int} (hr : idx x.game.Arena.Next v = some r) (hl : left.length = n) (h0 : idx left v = some 0) : ∃ left', cntM (i_solver_pull_b4 B v r) r.length 0 left = some (.inr left') ∧ left'.length = n ∧
    idx left' v = some (lf r (In B) (fun _ => False) : Int) ∧ ∀ w, w ≠ v → idx left' w = idx left w := by
  classical
  obtain ⟨r1, r2, r3⟩ := wf.row v r hr
  have hv := idx_rng h0
  obtain ⟨s, h1, h2⟩ := cnt_inv (f := i_solver_pull_b4 B v r) (fun j (s : List Int) => s.length = n ∧ idx s v = some (((r.take j).filter (fun y => decide (In B y))).length : Int) ∧ ∀ w, w ≠ v → idx s w = idx left w) r.length (s := left) ⟨hl, by simpa using h0, fun _ _ => rfl⟩ (fun j s hj ⟨q1, q2, q3⟩ => by
    have hu : r[j]? = some r[j] := List.getElem?_eq_getElem hj
    generalize r[j] = u at hu
    obtain ⟨u0, u1⟩ := r3 u (List.mem_of_getElem? hu)
    obtain ⟨b, hb⟩ := idx_some (xs := B) u0 (by omega)
    have hle : ((r.take j).filter (fun y => decide (In B y))).length ≤ j := Nat.le_trans (List.length_filter_le _ _) (by rw [List.length_take]; omega)
    obtain ⟨s', hs, hsl⟩ := setI_some (xs := s) (i := v) (((r.take j).filter (fun y => decide (In B y))).length + 1 : Int) (by omega) (by omega)
    unfold i_solver_pull_b4
    simp only [idx_nat, hu, Option.bind_some, hb, q2]
    rw [wr' (by omega) (by omega)]
    have htk : (r.take (j + 1)).filter (fun y => decide (In B y)) = (r.take j).filter (fun y => decide (In B y)) ++ (if b then [u] else []) := by
      rw [take_one hu, List.filter_append]; congr 1
      have : In B u ↔ b = true := by unfold In; rw [hb]; simp
      cases b with
      | true => simp [this]
      | false => simp [this]
    cases b with
    | true =>
      simp only [cond_true, hs, Option.bind_some]
      refine ⟨_, rfl, by omega, ?_, fun w hw => ?_⟩
      · rw [idx_setI hs, if_pos rfl, htk]; simp
      · rw [idx_setI hs, if_neg hw]; exact q3 w hw
    | false =>
      simp only [cond_false, Option.bind_some]
      exact ⟨_, rfl, q1, by rw [htk]; simpa using q2, q3⟩)
  rw [List.take_length] at h2
  refine ⟨s, h1, h2.1, ?_, h2.2.2⟩
  rw [h2.2.1]
  unfold lf
  congr 3
  apply List.filter_congr
  intro u _
  simp
def LI (x : solver) (B : List Bool) (left : List Int) (w : Int) (d : Int → Prop) : Prop := idx left w = some (lf (rowI x.game.Arena w) (In B) d : Int) ∨ (idx left w = some 0 ∧ ∀ y ∈ rowI x.game.Arena w, In B y → ¬ d y)
omit wf hB in
theorem LI.congr {left : List Int} {w : Int} {d d' : Int → Prop} (h : LI x B left w d) (e : ∀ y ∈ rowI x.game.Arena w, In B y → (d y ↔ d' y)) : LI x B left w d' := by
  rcases h with h | ⟨h1, h2⟩
  · left; rw [h]; congr 2; exact lf_congr e
  · right; exact ⟨h1, fun y hy hi hd => h2 y hy hi ((e y hy hi).2 hd)⟩
/-- one predecessor -/
theorem i_prev_step {goal : Int → Prop} {p : Bool} {T L Q R : List Int} {u v : Int} {out : List Bool} {left : List Int} (hm : Mid (rowI x.game.Arena) (ownL x.game.Arena.Owner) (In B) p goal T u L Q) (hR : Q = T ++ u :: R) (hvL : v ∉ L)
    {P : List Int} {j : Nat} (hP : idx x.preds u = some P) (hj : P[j]? = some v) (hQ : Q.length ≤ 100000)
    (ho : out.length = n ∧ ∀ v : Int, 0 ≤ v → v < n → idx out v = some (decide (v ∈ Q))) (hl : left.length = n ∧ ∀ v, In B v → v ∉ Q → ¬ ownL x.game.Arena.Owner v = p → LI x B left v (dn T u L v)) :
    ∃ R' out' left', i_solver_pull_b2 x (b2i p) B P (j : Int) (R, out, left) = some (.inr (.inr (R', out', left'))) ∧ Mid (rowI x.game.Arena) (ownL x.game.Arena.Owner) (In B) p goal T u (L ++ [v]) (T ++ u :: R') ∧
      (out'.length = n ∧ ∀ v : Int, 0 ≤ v → v < n → idx out' v = some (decide (v ∈ T ++ u :: R'))) ∧ (left'.length = n ∧ ∀ w, In B w → w ∉ T ++ u :: R' → ¬ ownL x.game.Arena.Owner w = p → LI x B left' w (dn T u (L ++ [v]) w)) ∧ (∀ v ∈ Q, v ∈ T ++ u :: R') := by
  have hn := wf.n256
  obtain ⟨p1, p2, p3⟩ := wf.prev u P hP
  obtain ⟨r, hr, hur⟩ := (p3 v).1 (List.mem_of_getElem? hj)
  have hre := rowI_eq hr
  obtain ⟨v0, v1⟩ := idx_rng hr
  rw [wf.ln] at v1
  obtain ⟨b, hb⟩ := idx_some (xs := B) v0 (by omega)
  obtain ⟨w, hw⟩ := idx_some (xs := x.game.Arena.Owner) v0 (by rw [wf.lo]; exact v1)
  have hRl : R.length ≤ 100000 := by
    have := congrArg List.length hR
    rw [List.length_append, List.length_cons] at this; omega
  unfold i_solver_pull_b2
  rw [idx_nat, hj, Option.bind_some, ho.2 v v0 v1, Option.bind_some, hb]
  dsimp only
  simp only [Option.bind_some, orE]
  have hadd : ∀ left2 : List Int, (left2.length = n ∧ ∀ w, w ≠ v → idx left2 w = idx left w) → In B v → v ∉ Q → (ownL x.game.Arena.Owner v = p ∨ lf (rowI x.game.Arena v) (In B) (fun y => y ∈ T ∨ y = u) = 0) →
      ∃ R' out' left', (Option.bind (setI out v true) fun y59 => Option.bind (appS 8 R [v]) fun x114 => (some (.inr (.inr (x114, y59, left2))) : Option (List Bool ⊕ ((List Int × List Bool × List Int) ⊕ (List Int × List Bool × List Int))))) = some (.inr (.inr (R', out', left'))) ∧ Mid (rowI x.game.Arena) (ownL x.game.Arena.Owner) (In B) p goal T u (L ++ [v]) (T ++ u :: R') ∧
      (out'.length = n ∧ ∀ v : Int, 0 ≤ v → v < n → idx out' v = some (decide (v ∈ T ++ u :: R'))) ∧ (left'.length = n ∧ ∀ w, In B w → w ∉ T ++ u :: R' → ¬ ownL x.game.Arena.Owner w = p → LI x B left' w (dn T u (L ++ [v]) w)) ∧ (∀ v ∈ Q, v ∈ T ++ u :: R') := fun left2 ⟨l1, l2⟩ hi hq hc => by
    obtain ⟨out', hso, hsol⟩ := setI_some (xs := out) (i := v) true v0 (by omega)
    have hQ' : T ++ u :: (R ++ [v]) = Q ++ [v] := by rw [hR]; simp
    refine ⟨R ++ [v], out', left2, by rw [hso, Option.bind_some, app1 (by omega) rfl, Option.bind_some], ?_, ⟨by omega, fun y y0 y1 => ?_⟩, ⟨l1, fun w hw hq' hop => ?_⟩, fun y hy => by rw [hQ']; exact List.mem_append_left _ hy⟩
    · rw [hQ']; exact hm.add hi hq (hre ▸ hur) hc
    · rw [idx_setI hso, hQ']
      by_cases e : y = v
      · subst e; simp
      · rw [if_neg e, ho.2 y y0 y1]; simp [e]
    · rw [hQ', List.mem_append, List.mem_singleton, not_or] at hq'
      have := hl.2 w hw hq'.1 hop
      unfold LI at this ⊢
      rw [l2 w hq'.2]
      exact LI.congr (left := left) this fun y _ _ => (dn_other hq'.2).symm
  by_cases hsk : (decide (v ∈ Q) || !b) = true
  · rw [hsk, cond_true]
    have hcond : ¬ In B v ∨ v ∈ Q ∨ u ∉ rowI x.game.Arena v := by
      simp only [Bool.or_eq_true, Bool.not_eq_true', decide_eq_true_eq] at hsk
      rcases hsk with h | h
      · exact .inr (.inl h)
      · left; unfold In; rw [hb, h]; simp
    subst hR
    refine ⟨R, out, left, rfl, hm.skip hcond, ho, ⟨hl.1, fun y hy hq hop => ?_⟩, fun _ h => h⟩
    refine LI.congr (hl.2 y hy hq hop) fun z hz _ => ?_
    by_cases e : y = v
    · subst e
      rcases hcond with h | h | h
      · exact absurd hy h
      · exact absurd h hq
      · have : z ≠ u := fun e => h (e ▸ hz)
        unfold dn; simp [this]
    · exact (dn_other e).symm
  · simp only [Bool.not_eq_true, Bool.or_eq_false_iff, Bool.not_eq_false', decide_eq_false_iff_not] at hsk
    obtain ⟨h2, h1⟩ := hsk
    subst h1
    have hi : In B v := hb
    have hu : u ∈ rowI x.game.Arena v := hre ▸ hur
    simp only [h2, decide_false, Bool.not_true, Bool.or_false, cond_false, hw, Option.bind_some, own_ne hw (wf.ow v w hw)]
    by_cases hop : ownL x.game.Arena.Owner v = p
    · have : decide (¬ ownL x.game.Arena.Owner v = p) = false := by simp [hop]
      simp only [this, cond_false]
      exact hadd left ⟨hl.1, fun _ _ => rfl⟩ hi h2 (.inl hop)
    · have : decide (¬ ownL x.game.Arena.Owner v = p) = true := by simp [hop]
      simp only [this, cond_true]
      have hlf : lf (rowI x.game.Arena v) (In B) (fun y => y ∈ T ∨ y = u) + 1 = lf (rowI x.game.Arena v) (In B) (dn T u L v) := by
        rw [lf_step (rowI_ok wf v).1 hu hm.u_in.2.2 hm.u_in.2.1]
        exact lf_congr fun y _ _ => (dn_self0 hvL).symm
      have hlle : lf (rowI x.game.Arena v) (In B) (dn T u L v) ≤ 16 := Nat.le_trans lf_le (rowI_ok wf v).2.1
      -- the count, made or known
      have hcount : ∃ l7, (Option.bind (idx left v) fun x69 => (bif (x69 == 0) then
          Option.bind (idx x.game.Arena.Next v) fun x79 =>
          Option.bind (cntM (i_solver_pull_b4 B v x79) x79.length 0 left) fun q9 =>
          aft (fun r => none) (fun s10 =>
            some (s10 : (List Int))) q9
        else
          some left)) = some l7 ∧ l7.length = n ∧ idx l7 v = some (lf (rowI x.game.Arena v) (In B) (dn T u L v) : Int) ∧ ∀ w, w ≠ v → idx l7 w = idx left w := by
        have hz := hl.2 v hi h2 hop
        by_cases h0 : idx left v = some 0
        · obtain ⟨l7, k1, k2, k3, k4⟩ := i_count wf hB hr hl.1 h0
          refine ⟨l7, ?_, k2, ?_, k4⟩
          · simp only [h0, Option.bind_some, hr, k1, aft_inr]
            rfl
          · rw [k3, hre]
            congr 2
            rcases hz with h | ⟨_, h⟩
            · rw [h0] at h
              have := Option.some.inj h
              omega
            · exact lf_congr fun y hy hi => ⟨fun h => h.elim, fun hd => h y (by rw [hre]; exact hy) hi hd⟩
        · rcases hz with h | ⟨h, _⟩
          · refine ⟨left, ?_, hl.1, h, fun _ _ => rfl⟩
            have : ((lf (rowI x.game.Arena v) (In B) (dn T u L v) : Int) == 0) = false := by
              have : lf (rowI x.game.Arena v) (In B) (dn T u L v) ≠ 0 := fun e => h0 (by rw [h, e]; rfl)
              simp [this]
            simp only [h, Option.bind_some, this, cond_false]
          · exact absurd h h0
      obtain ⟨l7, c1, c2, c3, c4⟩ := hcount
      have hsplit : ∀ {β : Type} (f : List Int → Option β), (Option.bind (idx left v) fun x69 => Option.bind (bif (x69 == 0) then
          Option.bind (idx x.game.Arena.Next v) fun x79 =>
          Option.bind (cntM (i_solver_pull_b4 B v x79) x79.length 0 left) fun q9 =>
          aft (fun r => none) (fun s10 =>
            some (s10 : (List Int))) q9
        else
          some left) f) = Option.bind (some l7) f := fun f => by rw [← c1]; cases idx left v <;> rfl
      rw [hsplit, Option.bind_some, c3, Option.bind_some, Option.bind_some]
      have hwrl : IntKind.i64.wrap ((lf (rowI x.game.Arena v) (In B) (dn T u L v) : Int) - 1) = (lf (rowI x.game.Arena v) (In B) (fun y => y ∈ T ∨ y = u) : Int) := by rw [wr' (by omega) (by omega)]; omega
      obtain ⟨l8, hs, hsl⟩ := setI_some (xs := l7) (i := v) (lf (rowI x.game.Arena v) (In B) (fun y => y ∈ T ∨ y = u) : Int) v0 (by omega)
      have hnew : idx l8 v = some (lf (rowI x.game.Arena v) (In B) (fun y => y ∈ T ∨ y = u) : Int) := by rw [idx_setI hs, if_pos rfl]
      have hoth : ∀ w, w ≠ v → idx l8 w = idx left w := fun w hw => by rw [idx_setI hs, if_neg hw, c4 w hw]
      rw [hwrl, hs, Option.bind_some, hnew, Option.bind_some]
      by_cases hc : lf (rowI x.game.Arena v) (In B) (fun y => y ∈ T ∨ y = u) = 0
      · have : decide ((0 : Int) < (lf (rowI x.game.Arena v) (In B) (fun y => y ∈ T ∨ y = u) : Int)) = false := by simp [hc]
        rw [this, cond_false]
        exact hadd l8 ⟨by omega, hoth⟩ hi h2 (.inr hc)
      · have : decide ((0 : Int) < (lf (rowI x.game.Arena v) (In B) (fun y => y ∈ T ∨ y = u) : Int)) = true := by simp; omega
        rw [this, cond_true]
        subst hR
        refine ⟨R, out, l8, rfl, hm.stay hop hc, ho, ⟨by omega, fun w hw hq hop' => ?_⟩, fun _ h => h⟩
        by_cases e : w = v
        · subst e
          left
          rw [hnew]
          congr 2
          exact lf_congr fun y _ _ => dn_self.symm
        · have := hl.2 w hw hq hop'
          unfold LI at this ⊢
          rw [hoth w e]
          exact LI.congr (left := left) this fun y _ _ => (dn_other e).symm
end
end Go.Proofs.Ytndiklipffipcaa
