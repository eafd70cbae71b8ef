/- The machine of the states' kinds: what it is, and what is found in it. -/
import Derived.Test.YtfmkhnlnomkcfaaQuotC12
set_option linter.unusedVariables false
set_option linter.unusedSimpArgs false
namespace Go.Proofs.Ytfmkhnlnomkcfaa
open Go Go.Wk Go.Proofs

/-- a machine of kinds -/
structure Kinds (n : Nat) (m : Machine) (L : List Int) (N : List Int) (r : Machine) : Prop where
  names : Names n N
  rep : ∀ v ∈ N, atL L v = v
  zero : N[0]? = some 0
  nx : r.Next.length = N.length
  ou : r.Out.length = N.length
  rows : ∀ (k : Nat) v, N[k]? = some v → r.Next[k]? = some ((m.Next.getD v.toNat []).map (fun x => placeOf N (atL L x))) ∧ r.Out[k]? = some (m.Out.getD v.toNat []) ∧ ∀ x ∈ m.Next.getD v.toNat [], atL L x ∈ N
section
variable {l : Int} {n : Nat} {m : Machine} (hm : Mok l n m) {L : List Int} (hL : Low L) (hl : L.length = n) (hfix : ∀ q : Nat, q < n → atL L (atL L q) = atL L q)
include hm hL hl hfix
omit hfix in
theorem i_least_step {k : Nat} (h : RI n m L k) (hk : k < (red m L k).1.length) : i_LeastOf_b0 m L (red m L k) = some (.inr (.inr (red m L (k + 1)))) := by
  obtain ⟨n0, n1⟩ := hm.hn
  obtain ⟨l0, l1⟩ := hm.hl
  have hq : (red m L k).1[k]? = some ((red m L k).1[k]'hk) := List.getElem?_eq_getElem hk
  generalize (red m L k).1[k]'hk = q at hq
  obtain ⟨q0, q1, e1, e2⟩ := row_at h hq
  obtain ⟨row, r1, r2, r3, r4⟩ := hm.nx q.toNat (by omega)
  obtain ⟨out, o1, o2, o3⟩ := hm.ou q.toNat (by omega)
  have hlen := h.names.len
  have hrow : idx m.Next q = some row := by rw [idx_int q0]; exact r1
  have hout : idx m.Out q = some out := by rw [idx_int q0]; exact o1
  have hrn : rowN m (red m L k) = row := by rw [e1, r2]
  obtain ⟨f1, f2⟩ := fold_ext hm hL hl r4 (s := ((red m L k).1, [])) h.names
  have hidx0 : idx (red m L k).1 (red m L k).2.1 = some q := by rw [h.at_, idx_nat]; exact hq
  have hidx : idx (row.foldl (stepN L) ((red m L k).1, [])).1 (red m L k).2.1 = some q := by rw [h.at_, idx_nat]; exact f2 k q hq
  have hlt : (red m L k).2.1 < ((red m L k).1.length : Int) := by rw [h.at_]; omega
  have hx1 := h.lx
  have hx2 := h.lo
  have hred : red m L (k + 1) = ((row.foldl (stepN L) ((red m L k).1, [])).1, (red m L k).2.1 + 1, (red m L k).2.2.1 ++ [(row.foldl (stepN L) ((red m L k).1, [])).2], (red m L k).2.2.2 ++ [out]) := by
    show roundL m L (red m L k) = _
    unfold roundL
    rw [hrn, e2, o2]
  unfold i_LeastOf_b0
  simp only [hlt, decide_true, cond_true, hidx0, hrow, Option.bind_some, i_row hm hL hl h.names r4 (by omega : row.length ≤ 4), aft_inr, hidx, hout]
  rw [app1 (by omega) rfl, appL (by rw [List.length_nil]; omega) rfl]
  simp only [Option.bind_some, List.nil_append]
  rw [app1 (by omega) rfl, Option.bind_some, wr' (by rw [h.at_]; omega) (by rw [h.at_]; omega), hred]
omit hfix in
theorem found_row {N : List Int} (hN : N.Nodup) {k : Nat} (h : RI n m L k) {row : List Int} (hr : ∀ x ∈ row, 0 ≤ x ∧ x < n) (he : Ext (row.foldl (stepN L) ((red m L k).1, [])).1 N) :
    cntM (s_l29Found_b2 (row.map (fun x => placeOf N (atL L x)))) row.length 0 (upto (red m L k).1.length) = some (.inr (upto (row.foldl (stepN L) ((red m L k).1, [])).1.length)) := by
  obtain ⟨n0, n1⟩ := hm.hn
  obtain ⟨s, h1, h2⟩ := cnt_inv (f := s_l29Found_b2 (row.map (fun x => placeOf N (atL L x)))) (fun j s => s = upto ((row.take j).foldl (stepN L) ((red m L k).1, [])).1.length) row.length (s := upto (red m L k).1.length) rfl (fun j s hj hs => by
    subst hs
    have hx : row[j]? = some row[j] := by simp [hj]
    generalize row[j] = x at hx
    obtain ⟨x0, x1⟩ := hr x (List.mem_of_getElem? hx)
    obtain ⟨u0, u1⟩ := low_in hL hl x0 x1
    obtain ⟨b1, b2⟩ := fold_ext hm hL hl (row := row.take j) (fun y hy => hr y (List.mem_of_mem_take hy)) (s := ((red m L k).1, [])) h.names
    have et : (row.take (j + 1)).foldl (stepN L) ((red m L k).1, []) = stepN L ((row.take j).foldl (stepN L) ((red m L k).1, [])) x := by rw [List.take_add_one, hx, List.foldl_append]; rfl
    have hfin : Ext ((row.take (j + 1)).foldl (stepN L) ((red m L k).1, [])).1 N := by
      have e : row.foldl (stepN L) ((red m L k).1, []) = (row.drop (j + 1)).foldl (stepN L) ((row.take (j + 1)).foldl (stepN L) ((red m L k).1, [])) := by
        rw [← List.foldl_append, List.take_append_drop]
      rw [e] at he
      obtain ⟨c1, _⟩ := fold_ext hm hL hl (row := row.take (j + 1)) (fun y hy => hr y (List.mem_of_mem_take hy)) (s := ((red m L k).1, [])) h.names
      exact Ext.trans (fold_ext hm hL hl (row := row.drop (j + 1)) (fun y hy => hr y (List.mem_of_mem_drop hy)) c1).2 he
    rw [et] at hfin ⊢
    generalize (row.take j).foldl (stepN L) ((red m L k).1, []) = F at b1 b2 hfin ⊢
    have hF : (stepN L F x).1 = addN F.1 (atL L x) := rfl
    rw [hF] at hfin ⊢
    have hlen := b1.len
    have hm' : (row.map (fun x => placeOf N (atL L x)))[j]? = some (placeOf N (atL L x)) := by rw [List.getElem?_map, hx]; rfl
    unfold s_l29Found_b2
    rw [idx_nat, hm', Option.bind_some, s_l1Place_eq, Option.bind_some, place_lt]
    by_cases hu : atL L x ∈ F.1
    · obtain ⟨i, hi⟩ := List.mem_iff_getElem?.1 hu
      have hlt := (List.getElem?_eq_some_iff.1 hi).1
      have hadd : addN F.1 (atL L x) = F.1 := by unfold addN; rw [if_pos hu]
      rw [hadd] at hfin ⊢
      have hp := place_nodup hN (hfin i _ hi)
      have : placeOf N (atL L x) ∈ upto F.1.length := by rw [hp, upto_mem]; omega
      simp only [this, decide_true, Bool.not_true, cond_false, Option.bind_some]
      exact ⟨_, rfl, rfl⟩
    · have hadd : addN F.1 (atL L x) = F.1 ++ [atL L x] := by unfold addN; rw [if_neg hu]
      rw [hadd] at hfin ⊢
      have hi : (F.1 ++ [atL L x])[F.1.length]? = some (atL L x) := by simp
      have hp := place_nodup hN (hfin _ _ hi)
      have : ¬ placeOf N (atL L x) ∈ upto F.1.length := by rw [hp, upto_mem]; omega
      simp only [this, decide_false, Bool.not_false, cond_true, Option.bind_some]
      rw [app1 (by rw [upto_len]; omega) rfl, hp]
      refine ⟨_, rfl, ?_⟩
      rw [List.length_append, List.length_singleton, upto_succ])
  rw [h1, h2, List.take_length]
theorem kinds_full : ∃ N r, Option.bind (whileM (i_LeastOf_b0 m L) (2 ^ 64) ((([0] : List Int) : (List Int)), (0 : Int), (([] : List (List Int)) : (List (List Int))), (([] : List (List Int)) : (List (List Int))))) (fun q2 =>
    aft (fun r => some r) (fun s3 => some ((⟨s3.2.2.1, s3.2.2.2⟩ : Machine) : Machine)) q2) = some r ∧ Kinds n m L N r ∧ s_l29Found r = some (upto N.length) := by
  obtain ⟨n0, n1⟩ := hm.hn
  obtain ⟨T, t1, t2, t3, t4⟩ := red_end hm hL hl hfix
  have hT := t1 T (Nat.le_refl _)
  have hTn := hT.names.len
  have hK : Kinds n m L (red m L T).1 ⟨(red m L T).2.2.1, (red m L T).2.2.2⟩ := by
    refine ⟨hT.names, hT.rep, hT.zero, by dsimp only; rw [hT.lx, t3], by dsimp only; rw [hT.lo, t3], fun k v hk => ?_⟩
    have hlt := (List.getElem?_eq_some_iff.1 hk).1
    exact hT.rows _ hT.names.1 (fun _ _ h => h) k v (by omega) hk
  refine ⟨(red m L T).1, ⟨(red m L T).2.2.1, (red m L T).2.2.2⟩, ?_, hK, ?_⟩
  · have h1 := while_skip (f := i_LeastOf_b0 m L) (red m L) T (2 ^ 64 - T) (fun k hk => i_least_step hm hL hl (t1 k (by omega)) (t2 k hk))
    rw [show T + (2 ^ 64 - T) = 2 ^ 64 from by omega] at h1
    rw [show (([0] : List Int), (0 : Int), ([] : List (List Int)), ([] : List (List Int))) = red m L 0 from rfl, h1]
    obtain ⟨z, hz⟩ : ∃ z, 2 ^ 64 - T = z + 1 := ⟨2 ^ 64 - T - 1, by omega⟩
    rw [hz]
    have hex : i_LeastOf_b0 m L (red m L T) = some (.inr (.inl (red m L T))) := by
      unfold i_LeastOf_b0
      have hlt : ¬ (red m L T).2.1 < ((red m L T).1.length : Int) := by rw [hT.at_, t3]; omega
      simp only [hlt, decide_false, cond_false]
    show Option.bind (Option.bind (i_LeastOf_b0 m L (red m L T)) _) _ = _
    rw [hex]
    rfl
  · unfold s_l29Found
    have h1 := while_skip (f := s_l29Found_b0 ⟨(red m L T).2.2.1, (red m L T).2.2.2⟩) (fun k => (upto (red m L k).1.length, (k : Int))) T (2 ^ 64 - T) (fun k hk => by
      have hkI := t1 k (by omega)
      have hkl := t2 k hk
      have hq : (red m L k).1[k]? = some ((red m L k).1[k]'hkl) := List.getElem?_eq_getElem hkl
      generalize (red m L k).1[k]'hkl = q at hq
      obtain ⟨q0, q1, e1, e2⟩ := row_at hkI hq
      obtain ⟨row, r1, r2, r3, r4⟩ := hm.nx q.toNat (by omega)
      have hkn := hkI.names.len
      obtain ⟨w1, _, _⟩ := hK.rows k q (t4 k (by omega) k q hq)
      have hrow := found_row hm hL hl hT.names.1 hkI (row := row) r4 (by
        have := t4 (k + 1) (by omega)
        have e : (red m L (k + 1)).1 = (row.foldl (stepN L) ((red m L k).1, [])).1 := by
          show ((rowN m (red m L k)).foldl (stepN L) ((red m L k).1, [])).1 = _
          rw [e1, r2]
        rw [e] at this
        exact this)
      have hnext : (row.foldl (stepN L) ((red m L k).1, [])).1.length = (red m L (k + 1)).1.length := by
        show _ = ((rowN m (red m L k)).foldl (stepN L) ((red m L k).1, [])).1.length
        rw [e1, r2]
      have w1 : (red m L T).2.2.1[k]? = some (row.map (fun x => placeOf (red m L T).1 (atL L x))) := by rw [r2] at w1; exact w1
      have c1 : (k : Int) < ((upto (red m L k).1.length).length : Int) := by rw [upto_len]; omega
      unfold s_l29Found_b0
      dsimp only
      have hu : idx (upto (red m L k).1.length) (k : Int) = some (k : Int) := by rw [idx_nat, upto_get hkl]
      have hrl : (row.map (fun x => placeOf (red m L T).1 (atL L x))).length = row.length := by rw [List.length_map]
      simp only [c1, decide_true, cond_true, hu, idx_nat, w1, Option.bind_some, hrl, hrow, aft_inr]
      rw [wr' (by omega) (by omega), hnext]
      rfl)
    rw [show T + (2 ^ 64 - T) = 2 ^ 64 from by omega] at h1
    rw [show (([0] : List Int), (0 : Int)) = (upto (red m L 0).1.length, ((0 : Nat) : Int)) from rfl, h1]
    obtain ⟨z, hz⟩ : ∃ z, 2 ^ 64 - T = z + 1 := ⟨2 ^ 64 - T - 1, by omega⟩
    rw [hz]
    have hex : s_l29Found_b0 ⟨(red m L T).2.2.1, (red m L T).2.2.2⟩ (upto (red m L T).1.length, (T : Int)) = some (.inr (.inl (upto (red m L T).1.length, (T : Int)))) := by
      unfold s_l29Found_b0
      have hlt : ¬ (T : Int) < ((upto (red m L T).1.length).length : Int) := by rw [upto_len, t3]; omega
      dsimp only
      simp only [hlt, decide_false, cond_false]
    show Option.bind (Option.bind (s_l29Found_b0 ⟨(red m L T).2.2.1, (red m L T).2.2.2⟩ (upto (red m L T).1.length, (T : Int))) _) _ = _
    rw [hex]
    rfl
end
end Go.Proofs.Ytfmkhnlnomkcfaa
