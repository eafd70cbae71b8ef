/- CircuitMeets: both sides compute the same. -/
import Derived.Test.YthjkonkcdfdfaaaMachU
import Derived.Test.YthjkonkcdfdfaaaStpU
import Derived.Test.YthjkonkcdfdfaaaPrsU
import Derived.Test.YthjkonkcdfdfaaaLeastU
set_option linter.unusedVariables false
set_option linter.unusedSimpArgs false
namespace Go.Proofs.Ythjkonkcdfdfaaa
open Go Go.Wk Go.Proofs

structure Inv (n : Int) (M : Nat) (T : List Int) (seen : List Bool) : Prop where
  nodup : T.Nodup
  rng : ∀ x ∈ T, 0 ≤ x ∧ x < M
  len : seen.length = M
  mem : ∀ x : Int, 0 ≤ x → x < M → bAt seen x = decide (x ∈ T)
theorem Inv.add {n : Int} {M : Nat} {T : List Int} {seen : List Bool} (h : Inv n M T seen) {y : Int} (y0 : 0 ≤ y) (y1 : y < M) (hy : y ∉ T) : ∃ seen', setI seen y true = some seen' ∧ Inv n M (T ++ [y]) seen' := by
  obtain ⟨k, rfl⟩ := ex_nat y0
  have hl := h.len
  refine ⟨seen.set k true, ?_, ?_, ?_, by rw [List.length_set, hl], ?_⟩
  · unfold setI
    rw [if_pos (by omega)]; simp
  · rw [List.nodup_append]
    refine ⟨h.nodup, by simp, fun a ha b hb => ?_⟩
    simp only [List.mem_singleton] at hb
    subst hb
    exact fun e => hy (e ▸ ha)
  · intro x hx
    rw [List.mem_append, List.mem_singleton] at hx
    rcases hx with hx | rfl
    · exact h.rng x hx
    · exact ⟨y0, y1⟩
  · intro x x0 x1
    rw [bAt_set (by omega) x x0, h.mem x x0 x1]
    simp [List.mem_append]
theorem CircuitMeets_same (p : Sig) (c : Circuit) (m : Machine) : ∃ b, s_CircuitMeets p c m = some b ∧ i_CircuitMeets p c m = some b := by
  unfold s_CircuitMeets i_CircuitMeets
  rw [s_MachineOk_eq, s_fits_eq, i_isSig_eq, i_isCircuit_eq]
  simp only [Option.bind_some, orE, bne]
  cases hs : sigOk p with
  | false => exact ⟨false, by simp, by simp⟩
  | true =>
    rw [i_isMachine_eq hs]
    cases hm : machOk p m with
    | false => exact ⟨false, by simp, by simp⟩
    | true =>
      cases hc : circOk c with
      | false => exact ⟨false, by simp, by simp⟩
      | true =>
        cases h1 : (c.Inputs == p.In) with
        | false => exact ⟨false, by simp, by simp⟩
        | true =>
          cases h2 : ((c.Outs.length : Int) == p.Out) with
          | false => exact ⟨false, by simp, by simp⟩
          | true =>
            simp only [Bool.and_self, Bool.not_true, Bool.or_self, cond_false, Option.bind_some]
            have h1 := beq_iff_eq.1 h1
            have pI := pw_le p.In
            have hpw := pow_pw hs
            have hcb := circHead_in (circOk_spec hc).1
            have h64 := pow_le64 (circOk_spec hc).1
            have hLp := (pow_in (j := c.Latches.toNat) (by omega)).1
            obtain ⟨n1, n2, n3, n4, n5⟩ := machOk_spec hm
            rw [l31Pow_int (by omega) (by omega)]
            generalize hL : (2 : Int) ^ c.Latches.toNat = L at *
            generalize hnn : (m.Next.length : Int) = n at *
            have hn1 : 1 ≤ n := by omega
            have hMb : L * n ≤ 64 * 48 := Int.mul_le_mul h64 (by omega) (by omega) (by omega)
            have hM1 : 1 * 1 ≤ L * n := Int.mul_le_mul hLp hn1 (by omega) (by omega)
            obtain ⟨M, hM⟩ := ex_nat (z := L * n) (by omega)
            obtain ⟨ki, hki⟩ := ex_nat (z := pw p.In) (by omega)
            have hnz : nz n = some () := by unfold nz; rw [if_neg (by omega)]
            -- the start
            rw [Option.bind_some, Int.mul_comm n L, hM, wr' (by omega) (by omega)]
            have hmk : mkS 1 (M : Int) false = some (List.replicate M false) := by
              unfold mkS
              rw [if_pos (by omega)]; simp
            have hi0 : Inv n M [] (List.replicate M false) := ⟨by simp, by simp, by simp, fun x x0 x1 => by
              unfold bAt
              rw [List.getD_eq_getElem?_getD, List.getElem?_replicate]
              simp only [List.not_mem_nil, decide_false]
              split <;> rfl⟩
            obtain ⟨seen0, e0, hI0⟩ := hi0.add (y := 0) (by omega) (by omega) (by simp)
            obtain ⟨b0, hb0⟩ : ∃ b, idx (List.replicate M false) 0 = some b := ⟨_, (get_el (xs := List.replicate M false) (z := 0) (by omega) (by simp; omega)).choose_spec.1⟩
            rw [hmk, Option.bind_some, hb0, Option.bind_some, e0, Option.bind_some]
            have z00 : dq n 0 = 0 ∧ ds n 0 = 0 := by unfold dq ds; simp
            -- the loops
            obtain ⟨o, q, w1, w2, w3⟩ := while_sim (f := i_CircuitMeets_b0 c m) (g := s_CircuitMeets_b0 p c m) (fun s t => ∃ T : List Int, s.1 = prs n T ∧ 0 ≤ s.2 ∧ s.2 ≤ (T.length : Int) ∧ t.1 = T.drop s.2.toNat ∧ Inv n M T t.2) (fun s => M + 1 - s.2.toNat) (fun r r' => r = false ∧ r' = false) (fun _ _ => True)
              (fun s t ⟨T, e1, i0, i1, e2, hInv⟩ => by
                obtain ⟨od, i⟩ := s
                obtain ⟨todo, seen⟩ := t
                dsimp only at e1 i0 i1 e2 hInv ⊢
                obtain ⟨i, rfl⟩ := ex_nat i0
                rw [Int.toNat_natCast] at e2
                subst e1 e2
                have hTl := nodup_lenN M T hInv.nodup hInv.rng
                have hpl : (prs n T).length = T.length := by simp [prs]
                unfold i_CircuitMeets_b0 s_CircuitMeets_b0
                dsimp only
                by_cases hlt : i < T.length
                · have hx : T[i]? = some (T[i]'hlt) := List.getElem?_eq_getElem hlt
                  have hxm := hInv.rng _ (List.getElem_mem hlt)
                  generalize T[i]'hlt = x at hx hxm
                  have hd : T.drop i = x :: T.drop (i + 1) := by
                    rw [List.drop_eq_getElem_cons hlt]
                    have e := List.getElem?_eq_getElem hlt
                    rw [hx] at e
                    rw [Option.some.inj e]
                  have c1 : (i : Int) < ((prs n T).length : Int) := by omega
                  have c2 : (0 : Int) < ((T.drop i).length : Int) := by rw [hd, List.length_cons]; omega
                  obtain ⟨d0, d1, d2, d3⟩ := d_in (m := L) hn1 hxm.1 (by omega)
                  have hp : ∀ T', T <+: T' → idx (prs n T') (i : Int) = some (dq n x, ds n x) := fun T' hT' => by
                    obtain ⟨r, rfl⟩ := hT'
                    rw [idx_nat]
                    unfold prs
                    rw [List.getElem?_map, List.getElem?_append_left hlt, hx]
                    rfl
                  have hsub : subS (T.drop i) 1 ((T.drop i).length : Int) = some (T.drop (i + 1)) := by
                    unfold subS
                    rw [if_pos (by omega), Int.toNat_natCast, List.take_length, hd]
                    rfl
                  have hi00 : idx (T.drop i) 0 = some x := by rw [hd]; rfl
                  obtain ⟨row, g1, g2⟩ := get_el (xs := m.Next) (z := ds n x) d2 (by omega)
                  obtain ⟨hrl, hrr⟩ := n4 row g2
                  obtain ⟨orow, f1, f2⟩ := get_el (xs := m.Out) (z := ds n x) d2 (by omega)
                  obtain ⟨hol, hor⟩ := n5 orow f2
                  have hrk : row.length = ki := by omega
                  have q1 : IntKind.i64.wrap (Int.tdiv x n) = dq n x := by rw [tdiv_pos hxm.1, wr' (by unfold dq at d0; omega) (by unfold dq at d1; omega)]; rfl
                  have q2 : Int.tmod x n = ds n x := by rw [Int.tmod_eq_emod_of_nonneg hxm.1]; rfl
                  simp only [c1, c2, decide_true, cond_true, hp T (List.prefix_refl T), Option.bind_some, g1, hsub, hi00]
                  obtain ⟨o, q, u1, u2, u3⟩ := cnt_while (f := i_CircuitMeets_b2 c m (prs n T, (i : Int)) row) (g := s_CircuitMeets_b2 p c m x) (fun j s t => ∃ T' : List Int, s = prs n T' ∧ T <+: T' ∧ t.1 = T'.drop (i + 1) ∧ t.2.1 = (j : Int) ∧ Inv n M T' t.2.2) (fun r r' => r = false ∧ r' = false) (fun s t => ∃ T' : List Int, s = prs n T' ∧ T <+: T' ∧ t.1 = T'.drop (i + 1) ∧ Inv n M T' t.2.2) row.length
                    (fun j s t hj ⟨T', e1, hpre, e2, e3, hI⟩ => by
                      obtain ⟨todo, v, sn⟩ := t
                      dsimp only at e2 e3 hI
                      subst e1 e2 e3
                      have hTl' := nodup_lenN M T' hI.nodup hI.rng
                      have hpl' : (prs n T').length = T'.length := by simp [prs]
                      obtain ⟨s1, s2, s3, s4, s5, s6⟩ := stp_eq hc (l := dq n x) (n := (j : Int)) d0 (by omega) (by omega) (by rw [h1, hpw.2]; omega)
                      obtain ⟨a, ha, ham⟩ := get_el (xs := row) (z := (j : Int)) (by omega) (by omega)
                      obtain ⟨b, hb, hbm⟩ := get_el (xs := orow) (z := (j : Int)) (by omega) (by omega)
                      obtain ⟨a0, a1⟩ := hrr a ham
                      obtain ⟨k1, k2⟩ := d_code (n := n) (q := (stp c (dq n x) (j : Int)).1) hn1 a0 (by omega)
                      generalize hst : stp c (dq n x) (j : Int) = st at *
                      have y0 : 0 ≤ st.1 * n := Int.mul_nonneg s3 (by omega)
                      have y1 : (st.1 + 1) * n ≤ L * n := Int.mul_le_mul_of_nonneg_right (by omega) (by omega)
                      rw [Int.add_mul, Int.one_mul] at y1
                      have w1 : IntKind.i64.wrap (IntKind.i64.wrap (st.1 * n) + a) = st.1 * n + a := by rw [wr' (z := st.1 * n) (by omega) (by omega), wr' (by omega) (by omega)]
                      unfold i_CircuitMeets_b2 s_CircuitMeets_b2
                      have hjk : (j : Int) < pw p.In := by omega
                      dsimp only
                      simp only [hpw.1, Option.bind_some, hjk, decide_true, cond_true, hnn, hnz, q1, q2, ha, hb, hp T' hpre, s1, s2, g1, f1, w1, bne]
                      cases hbe : (st.2 == b) with
                      | false => exact ⟨_, _, rfl, rfl, rfl, rfl⟩
                      | true =>
                        have hct := contains_prs n T' (st.1 * n + a)
                        rw [k1, k2] at hct
                        have hsn := hI.mem (st.1 * n + a) (by omega) (by omega)
                        have hsn' : idx sn (st.1 * n + a) = some (bAt sn (st.1 * n + a)) := bAt_get (by omega) (by rw [hI.len]; omega)
                        simp only [Bool.not_true, cond_false, hct, hsn', hsn, Option.bind_some]
                        by_cases hy : st.1 * n + a ∈ T'
                        · simp only [hy, decide_true, Bool.not_true, cond_false, Option.bind_some]
                          exact ⟨_, _, rfl, rfl, T', rfl, hpre, rfl, by show IntKind.i64.wrap ((j : Int) + 1) = ((j + 1 : Nat) : Int); rw [wr' (by omega) (by omega)]; omega, hI⟩
                        · obtain ⟨sn', v1, v2⟩ := hI.add (y := st.1 * n + a) (by omega) (by omega) hy
                          simp only [hy, decide_false, Bool.not_false, cond_true, Option.bind_some, v1]
                          rw [app1 (by omega) rfl, app1 (by rw [List.length_drop]; omega) rfl]
                          refine ⟨_, _, rfl, rfl, T' ++ [st.1 * n + a], ?_, hpre.trans (List.prefix_append ..), ?_, by show IntKind.i64.wrap ((j : Int) + 1) = ((j + 1 : Nat) : Int); rw [wr' (by omega) (by omega)]; omega, v2⟩
                          · simp [prs, k1, k2]
                          · have := hpre.length_le
                            rw [List.drop_append_of_le_length (by omega)])
                    (fun s t ⟨T', e1, hpre, e2, e3, hI⟩ => by
                      obtain ⟨todo, v, sn⟩ := t
                      dsimp only at e2 e3 hI
                      unfold s_CircuitMeets_b2
                      have hjk : ¬ v < pw p.In := by omega
                      simp only [hpw.1, Option.bind_some, hjk, decide_false, cond_false]
                      exact ⟨_, rfl, T', e1, hpre, e2, hI⟩)
                    row.length 0 (prs n T) (T.drop (i + 1), 0, seen) (2 ^ 64) (by omega) (by omega) ⟨T, rfl, List.prefix_refl T, rfl, rfl, hInv⟩
                  have u1 : cntM (i_CircuitMeets_b2 c m (prs n T, (i : Int)) row) row.length 0 (prs n T) = some o := u1
                  rw [u1, u2]
                  match o, q, u3 with
                  | .inl r, .inl r', u3 => exact ⟨_, _, rfl, rfl, u3⟩
                  | .inr s', .inr t', ⟨T', v1, v2, v3, v4⟩ =>
                    have := v2.length_le
                    simp only [Option.bind_some, aft_inr]
                    refine ⟨_, _, rfl, rfl, ⟨T', v1, ?_, ?_, ?_, v4⟩, ?_⟩
                    · show 0 ≤ IntKind.i64.wrap ((i : Int) + 1)
                      rw [wr' (by omega) (by omega)]; omega
                    · show IntKind.i64.wrap ((i : Int) + 1) ≤ _
                      rw [wr' (by omega) (by omega)]; omega
                    · show t'.1 = T'.drop (IntKind.i64.wrap ((i : Int) + 1)).toNat
                      rw [v3, wr' (by omega) (by omega)]
                      congr 1
                    · show M + 1 - (IntKind.i64.wrap ((i : Int) + 1)).toNat < M + 1 - (i : Int).toNat
                      rw [wr' (by omega) (by omega)]; omega
                · have c1 : ¬ (i : Int) < ((prs n T).length : Int) := by omega
                  have c2 : ¬ (0 : Int) < ((T.drop i).length : Int) := by rw [List.length_drop]; omega
                  simp only [c1, c2, decide_false, cond_false]
                  exact ⟨_, _, rfl, rfl, trivial⟩)
              (2 ^ 64) (2 ^ 64) ([(0, 0)], 0) ([0], seen0) (by dsimp only; omega) (by dsimp only; omega) ⟨[0], by simp [prs, z00.1, z00.2], by simp, by simp, by simp, hI0⟩
            rw [w1, w2]
            match o, q, w3 with
            | .inl r, .inl r', w3 => exact ⟨false, by rw [Option.bind_some, aft_inl, w3.2], by rw [Option.bind_some, aft_inl, w3.1]⟩
            | .inr s', .inr t', w3 => exact ⟨true, rfl, rfl⟩
end Go.Proofs.Ythjkonkcdfdfaaa
