/- The machine of the states' kinds does what the machine does. -/
import Derived.Test.YtfmkhnlnomkcfaaQuot2C12
import Derived.Test.YtfmkhnlnomkcfaaMachWC12
import Derived.Test.YtfmkhnlnomkcfaaPrsC12
set_option linter.unusedVariables false
set_option linter.unusedSimpArgs false
namespace Go.Proofs.Ytfmkhnlnomkcfaa
open Go Go.Wk Go.Proofs

theorem fix_of {m : Machine} {L : List Int} {n : Nat} (hl : L.length = n) (h : part1 m L = L) : ∀ q : Nat, q < n → atL L (atL L q) = atL L q := fun q hq => by
  obtain ⟨p, e, le, hn⟩ := fixed_near h (by omega : q < L.length)
  rw [e]
  exact (near_out hn).1.trans e
/-- a state of the one machine, a state of the other of its kind -/
def Rel (n : Nat) (L N : List Int) (i : Nat) (q : Int) : Prop := 0 ≤ q ∧ q < n ∧ N[i]? = some (atL L q)
section
variable {p : Sig} {m : Machine} (hs : sigOk p = true) (hmo : machOk p m = true) {L : List Int} (hL : Low L) (hl : L.length = m.Next.length) (hf : part1 m L = L) {N : List Int} {r : Machine} (hK : Kinds m.Next.length m L N r)
include hmo hL hl hf hK
omit hL in
theorem rel_row {i : Nat} {q : Int} (hR : Rel m.Next.length L N i q) {x : Int} (x0 : 0 ≤ x) (x1 : x < pw p.In) : ∃ (rowr rowm o : List Int) (i' : Nat), idx r.Next i = some rowr ∧ idx r.Out i = some o ∧ idx m.Out q = some o ∧ idx m.Next q = some rowm ∧
    idx rowr x = some (i' : Int) ∧ idx rowm x = some (tab m.Next q x) ∧ idx o x = some (tab m.Out q x) ∧ Rel m.Next.length L N i' (tab m.Next q x) ∧ (rowr.length : Int) = pw p.In := by
  obtain ⟨q0, q1, hi⟩ := hR
  obtain ⟨n1, n2, n3, n4, n5⟩ := machOk_spec hmo
  obtain ⟨rowm, t1, t2, t3, t4⟩ := tab_in n4 q0 q1 x0 x1
  obtain ⟨o, o1, o2, o3, o4⟩ := tab_in n5 q0 (by omega) x0 x1
  obtain ⟨p', e, le, hn⟩ := fixed_near hf (by omega : q.toNat < L.length)
  rw [show ((q.toNat : Nat) : Int) = q from by omega] at e
  obtain ⟨w1, w2, w3⟩ := hK.rows i _ hi
  rw [e, Int.toNat_natCast] at w1 w2 w3
  simp only [near, Bool.and_eq_true, decide_eq_true_eq] at hn
  obtain ⟨_, k2, k3⟩ := hn
  have gq : m.Next.getD q.toNat [] = rowm := by rw [idx_int q0] at t1; rw [List.getD_eq_getElem?_getD, t1]; rfl
  have go : m.Out.getD q.toNat [] = o := by rw [idx_int q0] at o1; rw [List.getD_eq_getElem?_getD, o1]; rfl
  have hrl : (rowm.length : Int) = pw p.In := by
    rw [idx_int q0] at t1
    exact (n4 rowm (List.mem_of_getElem? t1)).1
  rw [gq] at k3
  rw [k2, go] at w2
  have hlen : (m.Next.getD p' []).length = rowm.length := by
    have := congrArg List.length k3
    simpa using this
  have hx : x.toNat < (m.Next.getD p' []).length := by omega
  have hy : (m.Next.getD p' [])[x.toNat]? = some ((m.Next.getD p' [])[x.toNat]'hx) := List.getElem?_eq_getElem hx
  have hym := w3 _ (List.getElem_mem hx)
  generalize (m.Next.getD p' [])[x.toNat]'hx = y at hy hym
  obtain ⟨i', z1, z2, z3⟩ := place_in hym
  have hLy : atL L y = atL L (tab m.Next q x) := by
    have := congrArg (fun z => z[x.toNat]?) k3
    simp only [List.getElem?_map, hy] at this
    rw [idx_int x0] at t2
    rw [t2] at this
    simpa using this
  refine ⟨_, rowm, o, i', by rw [idx_nat]; exact w1, by rw [idx_nat]; exact w2, o1, t1, ?_, t2, o2, ⟨t3, t4, by rw [← hLy]; exact z3⟩, ?_⟩
  · rw [idx_int x0, List.getElem?_map, hy]
    simp [z1]
  · rw [List.length_map, hlen]; exact hrl
omit hf in
theorem rel0 : Rel m.Next.length L N 0 0 := by
  obtain ⟨n1, _⟩ := machOk_spec hmo
  refine ⟨by omega, by omega, ?_⟩
  have := hL 0 (by omega)
  simp only [Int.natCast_zero] at this
  rw [show atL L 0 = 0 from by omega]
  exact hK.zero
omit hL hl hf in
theorem kinds_ok : machOk p r = true := by
  obtain ⟨n1, n2, n3, n4, n5⟩ := machOk_spec hmo
  have hN := hK.names.len
  have h1 : 1 ≤ N.length := by have := (List.getElem?_eq_some_iff.1 hK.zero).1; omega
  have hn := hK.nx
  have ho := hK.ou
  unfold machOk
  rw [hn, ho]
  simp only [Bool.and_eq_true, decide_eq_true_eq, beq_self_eq_true, and_true, List.all_eq_true]
  refine ⟨by omega, fun x hx => ?_⟩
  obtain ⟨row, i⟩ := x
  rw [List.mem_zipIdx_iff_getElem?] at hx
  have hx : r.Next[i]? = some row := hx
  have hlt := (List.getElem?_eq_some_iff.1 hx).1
  have hv : N[i]? = some (N[i]'(by omega)) := List.getElem?_eq_getElem (by omega)
  have hvm := hK.names.2 _ (List.getElem_mem (by omega : i < N.length))
  generalize N[i]'(by omega) = v at hv hvm
  obtain ⟨w1, w2, w3⟩ := hK.rows i v hv
  rw [hx] at w1
  have w1 := Option.some.inj w1
  have hvn : v.toNat < m.Next.length := by omega
  have hvo : v.toNat < m.Out.length := by omega
  have g1 : m.Next.getD v.toNat [] = m.Next[v.toNat] := by simp [hvn]
  have g2 : m.Out.getD v.toNat [] = m.Out[v.toNat] := by simp [hvo]
  obtain ⟨a1, a2⟩ := n4 _ (List.getElem_mem hvn)
  obtain ⟨b1, b2⟩ := n5 _ (List.getElem_mem hvo)
  unfold rowOk
  rw [w2]
  simp only [Bool.and_eq_true, beq_iff_eq, List.all_eq_true, inR_iff]
  refine ⟨⟨⟨by rw [w1, List.length_map, g1]; exact a1, by rw [w1, List.length_map, g1, g2]; omega⟩, fun z hz => ?_⟩, by rw [g2]; exact b2⟩
  rw [w1, List.mem_map] at hz
  obtain ⟨y, hy, rfl⟩ := hz
  obtain ⟨i', z1, z2, z3⟩ := place_in (w3 y hy)
  rw [hn]
  omega
/-- the outputs -/
def outsM (m : Machine) : Int → List Int → List Int
  | _, [] => []
  | q, x :: xs => tab m.Out q x :: outsM m (tab m.Next q x) xs
omit hL hl hf hK in
theorem letters_outs : ∀ (xs : List Int) (q : Int), 0 ≤ q → q < m.Next.length → xs.all (inR (pw p.In)) = true → (lettersM p m q xs).map (fun z => z / pw p.In) = outsM m q xs ∧ ∀ z ∈ lettersM p m q xs, 0 ≤ z ∧ z ≤ 100
  | [], _, _, _, _ => ⟨rfl, fun z hz => by cases hz⟩
  | x :: xs, q, q0, q1, h => by
    rw [List.all_cons, Bool.and_eq_true] at h
    obtain ⟨x0, x1⟩ := inR_iff.1 h.1
    obtain ⟨n1, n2, n3, n4, n5⟩ := machOk_spec hmo
    have pI := pw_le p.In
    have pO := pw_le p.Out
    obtain ⟨_, _, _, t3, t4⟩ := tab_in n4 q0 q1 x0 x1
    obtain ⟨_, _, _, o3, o4⟩ := tab_in n5 q0 (by omega) x0 x1
    obtain ⟨i1, i2⟩ := letters_outs xs (tab m.Next q x) t3 t4 h.2
    have hmul0 : 0 ≤ tab m.Out q x * pw p.In := Int.mul_nonneg o3 (by omega)
    have hmul : tab m.Out q x * pw p.In ≤ 4 * 4 := Int.mul_le_mul (by omega) (by omega) (by omega) (by omega)
    refine ⟨?_, fun z hz => ?_⟩
    · simp only [lettersM, outsM, List.map_cons, i1]
      congr 1
      rw [Int.add_comm, Int.add_mul_ediv_right _ _ (by omega), Int.ediv_eq_zero_of_lt x0 x1]; omega
    · simp only [lettersM] at hz
      rcases List.mem_cons.1 hz with rfl | hz
      · omega
      · exact i2 z hz
include hs
omit hL hl hf hK in
theorem s_outs {xs : List Int} (hx : xs.all (inR (pw p.In)) = true) (hlen : xs.length ≤ 600) : s_OutputsFor p m xs = some (outsM m 0 xs) := by
  obtain ⟨n1, n2, n3, n4, n5⟩ := machOk_spec hmo
  have pI := pw_le p.In
  obtain ⟨l1, l2⟩ := letters_outs hmo xs 0 (by omega) (by omega) hx
  have hll := lettersM_length p m xs 0
  unfold s_OutputsFor s_l29Inputs
  have hd : decide ((xs.length : Int) ≤ 600) = true := decide_eq_true (by omega)
  rw [s_MachineOk_eq, hs, hmo, s_l29Ins, s_l23Power_eq (sigOk_in hs).1, hd]
  simp only [Option.bind_some, Bool.and_self, Bool.not_true, cond_false, cond_true, s_l23Below_eq xs (n := pw p.In) (by omega) (by omega), hx]
  rw [s_l29Letters_eq hmo hs (q := 0) (by omega) (by omega) hx (by omega), Option.bind_some, cnt_map (f := s_OutputsFor_b0 p (lettersM p m 0 xs)) (fun z => z / pw p.In) (xs := lettersM p m 0 xs) (fun i z s hz hsl => by
    have hi := (List.getElem?_eq_some_iff.1 hz).1
    obtain ⟨z0, z1⟩ := l2 z (List.mem_of_getElem? hz)
    have hnz : nz (pw p.In) = some () := by unfold nz; rw [if_neg (by omega)]
    have hd : 0 ≤ z / pw p.In ∧ z / pw p.In ≤ z := ⟨Int.ediv_nonneg z0 (by omega), Int.ediv_le_self _ z0⟩
    unfold s_OutputsFor_b0
    rw [idx_nat, hz, Option.bind_some, s_l29Ins, s_l23Power_eq (sigOk_in hs).1, Option.bind_some, Option.bind_some, hnz, Option.bind_some, tdiv_pos z0, wr' (by omega) (by omega), app1 (by omega) rfl]
    rfl), Option.bind_some, aft_inr, l1]
theorem i_outs {xs : List Int} (hx : xs.all (inR (pw p.In)) = true) (hlen : xs.length ≤ 600) : i_OutputsFor p r xs = some (outsM m 0 xs) := by
  have pI := pw_le p.In
  have hro := kinds_ok hmo hK
  unfold i_OutputsFor i_canRun
  have hd : decide ((xs.length : Int) ≤ 600) = true := decide_eq_true (by omega)
  rw [i_isSig_eq, i_isMachine_eq hs, hs, hro, hd, i_inputsOf_eq hs]
  simp only [Option.bind_some, cond_true, i_areLetters_eq, hx, Bool.not_true, cond_false]
  obtain ⟨s, h1, i, q, h2, h3, h4, h5⟩ := cnt_inv (f := i_OutputsFor_b0 r xs) (fun j (s : List Int × Int) => ∃ (i : Nat) (q : Int), s.2 = (i : Int) ∧ Rel m.Next.length L N i q ∧ s.1 ++ outsM m q (xs.drop j) = outsM m 0 xs ∧ s.1.length = j) xs.length (s := ([], 0)) ⟨0, 0, rfl, rel0 hmo hL hl hK, by simp, rfl⟩ (fun j s hj ⟨i, q, e1, hR, e2, e3⟩ => by
    obtain ⟨acc, i2⟩ := s
    dsimp only at e1 e2 e3
    subst e1
    have hxj : xs[j]? = some (xs[j]'hj) := List.getElem?_eq_getElem hj
    have hd : xs.drop j = xs[j]'hj :: xs.drop (j + 1) := List.drop_eq_getElem_cons hj
    rw [List.all_eq_true] at hx
    obtain ⟨x0, x1⟩ := inR_iff.1 (hx _ (List.getElem_mem hj))
    generalize xs[j]'hj = x at hxj hd x0 x1
    obtain ⟨rowr, rowm, o, i', a1, a2, a3, a4, a5, a6, a7, a8, a9⟩ := rel_row hmo hl hf hK hR x0 x1
    refine ⟨(acc ++ [tab m.Out q x], (i' : Int)), ?_, i', tab m.Next q x, rfl, a8, ?_, by dsimp only; rw [List.length_append, e3]; rfl⟩
    · unfold i_OutputsFor_b0
      dsimp only
      rw [idx_nat, hxj, Option.bind_some, a2, Option.bind_some, a7, Option.bind_some, app1 (by omega) rfl, Option.bind_some, a1, Option.bind_some, a5]
      rfl
    · rw [hd] at e2
      rw [← e2]
      dsimp only
      rw [List.append_assoc]
      rfl)
  rw [h1, Option.bind_some, aft_inr]
  rw [List.drop_length] at h4
  have : outsM m q [] = [] := by cases q <;> rfl
  rw [this, List.append_nil] at h4
  rw [h4]
/-- pairs of states of one kind -/
def Pairs (n : Nat) (L N : List Int) (T : List Int) : Prop := T.Nodup ∧ ∀ z ∈ T, 0 ≤ z ∧ z < ((N.length * n : Nat) : Int) ∧ Rel n L N (dq n z).toNat (ds n z)
theorem same_machine : i_SameMachine p r m = some true := by
  obtain ⟨n1, n2, n3, n4, n5⟩ := machOk_spec hmo
  have pI := pw_le p.In
  have hro := kinds_ok hmo hK
  obtain ⟨r1, r2, r3, r4, r5⟩ := machOk_spec hro
  have hrn := hK.nx
  have hNl := hK.names.len
  have hMb : N.length * m.Next.length ≤ 48 * 48 := Nat.mul_le_mul (by omega) n2
  have hn1 : (1 : Int) ≤ m.Next.length := by omega
  obtain ⟨w, hw⟩ := ex_nat (z := pw p.In) (by omega)
  have z00 : dq (m.Next.length : Int) 0 = 0 ∧ ds (m.Next.length : Int) 0 = 0 := by unfold dq ds; simp
  have hP0 : Pairs m.Next.length L N [0] := by
    refine ⟨by simp, fun z hz => ?_⟩
    have : z = 0 := by simpa using hz
    subst this
    have hpos : 1 * 1 ≤ N.length * m.Next.length := Nat.mul_le_mul (by omega) (by omega)
    rw [z00.1, z00.2]
    exact ⟨by omega, by omega, rel0 hmo hL hl hK⟩
  unfold i_SameMachine
  rw [i_isSig_eq, i_isMachine_eq hs, i_isMachine_eq hs, hs, hro, hmo]
  simp only [Option.bind_some, Bool.not_true, cond_false]
  obtain ⟨o, h1, h2⟩ := while_out (f := i_SameMachine_b0 r m) (fun j (s : List (Int × Int) × Int) => ∃ T, s.1 = prs m.Next.length T ∧ s.2 = (j : Int) ∧ j ≤ T.length ∧ Pairs m.Next.length L N T) (fun _ => False) (fun _ => True) (48 * 48) (fun j s ⟨T, e1, e2, e3, hP⟩ => by
    obtain ⟨od, jj⟩ := s
    dsimp only at e1 e2
    subst e1 e2
    have hTl := nodup_lenN _ T hP.1 (fun z hz => ⟨(hP.2 z hz).1, (hP.2 z hz).2.1⟩)
    have hpl : (prs m.Next.length T).length = T.length := by simp [prs]
    unfold i_SameMachine_b0
    dsimp only
    by_cases hlt : j < T.length
    · have hx : T[j]? = some (T[j]'hlt) := List.getElem?_eq_getElem hlt
      have hxm := hP.2 _ (List.getElem_mem hlt)
      generalize T[j]'hlt = z at hx hxm
      obtain ⟨z0, z1, hR⟩ := hxm
      have hmul : ((N.length * m.Next.length : Nat) : Int) = (N.length : Int) * (m.Next.length : Int) := by simp
      obtain ⟨d0, d1, d2, d3⟩ := d_in (m := (N.length : Int)) hn1 z0 (by omega)
      have c1 : (j : Int) < ((prs m.Next.length T).length : Int) := by omega
      have hp : idx (prs m.Next.length T) (j : Int) = some (dq m.Next.length z, ds m.Next.length z) := by
        unfold prs
        rw [idx_nat, List.getElem?_map, hx]; rfl
      have hdq : dq (m.Next.length : Int) z = ((dq (m.Next.length : Int) z).toNat : Int) := by omega
      obtain ⟨rowr, rowm, o, i', a1, a2, a3, a4, _, _, _, _, a9⟩ := rel_row hmo hl hf hK hR (x := 0) (by omega) (by omega)
      rw [← hdq] at a1 a2
      simp only [c1, decide_true, cond_true, hp, Option.bind_some, a2, a3, slices_Equal_I_int64_eq, decide_true, Bool.not_true, cond_false, a1]
      obtain ⟨s', k1, T', k2, k3, k4⟩ := cnt_inv (f := i_SameMachine_b2 r m (dq m.Next.length z, ds m.Next.length z) (dq m.Next.length z, ds m.Next.length z)) (fun i (s : List (Int × Int)) => ∃ T', s = prs m.Next.length T' ∧ T <+: T' ∧ Pairs m.Next.length L N T') rowr.length (s := prs m.Next.length T) ⟨T, rfl, List.prefix_refl T, hP⟩ (fun i s hi ⟨T', f1, f2, f3⟩ => by
        subst f1
        obtain ⟨rowr', rowm', o', i'', b1, b2, b3, b4, b5, b6, b7, b8, b9⟩ := rel_row hmo hl hf hK hR (x := (i : Int)) (by omega) (by omega)
        rw [← hdq, a1] at b1
        rw [a4] at b4
        cases b1
        cases b4
        obtain ⟨t0, t1, t2⟩ := b8
        have hi'' := (List.getElem?_eq_some_iff.1 t2).1
        obtain ⟨g1, g2⟩ := d_code (n := (m.Next.length : Int)) (q := (i'' : Int)) (s := tab m.Next (ds m.Next.length z) (i : Int)) hn1 t0 t1
        have hct := contains_prs (m.Next.length : Int) T' ((i'' : Int) * (m.Next.length : Int) + tab m.Next (ds m.Next.length z) (i : Int))
        rw [g1, g2] at hct
        have hTl' := nodup_lenN _ T' f3.1 (fun z hz => ⟨(f3.2 z hz).1, (f3.2 z hz).2.1⟩)
        unfold i_SameMachine_b2
        dsimp only
        simp only [a1, a4, b5, b6, Option.bind_some, hct]
        by_cases hy : (i'' : Int) * (m.Next.length : Int) + tab m.Next (ds m.Next.length z) (i : Int) ∈ T'
        · simp only [hy, decide_true, Bool.not_true, cond_false, Option.bind_some]
          exact ⟨_, rfl, T', rfl, f2, f3⟩
        · simp only [hy, decide_false, Bool.not_false, cond_true, Option.bind_some]
          rw [app1 (by simp [prs]; omega) rfl]
          refine ⟨_, rfl, T' ++ [(i'' : Int) * (m.Next.length : Int) + tab m.Next (ds m.Next.length z) (i : Int)], by simp [prs, g1, g2], f2.trans (List.prefix_append ..), ?_, fun y hyy => ?_⟩
          · rw [List.nodup_append]
            refine ⟨f3.1, by simp, fun a ha b hb => ?_⟩
            simp only [List.mem_singleton] at hb
            subst hb
            exact fun e => hy (e ▸ ha)
          · rw [List.mem_append, List.mem_singleton] at hyy
            rcases hyy with hyy | rfl
            · exact f3.2 y hyy
            · have m0 : 0 ≤ (i'' : Int) * (m.Next.length : Int) := Int.mul_nonneg (by omega) (by omega)
              have m1 : ((i'' : Int) + 1) * (m.Next.length : Int) ≤ (N.length : Int) * (m.Next.length : Int) := Int.mul_le_mul_of_nonneg_right (by omega) (by omega)
              rw [Int.add_mul, Int.one_mul] at m1
              refine ⟨by omega, by omega, ?_⟩
              rw [g1, g2, Int.toNat_natCast]
              exact ⟨t0, t1, t2⟩)
      have hpre := k3.length_le
      have hTl'' := nodup_lenN _ T' k4.1 (fun z hz => ⟨(k4.2 z hz).1, (k4.2 z hz).2.1⟩)
      rw [k1, Option.bind_some, aft_inr]
      refine ⟨_, rfl, by omega, T', k2, ?_, by omega, k4⟩
      dsimp only
      rw [wr' (by omega) (by omega)]; omega
    · have c1 : ¬ (j : Int) < ((prs m.Next.length T).length : Int) := by omega
      simp only [c1, decide_false, cond_false]
      exact ⟨_, rfl, trivial⟩) (2 ^ 64) 0 ([(0, 0)], 0) (by omega) ⟨[0], by simp [prs, z00.1, z00.2], rfl, by simp, hP0⟩ (by omega)
  match o, h2 with
  | .inr s, _ => rw [h1]; rfl
end
end Go.Proofs.Ytfmkhnlnomkcfaa
