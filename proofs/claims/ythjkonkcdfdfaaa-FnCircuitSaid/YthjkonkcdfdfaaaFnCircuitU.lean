/- FnCircuit: the law. -/
import Derived.Test.YthjkonkcdfdfaaaCmCU
import Derived.Test.YthjkonkcdfdfaaaCmDU
set_option linter.unusedVariables false
set_option linter.unusedSimpArgs false
namespace Go.Proofs.Ythjkonkcdfdfaaa
open Go Go.Wk Go.Proofs

theorem circuitOf_no {p : Sig} {m : Machine} (h : (sigOk p && machOk p m) = false) : i_CircuitOf p m = some (⟨0, 0, [], [], []⟩, false) := by
  unfold i_CircuitOf
  rw [i_isSig_eq]
  cases hs : sigOk p with
  | false => rfl
  | true =>
    rw [hs] at h
    simp only [Option.bind_some, Bool.not_true, cond_false]
    rw [i_isMachine_eq hs]
    cases hm : machOk p m with
    | false => rfl
    | true => rw [hm] at h; cases h
theorem tab_of {T : List (List Int)} {b i : Nat} {row : List Int} {k : Int} (h1 : T[b]? = some row) (h2 : row[i]? = some k) : tab T b i = k := by
  unfold tab
  rw [Int.toNat_natCast, Int.toNat_natCast, List.getD_eq_getElem?_getD, List.getD_eq_getElem?_getD, h1, Option.getD_some, h2, Option.getD_some]
theorem back_ok {p : Sig} {m : Machine} (hs : sigOk p = true) (hm : machOk p m = true) {od : List Int} {back : Machine} (hN : Names m.Next.length od) (h0 : od[0]? = some 0) (hl : back.Next.length = od.length) (hl' : back.Out.length = od.length) (hR : RowsOk m (pw p.In) od back.Next back.Out) : machOk p back = true := by
  obtain ⟨n1, n2, n3, n4, n5⟩ := machOk_spec hm
  have hlen := hN.len
  have h1 := (List.getElem?_eq_some_iff.1 h0).1
  unfold machOk
  simp only [Bool.and_eq_true, decide_eq_true_eq, beq_iff_eq]
  refine ⟨⟨⟨by omega, by omega⟩, by omega⟩, ?_⟩
  rw [List.all_eq_true]
  intro x hx
  obtain ⟨row, r⟩ := x
  rw [List.mem_zipIdx_iff_getElem?] at hx
  have hx : back.Next[r]? = some row := hx
  obtain ⟨a, row', orow, z1, z2, z3, z4, z5, z6⟩ := hR r (List.getElem?_eq_some_iff.1 hx).1
  rw [hx] at z2
  cases z2
  have ha := hN.2 _ (List.mem_of_getElem? z1)
  unfold rowOk
  simp only [z3, Bool.and_eq_true, beq_iff_eq, List.all_eq_true]
  refine ⟨⟨⟨z4, by omega⟩, fun y hy => ?_⟩, fun y hy => ?_⟩
  · obtain ⟨i, hi⟩ := List.mem_iff_getElem?.1 hy
    have hi' := (List.getElem?_eq_some_iff.1 hi).1
    obtain ⟨k, y1, y2, _⟩ := z6 i (by omega)
    rw [hi] at y1
    cases y1
    have := (List.getElem?_eq_some_iff.1 y2).1
    exact inR_iff.2 ⟨by omega, by omega⟩
  · obtain ⟨i, hi⟩ := List.mem_iff_getElem?.1 hy
    have hi' := (List.getElem?_eq_some_iff.1 hi).1
    obtain ⟨k, y1, y2, y3⟩ := z6 i (by omega)
    rw [hi] at y3
    cases y3
    obtain ⟨_, _, _, t0, t1⟩ := tab_in n5 (q := (a : Int)) (i := (i : Int)) (by omega) (by omega) (by omega) (by omega)
    exact inR_iff.2 ⟨t0, t1⟩
theorem FnCircuit_law {p0 : List Int} (ok0 : okS U8 p0) : l_FnCircuit p0 = some true := by
  unfold l_FnCircuit l_big
  rw [Option.bind_some]
  by_cases hbig : 4096 < (p0.length : Int)
  · simp only [hbig, decide_true, cond_true]
  · simp only [hbig, decide_false, cond_false]
    have hlen : p0.length ≤ 4096 := by omega
    obtain ⟨p, m, e0⟩ := circuitOf_d hlen
    rw [e0, Option.bind_some]
    dsimp only
    rw [s_MachineOk_eq]
    cases hok : (sigOk p && machOk p m) with
    | false =>
      rw [circuitOf_no hok]
      rfl
    | true =>
      obtain ⟨hs, hm⟩ := Bool.and_eq_true_iff.1 hok
      obtain ⟨n1, n2, n3, n4, n5⟩ := machOk_spec hm
      have pI := pw_le p.In
      obtain ⟨c, e1, S⟩ := circuitOf_sem hs hm
      have hR0 : ∀ a i : Nat, a < m.Next.length → (i : Int) < pw p.In → 0 ≤ tab m.Next a i ∧ tab m.Next a i < m.Next.length := fun a i ha hi => by
        obtain ⟨_, _, _, t0, t1⟩ := tab_in n4 (q := (a : Int)) (i := (i : Int)) (by omega) (by omega) (by omega) hi
        exact ⟨t0, t1⟩
      obtain ⟨q1, q2⟩ := meets_of hs hm S hm (fun a b => a = b ∧ a < m.Next.length) ⟨rfl, by omega⟩ (fun a b ⟨hab, ha⟩ => by
        subst hab
        refine ⟨ha, ha, fun i hi => ⟨⟨rfl, ?_⟩, rfl⟩⟩
        have := hR0 a i ha hi
        omega)
      obtain ⟨od, back, f1, f2, f3, f4, f5, f6⟩ := machine_of hs hm S
      have hbk := back_ok hs hm f2 f3 f4 f5 f6
      obtain ⟨q3, _⟩ := meets_of hs hm S hbk (fun a b => od[b]? = some (a : Int)) f3 (fun a b hab => by
        have hb := (List.getElem?_eq_some_iff.1 hab).1
        have ha := f2.2 _ (List.mem_of_getElem? hab)
        refine ⟨by omega, by omega, fun i hi => ?_⟩
        obtain ⟨a', row, orow, z1, z2, z3, z4, z5, z6⟩ := f6 b (by omega)
        rw [hab] at z1
        have : a = a' := by have := Option.some.inj z1; omega
        subst this
        obtain ⟨k, y1, y2, y3⟩ := z6 i hi
        rw [tab_of z2 y1, tab_of z3 y3, Int.toNat_natCast]
        have := hR0 a i (by omega) hi
        exact ⟨by rw [y2, Int.toNat_of_nonneg this.1], rfl⟩)
      have hcok := S.1
      rw [e1, Option.bind_some, Option.bind_some]
      have hbe : ∀ b : Bool, (b != b) = false := fun b => by cases b <;> rfl
      simp only [hbe, cond_false, Bool.not_true]
      rw [s_CircuitOk_eq, hcok]
      simp only [Option.bind_some, Bool.not_true, cond_false, q1, q2, f1]
      rw [s_MachineOk_eq, hs, hbk]
      simp only [Option.bind_some, Bool.not_true, cond_false, Bool.and_self, q3]
      -- the word
      obtain ⟨h, g0⟩ := roll_d (b := p0) 35
      obtain ⟨k0, i1, h1, g1, u0, u1, c1⟩ := dice_d hlen ok0.1 (i := 0) (h := h) (show Cur 0 by unfold Cur; omega) (n := 10) (by omega)
      rw [g0, Option.bind_some, g1, Option.bind_some]
      dsimp only
      obtain ⟨o, w1, w2⟩ := while_out (f := l_FnCircuit_b0 ⟨p0, 0, h⟩) (fun j (s : List Int × Int × Int × Int) => s.2.1 = k0 - (j : Int) ∧ 0 ≤ s.2.1 ∧ s.1.length = j ∧ (∀ x ∈ s.1, 0 ≤ x ∧ x < 2) ∧ Cur s.2.2.1) (fun _ => False) (fun s => s.1.length ≤ 9 ∧ ∀ x ∈ s.1, 0 ≤ x ∧ x < 2) 9 (fun j s ⟨z1, z2, z3, z4, z5⟩ => by
        unfold l_FnCircuit_b0
        by_cases hlt : 0 < s.2.1
        · obtain ⟨x, i2, h2, g2, x0, x1, c2⟩ := dice_d hlen ok0.1 (h := s.2.2.2) z5 (n := 2) (by omega)
          simp only [hlt, decide_true, cond_true, g2, Option.bind_some]
          rw [app1 (by omega) rfl]
          refine ⟨_, rfl, by omega, ?_, ?_, by dsimp only; rw [List.length_append, z3]; rfl, fun y hy => ?_, c2⟩
          · dsimp only; rw [wr' (by omega) (by omega)]; omega
          · dsimp only; rw [wr' (by omega) (by omega)]; omega
          · rcases List.mem_append.1 hy with hy | hy
            · exact z4 y hy
            · rw [List.mem_singleton.1 hy]; exact ⟨x0, x1⟩
        · simp only [hlt, decide_false, cond_false]
          exact ⟨_, rfl, by dsimp only; omega, z4⟩)
        (2 ^ 64) 0 ([], k0, i1, h1) (by omega) ⟨by dsimp only; omega, u0, rfl, by simp, c1⟩ (by omega)
      match o, w2 with
      | .inr s, ⟨l9, hx⟩ =>
        obtain ⟨ins, k, i2, h2⟩ := s
        dsimp only at l9 hx
        rw [w1, Option.bind_some, aft_inr]
        dsimp only
        -- its run
        have hrun : ∀ j : Nat, j ≤ ins.length → 0 ≤ (ins.take j).foldl (fun s x => tab m.Next s x) 0 ∧ (ins.take j).foldl (fun s x => tab m.Next s x) 0 < m.Next.length := by
          intro j
          induction j with
          | zero => intro _; exact ⟨Int.le_refl 0, by show (0 : Int) < _; omega⟩
          | succ j ih =>
            intro hj
            obtain ⟨r0, r1⟩ := ih (by omega)
            have hxj : ins[j]? = some (ins[j]'(by omega)) := List.getElem?_eq_getElem (by omega)
            obtain ⟨x0, x1⟩ := hx _ (List.getElem_mem (show j < ins.length by omega))
            rw [List.take_add_one, hxj]
            simp only [Option.toList_some, List.foldl_append, List.foldl_cons, List.foldl_nil]
            obtain ⟨_, _, _, t0, t1⟩ := tab_in n4 (q := (ins.take j).foldl (fun s x => tab m.Next s x) 0) (i := ins[j]'(by omega)) r0 (by omega) x0 (by omega)
            exact ⟨t0, t1⟩
        have hrs : ∀ (j : Nat) x, ins[j]? = some x → (ins.take (j + 1)).foldl (fun s x => tab m.Next s x) 0 = tab m.Next ((ins.take j).foldl (fun s x => tab m.Next s x) 0) x := fun j x hxj => by
          rw [List.take_add_one, hxj]
          simp only [Option.toList_some, List.foldl_append, List.foldl_cons, List.foldl_nil]
        have hstep : ∀ (l x : Int), 0 ≤ l → l < m.Next.length → 0 ≤ x → x < 2 → i_stepOf c l x = some (tab m.Next l x, tab m.Out l x) := fun l x l0 l1 x0 x1 => by
          obtain ⟨l', rfl⟩ := ex_nat l0
          obtain ⟨x', rfl⟩ := ex_nat x0
          exact S.2.2.2 l' x' (by omega) (by omega)
        have hcin := circHead_in (circOk_spec hcok).1
        obtain ⟨outs, v1, v2, v3⟩ : ∃ outs, i_OutsOver c ins = some outs ∧ outs.length = ins.length ∧ ∀ (y : Nat) x, ins[y]? = some x → outs[y]? = some (tab m.Out ((ins.take y).foldl (fun s x => tab m.Next s x) 0) x) := by
          have hnn : nn c.Inputs = some () := by unfold nn; rw [if_neg (by omega)]
          have hsh := (shl_int hcin.1 (by omega : c.Inputs ≤ 40)).2
          have hpw := (pow_pw hs).2
          have hin : c.Inputs = p.In := S.2.1
          have hle : ins.all (inR (pw p.In)) = true := by
            rw [List.all_eq_true]
            intro x hxm
            have := hx x hxm
            exact inR_iff.2 ⟨this.1, by omega⟩
          have h64 : ¬ 64 < (ins.length : Int) := by omega
          unfold i_OutsOver
          rw [i_isCircuit_eq, hcok]
          simp only [Option.bind_some, Bool.not_true, cond_false, h64, decide_false, hnn, hsh, i_areLetters_eq]
          rw [hin, hpw, hle]
          simp only [Option.bind_some, Bool.not_true, cond_false]
          obtain ⟨s', r1, r2, r3, r4⟩ := cnt_inv (f := i_OutsOver_b0 c ins) (fun j (s : List Int × Int) => s.2 = (ins.take j).foldl (fun s x => tab m.Next s x) 0 ∧ s.1.length = j ∧ ∀ (y : Nat) x, y < j → ins[y]? = some x → s.1[y]? = some (tab m.Out ((ins.take y).foldl (fun s x => tab m.Next s x) 0) x)) ins.length (s := ([], 0)) ⟨rfl, rfl, fun y x hy => by omega⟩ (fun j s hj ⟨a1, a2, a3⟩ => by
            have hxj : ins[j]? = some (ins[j]'hj) := List.getElem?_eq_getElem hj
            obtain ⟨x0, x1⟩ := hx _ (List.getElem_mem hj)
            generalize ins[j]'hj = x at hxj x0 x1
            obtain ⟨r0, r1⟩ := hrun j (by omega)
            obtain ⟨outs, l⟩ := s
            dsimp only at a1 a2 a3
            subst a1
            unfold i_OutsOver_b0
            dsimp only
            rw [idx_nat, hxj, Option.bind_some, hstep _ _ r0 r1 x0 x1, Option.bind_some, app1 (by omega) rfl]
            refine ⟨_, rfl, (hrs j x hxj).symm, by dsimp only; rw [List.length_append, a2]; rfl, fun y z hy hz => ?_⟩
            dsimp only
            by_cases hyj : y < j
            · rw [List.getElem?_append_left (by omega)]; exact a3 y z hyj hz
            · have : y = j := by omega
              subst this
              rw [hxj] at hz
              cases hz
              rw [List.getElem?_append_right (by omega), a2, Nat.sub_self]; rfl)
          rw [r1, Option.bind_some, aft_inr]
          exact ⟨_, rfl, r3, fun y x hy => r4 y x (List.getElem?_eq_some_iff.1 hy).1 hy⟩
        have hlne : ((outs.length : Int) != (ins.length : Int)) = false := by rw [v2]; simp
        rw [v1, Option.bind_some]
        simp only [hlne, cond_false]
        obtain ⟨s', r1, _⟩ := cnt_inv (f := l_FnCircuit_b2 (p, m) (ins, k, i2, h2) outs) (fun j (s : Int) => s = (ins.take j).foldl (fun s x => tab m.Next s x) 0) ins.length (s := 0) rfl (fun j s hj hsj => by
          subst hsj
          have hxj : ins[j]? = some (ins[j]'hj) := List.getElem?_eq_getElem hj
          obtain ⟨x0, x1⟩ := hx _ (List.getElem_mem hj)
          generalize ins[j]'hj = x at hxj x0 x1
          obtain ⟨r0, r1⟩ := hrun j (by omega)
          obtain ⟨row, y1, y2, _⟩ := tab_in n4 (q := (ins.take j).foldl (fun s x => tab m.Next s x) 0) (i := x) r0 r1 x0 (by omega)
          obtain ⟨orow, y3, y4, _⟩ := tab_in n5 (q := (ins.take j).foldl (fun s x => tab m.Next s x) 0) (i := x) r0 (by omega) x0 (by omega)
          unfold l_FnCircuit_b2
          dsimp only
          simp only [idx_nat, v3 j x hxj, hxj, y1, y2, y3, y4, Option.bind_some, bne_self_eq_false, cond_false]
          exact ⟨_, rfl, (hrs j x hxj).symm⟩)
        rw [r1]
        rfl
end Go.Proofs.Ythjkonkcdfdfaaa
