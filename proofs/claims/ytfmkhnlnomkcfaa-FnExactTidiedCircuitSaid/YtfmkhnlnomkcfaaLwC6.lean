/- The structs opened; the sizes, the copies, the comparisons: plain laws. By program. -/
import Derived.Test.YtfmkhnlnomkcfaaFnsC6M
import Derived.Test.YtfmkhnlnomkcfaaLaw
set_option linter.unusedVariables false
set_option linter.unusedSimpArgs false
namespace Go.Proofs.Ytfmkhnlnomkcfaa
open Go Go.Wk Go.Proofs
set_option maxRecDepth 100000

def Gate.ok (x : Gate) : Prop := I64 x.A ∧ I64 x.B
def Gate.bd (x : Gate) : Prop := True ∧ True
theorem Gate.bdt (x : Gate) : Gate.bd x := by unfold Gate.bd; simp
theorem Gate.opn214 : Opn Try.prog 214 Gate.rp Gate.ok :=
  opn_iso (ok := fun (p : Int × Int) => I64 p.1 ∧ I64 p.2) _ (fun p => ⟨p.1, p.2⟩) (fun _ => rfl) (opn_struct Try.underlying214 rfl (by kernel_rfl) (opnF_cons rfl (by kernel_rfl) (opn_i64 Try.underlying2) (opnF_one rfl (by kernel_rfl) (opn_i64 Try.underlying2))))
def Circuit.ok (x : Circuit) : Prop := I64 x.Inputs ∧ I64 x.Latches ∧ (okS I64) x.Next ∧ (okS Gate.ok) x.Gates ∧ (okS I64) x.Outs
def Circuit.bd (x : Circuit) : Prop := True ∧ True ∧ (List.length x.Next ≤ 1048576 ∧ ∀ y0 ∈ x.Next, True) ∧ (List.length x.Gates ≤ 1048576 ∧ ∀ y0 ∈ x.Gates, Gate.bd y0) ∧ (List.length x.Outs ≤ 1048576 ∧ ∀ y0 ∈ x.Outs, True)
theorem Circuit.opn47 : Opn Try.prog 47 Circuit.rp Circuit.ok :=
  opn_iso (ok := fun (p : Int × Int × (List Int) × (List Go.Proofs.Ytfmkhnlnomkcfaa.Gate) × (List Int)) => I64 p.1 ∧ I64 p.2.1 ∧ (okS I64) p.2.2.1 ∧ (okS Gate.ok) p.2.2.2.1 ∧ (okS I64) p.2.2.2.2) _ (fun p => ⟨p.1, p.2.1, p.2.2.1, p.2.2.2.1, p.2.2.2.2⟩) (fun _ => rfl) (opn_struct Try.underlying47 rfl (by kernel_rfl) (opnF_cons rfl (by kernel_rfl) (opn_i64 Try.underlying2) (opnF_cons rfl (by kernel_rfl) (opn_i64 Try.underlying2) (opnF_cons rfl (by kernel_rfl) (opn_sl Try.underlying22 (by kernel_rfl) rfl (opn_i64 Try.underlying2)) (opnF_cons rfl (by kernel_rfl) (opn_sl Try.underlying45 (by kernel_rfl) rfl Gate.opn214) (opnF_one rfl (by kernel_rfl) (opn_sl Try.underlying22 (by kernel_rfl) rfl (opn_i64 Try.underlying2))))))))
theorem Gate.opn159 : Opn Try.prog 159 Gate.rp Gate.ok :=
  opn_iso (ok := fun (p : Int × Int) => I64 p.1 ∧ I64 p.2) _ (fun p => ⟨p.1, p.2⟩) (fun _ => rfl) (opn_struct Try.underlying159 rfl (by kernel_rfl) (opnF_cons rfl (by kernel_rfl) (opn_i64 Try.underlying2) (opnF_one rfl (by kernel_rfl) (opn_i64 Try.underlying2))))
theorem Circuit.opn57 : Opn Try.prog 57 Circuit.rp Circuit.ok :=
  opn_iso (ok := fun (p : Int × Int × (List Int) × (List Go.Proofs.Ytfmkhnlnomkcfaa.Gate) × (List Int)) => I64 p.1 ∧ I64 p.2.1 ∧ (okS I64) p.2.2.1 ∧ (okS Gate.ok) p.2.2.2.1 ∧ (okS I64) p.2.2.2.2) _ (fun p => ⟨p.1, p.2.1, p.2.2.1, p.2.2.2.1, p.2.2.2.2⟩) (fun _ => rfl) (opn_struct Try.underlying57 rfl (by kernel_rfl) (opnF_cons rfl (by kernel_rfl) (opn_i64 Try.underlying2) (opnF_cons rfl (by kernel_rfl) (opn_i64 Try.underlying2) (opnF_cons rfl (by kernel_rfl) (opn_sl Try.underlying22 (by kernel_rfl) rfl (opn_i64 Try.underlying2)) (opnF_cons rfl (by kernel_rfl) (opn_sl Try.underlying55 (by kernel_rfl) rfl Gate.opn159) (opnF_one rfl (by kernel_rfl) (opn_sl Try.underlying22 (by kernel_rfl) rfl (opn_i64 Try.underlying2))))))))

theorem slices_IndexFunc_I_int64__i_areLetters_1_eq {p0 : (List Int)} {c1_0 : Int} (g : Int → Bool) (hp : ∀ x ∈ p0, i_areLetters_1 x c1_0 = some (g x)) : slices_IndexFunc_I_int64__i_areLetters_1 p0 c1_0 = some (match p0.findIdx? g with | some i => (i : Int) | none => -1) := by
  unfold slices_IndexFunc_I_int64__i_areLetters_1
  rw [cnt_find0 (f := slices_IndexFunc_I_int64__i_areLetters_1_b0 p0 c1_0) g (fun i => (i : Int)) (xs := p0) (fun i x hx => by
    unfold slices_IndexFunc_I_int64__i_areLetters_1_b0
    rw [idx_nat, hx, Option.bind_some, hp x (List.mem_of_getElem? hx), Option.bind_some]
    cases g x <;> rfl), Option.bind_some]
  cases p0.findIdx? g <;> rfl

theorem slices_ContainsFunc_I_int64__i_areLetters_1_eq {p0 : (List Int)} {c1_0 : Int} (g : Int → Bool) (hp : ∀ x ∈ p0, i_areLetters_1 x c1_0 = some (g x)) : slices_ContainsFunc_I_int64__i_areLetters_1 p0 c1_0 = some (p0.any g) := by
  unfold slices_ContainsFunc_I_int64__i_areLetters_1
  rw [slices_IndexFunc_I_int64__i_areLetters_1_eq g hp, Option.bind_some]
  exact congrArg some (findIdx_any g p0)

theorem l_szInt64S_law {x : (List Int)} (ok : (okS I64) x) {m : Int} (h0 : 0 ≤ m) (h1 : m ≤ 1048576) : ∃ v, l_szInt64S x m = some v ∧ v ≤ m ∧ (0 ≤ v → (List.length x ≤ 1048576 ∧ ∀ y0 ∈ x, True)) := by
  have hl := ok.2
  unfold maxLen at hl
  unfold l_szInt64S
  rw [wr' (by omega) (by omega)]
  by_cases h : m - (x.length : Int) < 0
  · exact ⟨-1, by simp [h], by omega, by omega⟩
  · exact ⟨m - (x.length : Int), by simp only [h, decide_false, cond_false], by omega, fun _ => ⟨by omega, fun _ _ => trivial⟩⟩

theorem l_szGateS_law {x : (List Gate)} (ok : (okS Gate.ok) x) {m : Int} (h0 : 0 ≤ m) (h1 : m ≤ 1048576) : ∃ v, l_szGateS x m = some v ∧ v ≤ m ∧ (0 ≤ v → (List.length x ≤ 1048576 ∧ ∀ y0 ∈ x, Gate.bd y0)) := by
  have hl := ok.2
  unfold maxLen at hl
  unfold l_szGateS
  rw [wr' (by omega) (by omega)]
  by_cases h : m - (x.length : Int) < 0
  · exact ⟨-1, by simp [h], by omega, by omega⟩
  · exact ⟨m - (x.length : Int), by simp only [h, decide_false, cond_false], by omega, fun _ => ⟨by omega, fun _ _ => Gate.bdt _⟩⟩

theorem l_szCircuit_law {x : Circuit} (ok : Circuit.ok x) {m : Int} (h0 : 0 ≤ m) (h1 : m ≤ 1048576) : ∃ v, l_szCircuit x m = some v ∧ v ≤ m ∧ (0 ≤ v → Circuit.bd x) := by
  obtain ⟨ok0, ok1, ok2, ok3, ok4⟩ := ok
  unfold l_szCircuit
  obtain ⟨v2, e2, l2, b2⟩ := l_szInt64S_law ok2 (m := m) (by omega) (by omega)
  rw [e2, Option.bind_some]
  by_cases g2 : v2 < 0
  · exact ⟨-1, by simp only [g2, decide_true, cond_true], by omega, by omega⟩
  simp only [g2, decide_false, cond_false]
  obtain ⟨v3, e3, l3, b3⟩ := l_szGateS_law ok3 (m := v2) (by omega) (by omega)
  rw [e3, Option.bind_some]
  by_cases g3 : v3 < 0
  · exact ⟨-1, by simp only [g3, decide_true, cond_true], by omega, by omega⟩
  simp only [g3, decide_false, cond_false]
  obtain ⟨v4, e4, l4, b4⟩ := l_szInt64S_law ok4 (m := v3) (by omega) (by omega)
  rw [e4, Option.bind_some]
  by_cases g4 : v4 < 0
  · exact ⟨-1, by simp only [g4, decide_true, cond_true], by omega, by omega⟩
  simp only [g4, decide_false, cond_false]
  exact ⟨_, rfl, by omega, fun _ => ⟨trivial, trivial, b2 (by omega), b3 (by omega), b4 (by omega)⟩⟩

theorem l_toInt64S_id {x : (List Int)} (h : (List.length x ≤ 1048576 ∧ ∀ y0 ∈ x, True)) : l_toInt64S x = some x := by
  unfold l_toInt64S
  rw [mkS_nat h.1 rfl, Option.bind_some]
  have hm := cnt_map (f := l_toInt64S_b0 x) id (xs := x) (ys := List.replicate x.length 0) (by simp) (fun i y ys hy hi => by
    unfold l_toInt64S_b0
    have hi2 : ys[i]? = some ys[i] := by simp [hi]
    simp only [idx_nat, hy, hi2, Option.bind_some, setI_nat hi, id])
  rw [List.map_id] at hm
  rw [hm]
  rfl

theorem l_toGate_id {x : Gate} (h : Gate.bd x) : l_toGate x = some x := by
  rfl

theorem l_toGateS_id {x : (List Gate)} (h : (List.length x ≤ 1048576 ∧ ∀ y0 ∈ x, Gate.bd y0)) : l_toGateS x = some x := by
  unfold l_toGateS
  rw [mkS_nat h.1 rfl, Option.bind_some]
  have hm := cnt_map (f := l_toGateS_b0 x) id (xs := x) (ys := List.replicate x.length ⟨0, 0⟩) (by simp) (fun i y ys hy hi => by
    unfold l_toGateS_b0
    have hi2 : ys[i]? = some ys[i] := by simp [hi]
    simp only [idx_nat, hy, hi2, Option.bind_some, l_toGate_id (h.2 y (List.mem_of_getElem? hy)), setI_nat hi, id])
  rw [List.map_id] at hm
  rw [hm]
  rfl

theorem l_toCircuit_id {x : Circuit} (h : Circuit.bd x) : l_toCircuit x = some x := by
  obtain ⟨h0, h1, h2, h3, h4⟩ := h
  unfold l_toCircuit
  simp only [l_toInt64S_id h2, l_toGateS_id h3, l_toInt64S_id h4, Option.bind_some]

theorem l_eqInt64S_refl (x : (List Int)) : l_eqInt64S x x = some true := by
  unfold l_eqInt64S
  have hm := cnt_all0 (f := l_eqInt64S_b0 x x) (r := false) (fun _ => true) (xs := x) rfl (fun i y hy => by
    unfold l_eqInt64S_b0
    simp [idx_nat, hy])
  simp [hm, aft]

theorem l_eqGate_refl (x : Gate) : l_eqGate x x = some true := by
  simp [l_eqGate]

theorem l_eqGateS_refl (x : (List Gate)) : l_eqGateS x x = some true := by
  unfold l_eqGateS
  have hm := cnt_all0 (f := l_eqGateS_b0 x x) (r := false) (fun _ => true) (xs := x) rfl (fun i y hy => by
    unfold l_eqGateS_b0
    simp [idx_nat, hy, l_eqGate_refl])
  simp [hm, aft]

theorem l_eqCircuit_refl (x : Circuit) : l_eqCircuit x x = some true := by
  simp [l_eqCircuit, l_eqInt64S_refl, l_eqGateS_refl, l_eqInt64S_refl]

theorem l_markInt64S_law {x : (List Int)} {k : Int} (h0 : 0 ≤ k) (h1 : k + (ctL (fun _ => 1) x : Nat) ≤ 4611686018427387904) : l_markInt64S x k = some (k + (ctL (fun _ => 1) x : Nat), mkL (fun _ => 1) (fun k _ => k) k x) := by
  unfold l_markInt64S
  rw [cnt_mark0 (fun _ => 1) (fun k _ => k) 4611686018427387904 (fun i x k ys hx h0 h1 => by
    unfold l_markInt64S_b0
    simp only [idx_nat, hx, Option.bind_some]
    have hi := (List.getElem?_eq_some_iff.1 hx).1
    have h1 : k + 1 ≤ 4611686018427387904 := h1
    rw [setI_nat hi, Option.bind_some, wr' (by omega) (by omega)]
    rfl) h0 h1]
  rfl

theorem l_markGateS_law {x : (List Gate)} {k : Int} (h0 : 0 ≤ k) (h1 : k + (ctL (fun _ => 2) x : Nat) ≤ 4611686018427387904) : l_markGateS x k = some (k + (ctL (fun _ => 2) x : Nat), mkL (fun _ => 2) (fun k _ => ⟨k, k + 1⟩) k x) := by
  unfold l_markGateS
  rw [cnt_mark0 (fun _ => 2) (fun k _ => ⟨k, k + 1⟩) 4611686018427387904 (fun i x k ys hx h0 h1 => by
    unfold l_markGateS_b0
    have hi := (List.getElem?_eq_some_iff.1 hx).1
    have h1 : k + 2 ≤ 4611686018427387904 := h1
    simp (disch := first | omega | simpa using hi) only [idx_nat, hx, Option.bind_some, setI_nat, List.getElem?_set_self, wr', Int.add_assoc, List.set_set]
    rfl) h0 h1]
  rfl

theorem l_markCircuit_law {x : Circuit} {k : Int} (h0 : 0 ≤ k) (h1 : k + ((ctL (fun _ => 1)) x.Next : Nat) + ((ctL (fun _ => 2)) x.Gates : Nat) + ((ctL (fun _ => 1)) x.Outs : Nat) ≤ 4611686018427387904) : l_markCircuit x k = some (k + ((ctL (fun _ => 1)) x.Next : Nat) + ((ctL (fun _ => 2)) x.Gates : Nat) + ((ctL (fun _ => 1)) x.Outs : Nat), (mkL (fun _ => 1) (fun k _ => k)) (k) x.Next, (mkL (fun _ => 2) (fun k _ => ⟨k, k + 1⟩)) (k + ((ctL (fun _ => 1)) x.Next : Nat)) x.Gates, (mkL (fun _ => 1) (fun k _ => k)) (k + ((ctL (fun _ => 1)) x.Next : Nat) + ((ctL (fun _ => 2)) x.Gates : Nat)) x.Outs) := by
  unfold l_markCircuit
  simp (disch := omega) only [l_markGateS_law, l_markInt64S_law, Option.bind_some]

theorem l_heldInt64S_law {x : (List Int)} {k : Int} (h0 : 0 ≤ k) (h1 : k + (ctL (fun _ => 1) x : Nat) ≤ 4611686018427387904) : l_heldInt64S (mkL (fun _ => 1) (fun k _ => k) k x) k = some (k + (ctL (fun _ => 1) x : Nat)) := by
  unfold l_heldInt64S
  rw [cnt_held0 (fun _ => 1) (fun k _ => k) 4611686018427387904 (fun i x k' hx h0 h1 => by
    unfold l_heldInt64S_b0
    have h1 : k' + 1 ≤ 4611686018427387904 := h1
    simp only [idx_nat, hx, Option.bind_some, bne_self_eq_false, cond_false]
    rw [wr' (by omega) (by omega)]
    rfl) h0 h1]
  rfl

theorem l_heldGateS_law {x : (List Gate)} {k : Int} (h0 : 0 ≤ k) (h1 : k + (ctL (fun _ => 2) x : Nat) ≤ 4611686018427387904) : l_heldGateS (mkL (fun _ => 2) (fun k _ => ⟨k, k + 1⟩) k x) k = some (k + (ctL (fun _ => 2) x : Nat)) := by
  unfold l_heldGateS
  rw [cnt_held0 (fun _ => 2) (fun k _ => ⟨k, k + 1⟩) 4611686018427387904 (fun i x k' hx h0 h1 => by
    unfold l_heldGateS_b0
    have h1 : k' + 2 ≤ 4611686018427387904 := h1
    simp (disch := omega) only [idx_nat, hx, Option.bind_some, bne_self_eq_false, cond_false, wr', Int.add_assoc, Int.reduceAdd]
    rfl) h0 h1]
  rfl

theorem l_heldCircuit_law {x : Circuit} {k : Int} (h0 : 0 ≤ k) (h1 : k + ((ctL (fun _ => 1)) x.Next : Nat) + ((ctL (fun _ => 2)) x.Gates : Nat) + ((ctL (fun _ => 1)) x.Outs : Nat) ≤ 4611686018427387904) : l_heldCircuit (⟨x.Inputs, x.Latches, ((mkL (fun _ => 1) (fun k _ => k)) (k) x.Next), ((mkL (fun _ => 2) (fun k _ => ⟨k, k + 1⟩)) (k + ((ctL (fun _ => 1)) x.Next : Nat)) x.Gates), ((mkL (fun _ => 1) (fun k _ => k)) (k + ((ctL (fun _ => 1)) x.Next : Nat) + ((ctL (fun _ => 2)) x.Gates : Nat)) x.Outs)⟩ : Circuit) k = some (k + ((ctL (fun _ => 1)) x.Next : Nat) + ((ctL (fun _ => 2)) x.Gates : Nat) + ((ctL (fun _ => 1)) x.Outs : Nat)) := by
  unfold l_heldCircuit
  simp (disch := omega) only [l_heldGateS_law, l_heldInt64S_law, Option.bind_some, dlt, cond_false]

theorem FnExactTidiedCircuit_of {p0 : Circuit} (ok0 : Circuit.ok p0) (hm : Circuit.bd p0 → ∃ (r0 : Circuit), s_TidiedCircuit p0 = some r0 ∧ i_TidiedCircuit p0 = some r0 ∧ ((ctL (fun _ => 1)) r0.Next : Nat) ≤ 1000000000000000 ∧ ((ctL (fun _ => 2)) r0.Gates : Nat) ≤ 1000000000000000 ∧ ((ctL (fun _ => 1)) r0.Outs : Nat) ≤ 1000000000000000) : l_FnExactTidiedCircuit p0 = some true := by
  unfold l_FnExactTidiedCircuit
  obtain ⟨v0, e0, l0, b0⟩ := l_szCircuit_law ok0 (m := 1048576) (by omega) (by omega)
  rw [e0, Option.bind_some]
  by_cases g0 : v0 < 0
  · simp only [g0, decide_true, cond_true]
  simp only [g0, decide_false, cond_false]
  have b0 := b0 (by omega)
  obtain ⟨r0, hs, hi, c0, c1, c2⟩ := hm b0
  have d0 := b0
  have c0_0 : ((ctL (fun _ => 1)) p0.Next : Nat) ≤ 1048576 := (ctL_bd b0.2.2.1.1 fun _ _ => Nat.le_refl 1)
  have c0_1 : ((ctL (fun _ => 2)) p0.Gates : Nat) ≤ 2097152 := (ctL_bd b0.2.2.2.1.1 fun _ _ => Nat.le_refl 2)
  have c0_2 : ((ctL (fun _ => 1)) p0.Outs : Nat) ≤ 1048576 := (ctL_bd b0.2.2.2.2.1 fun _ _ => Nat.le_refl 1)
  simp (disch := omega) only [l_toCircuit_id b0, l_eqCircuit_refl, l_markCircuit_law, l_heldCircuit_law, hs, hi, Option.bind_some, cond_true, cond_false, Bool.not_true, Bool.not_false, bne_self_eq_false, dlt]

end Go.Proofs.Ytfmkhnlnomkcfaa
