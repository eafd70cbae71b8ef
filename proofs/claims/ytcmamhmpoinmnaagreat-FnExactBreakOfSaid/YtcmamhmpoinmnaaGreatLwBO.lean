/- The structs opened; the sizes, the copies, the comparisons: plain laws. By program. -/
import Derived.Test.YtcmamhmpoinmnaaGreatFnsMBO
import Derived.Test.YtcmamhmpoinmnaaGreatLawBO
set_option linter.unusedVariables false
set_option linter.unusedSimpArgs false
namespace Go.Proofs.YtcmamhmpoinmnaaGreat
open Go Go.Wk Go.Proofs
set_option maxRecDepth 100000
def Machine.ok (x : Machine) : Prop := (okS (okS I64)) x.Next ∧ (okS (okS I64)) x.Out
def Machine.bd (x : Machine) : Prop := (List.length x.Next ≤ 1048576 ∧ ∀ y0 ∈ x.Next, (List.length y0 ≤ 1048576 ∧ ∀ y1 ∈ y0, True)) ∧ (List.length x.Out ≤ 1048576 ∧ ∀ y0 ∈ x.Out, (List.length y0 ≤ 1048576 ∧ ∀ y1 ∈ y0, True))
theorem Machine.opn26 : Opn Tryz.prog 26 Machine.rp Machine.ok :=
 opn_iso (ok := fun (p : (List (List Int)) × (List (List Int))) => (okS (okS I64)) p.1 ∧ (okS (okS I64)) p.2) _ (fun p => ⟨p.1, p.2⟩) (fun _ => rfl) (opn_struct Tryz.underlying26 rfl (by kernel_rfl) (opnF_cons rfl (by kernel_rfl) (opn_sl Tryz.underlying24 (by kernel_rfl) rfl (opn_sl Tryz.underlying40 (by kernel_rfl) rfl (opn_i64 Tryz.underlying2))) (opnF_one rfl (by kernel_rfl) (opn_sl Tryz.underlying24 (by kernel_rfl) rfl (opn_sl Tryz.underlying40 (by kernel_rfl) rfl (opn_i64 Tryz.underlying2))))))
def Clause.ok (x : Clause) : Prop := I64 x.Kind ∧ (okS I64) x.A ∧ (okS I64) x.B
def Clause.bd (x : Clause) : Prop := True ∧ (List.length x.A ≤ 1048576 ∧ ∀ y0 ∈ x.A, True) ∧ (List.length x.B ≤ 1048576 ∧ ∀ y0 ∈ x.B, True)
theorem Clause.opn78 : Opn Tryz.prog 78 Clause.rp Clause.ok :=
 opn_iso (ok := fun (p : Int × (List Int) × (List Int)) => I64 p.1 ∧ (okS I64) p.2.1 ∧ (okS I64) p.2.2) _ (fun p => ⟨p.1, p.2.1, p.2.2⟩) (fun _ => rfl) (opn_struct Tryz.underlying78 rfl (by kernel_rfl) (opnF_cons rfl (by kernel_rfl) (opn_i64 Tryz.underlying2) (opnF_cons rfl (by kernel_rfl) (opn_sl Tryz.underlying40 (by kernel_rfl) rfl (opn_i64 Tryz.underlying2)) (opnF_one rfl (by kernel_rfl) (opn_sl Tryz.underlying40 (by kernel_rfl) rfl (opn_i64 Tryz.underlying2))))))
def Sig.ok (x : Sig) : Prop := I64 x.In ∧ I64 x.Out
def Sig.bd (x : Sig) : Prop := True ∧ True
theorem Sig.bdt (x : Sig) : Sig.bd x := by unfold Sig.bd; simp
theorem Sig.opn23 : Opn Tryz.prog 23 Sig.rp Sig.ok :=
 opn_iso (ok := fun (p : Int × Int) => I64 p.1 ∧ I64 p.2) _ (fun p => ⟨p.1, p.2⟩) (fun _ => rfl) (opn_struct Tryz.underlying23 rfl (by kernel_rfl) (opnF_cons rfl (by kernel_rfl) (opn_i64 Tryz.underlying2) (opnF_one rfl (by kernel_rfl) (opn_i64 Tryz.underlying2))))
def Word.ok (x : Word) : Prop := (okS I64) x.Stem ∧ (okS I64) x.Loop
def Word.bd (x : Word) : Prop := (List.length x.Stem ≤ 1048576 ∧ ∀ y0 ∈ x.Stem, True) ∧ (List.length x.Loop ≤ 1048576 ∧ ∀ y0 ∈ x.Loop, True)
theorem slices_IndexFunc_I_int64__i_areLetters_1_eq {p0 : (List Int)} {c1_0 : Int} (g : Int → Bool) (hp : ∀ x ∈ p0, i_areLetters_1 x c1_0 = some (g x)) : slices_IndexFunc_I_int64__i_areLetters_1 p0 c1_0 = some (match p0.findIdx? g with | some i => (i : Int) | none => -1) := by
 unfold slices_IndexFunc_I_int64__i_areLetters_1
 rw [cnt_find0 (f := slices_IndexFunc_I_int64__i_areLetters_1_b0 p0 c1_0) g (fun i => (i : Int)) (xs := p0) (fun i x hx => by
  unfold slices_IndexFunc_I_int64__i_areLetters_1_b0
  rw [idx_nat, hx, Option.bind_some, hp x (List.mem_of_getElem? hx), Option.bind_some]
  cases g x <;> rfl), Option.bind_some]
 cases p0.findIdx? g <;> rfl
theorem slices_ContainsFunc_I_int64__i_areLetters_1_eq {p0 : (List Int)} {c1_0 : Int} (g : Int → Bool) (hp : ∀ x ∈ p0, i_areLetters_1 x c1_0 = some (g x)) : slices_ContainsFunc_I_int64__i_areLetters_1 p0 c1_0 = some (p0.any g) := by
 unfold slices_ContainsFunc_I_int64__i_areLetters_1
 rw [slices_IndexFunc_I_int64__i_areLetters_1_eq g hp, Option.bind_some]
 exact congrArg some (findIdx_any g p0)
theorem slices_IndexFunc_i_Clause_i_Clause__i_areClauses_1_eq {p0 : (List Clause)} {c1_0 : Sig} (g : Clause → Bool) (hp : ∀ x ∈ p0, i_areClauses_1 x c1_0 = some (g x)) : slices_IndexFunc_i_Clause_i_Clause__i_areClauses_1 p0 c1_0 = some (match p0.findIdx? g with | some i => (i : Int) | none => -1) := by
 unfold slices_IndexFunc_i_Clause_i_Clause__i_areClauses_1
 rw [cnt_find0 (f := slices_IndexFunc_i_Clause_i_Clause__i_areClauses_1_b0 p0 c1_0) g (fun i => (i : Int)) (xs := p0) (fun i x hx => by
  unfold slices_IndexFunc_i_Clause_i_Clause__i_areClauses_1_b0
  rw [idx_nat, hx, Option.bind_some, hp x (List.mem_of_getElem? hx), Option.bind_some]
  cases g x <;> rfl), Option.bind_some]
 cases p0.findIdx? g <;> rfl
theorem slices_ContainsFunc_i_Clause_i_Clause__i_areClauses_1_eq {p0 : (List Clause)} {c1_0 : Sig} (g : Clause → Bool) (hp : ∀ x ∈ p0, i_areClauses_1 x c1_0 = some (g x)) : slices_ContainsFunc_i_Clause_i_Clause__i_areClauses_1 p0 c1_0 = some (p0.any g) := by
 unfold slices_ContainsFunc_i_Clause_i_Clause__i_areClauses_1
 rw [slices_IndexFunc_i_Clause_i_Clause__i_areClauses_1_eq g hp, Option.bind_some]
 exact congrArg some (findIdx_any g p0)
theorem slices_Index_I_int64_eq (p0 : List Int) (p1 : Int) : slices_Index_I_int64 p0 p1 = some (match p0.findIdx? (fun x => p1 == x) with | some i => (i : Int) | none => -1) := by
 unfold slices_Index_I_int64
 rw [cnt_find0 (f := slices_Index_I_int64_b0 p0 p1) (fun x => p1 == x) (fun i => (i : Int)) (xs := p0) (fun i x hx => by
  unfold slices_Index_I_int64_b0
  simp only [idx_nat, hx, Option.bind_some]
  cases p1 == x <;> rfl), Option.bind_some]
 cases p0.findIdx? (fun x => p1 == x) <;> rfl
theorem slices_Contains_I_int64_eq (p0 : List Int) (p1 : Int) : slices_Contains_I_int64 p0 p1 = some (p0.any (fun x => p1 == x)) := by
 unfold slices_Contains_I_int64
 rw [slices_Index_I_int64_eq, Option.bind_some]
 exact congrArg some (findIdx_any _ p0)
theorem l_szInt64S_law {x : (List Int)} (ok : (okS I64) x) {m : Int} (h0 : 0 ≤ m) (h1 : m ≤ 1048576) : ∃ v, l_szInt64S x m = some v ∧ v ≤ m ∧ (0 ≤ v → (List.length x ≤ 1048576 ∧ ∀ y0 ∈ x, True)) := by
 have hl := ok.2
 unfold maxLen at hl
 unfold l_szInt64S
 rw [wr' (by omega) (by omega)]
 by_cases h : m - (x.length : Int) < 0
 · exact ⟨-1, by simp [h], by omega, by omega⟩
 · exact ⟨m - (x.length : Int), by simp only [h, decide_false, cond_false], by omega, fun _ => ⟨by omega, fun _ _ => trivial⟩⟩
theorem l_szInt64SS_law {x : (List (List Int))} (ok : (okS (okS I64)) x) {m : Int} (h0 : 0 ≤ m) (h1 : m ≤ 1048576) : ∃ v, l_szInt64SS x m = some v ∧ v ≤ m ∧ (0 ≤ v → (List.length x ≤ 1048576 ∧ ∀ y0 ∈ x, (List.length y0 ≤ 1048576 ∧ ∀ y1 ∈ y0, True))) := by
 have hl := ok.2
 unfold maxLen at hl
 unfold l_szInt64SS
 rw [wr' (by omega) (by omega)]
 by_cases h : m - (x.length : Int) < 0
 · exact ⟨-1, by simp [h], by omega, by omega⟩
 simp only [h, decide_false, cond_false]
 obtain ⟨o, ho, hm⟩ := cnt_out0 (f := l_szInt64SS_b0 x) (fun j s => 0 ≤ s ∧ s ≤ m ∧ ∀ (i : Nat) y, i < j → x[i]? = some y → (List.length y ≤ 1048576 ∧ ∀ y0 ∈ y, True)) (fun r => r = -1) (fun _ => False) x.length (s := m - x.length) ⟨by omega, by omega, fun _ _ h => absurd h (Nat.not_lt_zero _)⟩ (fun j s hj hi => by
  obtain ⟨i0, i1, i2⟩ := hi
  have hx : x[j]? = some x[j] := by simp [hj]
  obtain ⟨v, hv, hvm, hb⟩ := l_szInt64S_law (ok.1 _ (List.mem_of_getElem? hx)) i0 (by omega)
  unfold l_szInt64SS_b0
  rw [idx_nat, hx, Option.bind_some, hv, Option.bind_some]
  by_cases hv0 : v < 0
  · exact ⟨.inl (-1), by simp only [hv0, decide_true, cond_true], rfl⟩
  · refine ⟨.inr (.inr v), by simp only [hv0, decide_false, cond_false], by omega, by omega, fun i y hi hy => ?_⟩
    by_cases e : i = j
    · subst e; rw [hx] at hy; cases hy; exact hb (by omega)
    · exact i2 i y (by omega) hy)
 rw [ho, Option.bind_some]
 match o, hm with
 | .inl r, hm => exact ⟨r, rfl, by have : r = -1 := hm; omega, fun h => by have : r = -1 := hm; omega⟩
 | .inr s, hm =>
  obtain ⟨i0, i1, i2⟩ := hm.resolve_right id
  refine ⟨s, rfl, by omega, fun _ => ⟨by omega, fun y hy => ?_⟩⟩
  obtain ⟨i, hi⟩ := List.getElem?_of_mem hy
  exact i2 i y (List.getElem?_eq_some_iff.1 hi).1 hi
theorem l_szMachine_law {x : Machine} (ok : Machine.ok x) {m : Int} (h0 : 0 ≤ m) (h1 : m ≤ 1048576) : ∃ v, l_szMachine x m = some v ∧ v ≤ m ∧ (0 ≤ v → Machine.bd x) := by
 obtain ⟨ok0, ok1⟩ := ok
 unfold l_szMachine
 obtain ⟨v0, e0, l0, b0⟩ := l_szInt64SS_law ok0 (m := m) (by omega) (by omega)
 rw [e0, Option.bind_some]
 by_cases g0 : v0 < 0
 · exact ⟨-1, by simp only [g0, decide_true, cond_true], by omega, by omega⟩
 simp only [g0, decide_false, cond_false]
 obtain ⟨v1, e1, l1, b1⟩ := l_szInt64SS_law ok1 (m := v0) (by omega) (by omega)
 rw [e1, Option.bind_some]
 by_cases g1 : v1 < 0
 · exact ⟨-1, by simp only [g1, decide_true, cond_true], by omega, by omega⟩
 simp only [g1, decide_false, cond_false]
 exact ⟨_, rfl, by omega, fun _ => ⟨b0 (by omega), b1 (by omega)⟩⟩
theorem l_szClause_law {x : Clause} (ok : Clause.ok x) {m : Int} (h0 : 0 ≤ m) (h1 : m ≤ 1048576) : ∃ v, l_szClause x m = some v ∧ v ≤ m ∧ (0 ≤ v → Clause.bd x) := by
 obtain ⟨ok0, ok1, ok2⟩ := ok
 unfold l_szClause
 obtain ⟨v1, e1, l1, b1⟩ := l_szInt64S_law ok1 (m := m) (by omega) (by omega)
 rw [e1, Option.bind_some]
 by_cases g1 : v1 < 0
 · exact ⟨-1, by simp only [g1, decide_true, cond_true], by omega, by omega⟩
 simp only [g1, decide_false, cond_false]
 obtain ⟨v2, e2, l2, b2⟩ := l_szInt64S_law ok2 (m := v1) (by omega) (by omega)
 rw [e2, Option.bind_some]
 by_cases g2 : v2 < 0
 · exact ⟨-1, by simp only [g2, decide_true, cond_true], by omega, by omega⟩
 simp only [g2, decide_false, cond_false]
 exact ⟨_, rfl, by omega, fun _ => ⟨trivial, b1 (by omega), b2 (by omega)⟩⟩
theorem l_szClauseS_law {x : (List Clause)} (ok : (okS Clause.ok) x) {m : Int} (h0 : 0 ≤ m) (h1 : m ≤ 1048576) : ∃ v, l_szClauseS x m = some v ∧ v ≤ m ∧ (0 ≤ v → (List.length x ≤ 1048576 ∧ ∀ y0 ∈ x, Clause.bd y0)) := by
 have hl := ok.2
 unfold maxLen at hl
 unfold l_szClauseS
 rw [wr' (by omega) (by omega)]
 by_cases h : m - (x.length : Int) < 0
 · exact ⟨-1, by simp [h], by omega, by omega⟩
 simp only [h, decide_false, cond_false]
 obtain ⟨o, ho, hm⟩ := cnt_out0 (f := l_szClauseS_b0 x) (fun j s => 0 ≤ s ∧ s ≤ m ∧ ∀ (i : Nat) y, i < j → x[i]? = some y → Clause.bd y) (fun r => r = -1) (fun _ => False) x.length (s := m - x.length) ⟨by omega, by omega, fun _ _ h => absurd h (Nat.not_lt_zero _)⟩ (fun j s hj hi => by
  obtain ⟨i0, i1, i2⟩ := hi
  have hx : x[j]? = some x[j] := by simp [hj]
  obtain ⟨v, hv, hvm, hb⟩ := l_szClause_law (ok.1 _ (List.mem_of_getElem? hx)) i0 (by omega)
  unfold l_szClauseS_b0
  rw [idx_nat, hx, Option.bind_some, hv, Option.bind_some]
  by_cases hv0 : v < 0
  · exact ⟨.inl (-1), by simp only [hv0, decide_true, cond_true], rfl⟩
  · refine ⟨.inr (.inr v), by simp only [hv0, decide_false, cond_false], by omega, by omega, fun i y hi hy => ?_⟩
    by_cases e : i = j
    · subst e; rw [hx] at hy; cases hy; exact hb (by omega)
    · exact i2 i y (by omega) hy)
 rw [ho, Option.bind_some]
 match o, hm with
 | .inl r, hm => exact ⟨r, rfl, by have : r = -1 := hm; omega, fun h => by have : r = -1 := hm; omega⟩
 | .inr s, hm =>
  obtain ⟨i0, i1, i2⟩ := hm.resolve_right id
  refine ⟨s, rfl, by omega, fun _ => ⟨by omega, fun y hy => ?_⟩⟩
  obtain ⟨i, hi⟩ := List.getElem?_of_mem hy
  exact i2 i y (List.getElem?_eq_some_iff.1 hi).1 hi
theorem l_toSig_id {x : Sig} (h : Sig.bd x) : l_toSig x = some x := by
 rfl
theorem l_toInt64S_id {x : (List Int)} (h : (List.length x ≤ 1048576 ∧ ∀ y0 ∈ x, True)) : l_toInt64S x = some x := by
 unfold l_toInt64S
 rw [mkS_nat h.1 rfl, Option.bind_some]
 have hm := cnt_map (f := l_toInt64S_b0 x) id (xs := x) (ys := List.replicate x.length 0) (by simp) (fun i y ys hy hi => by
  unfold l_toInt64S_b0
  have hi2 : ys[i]? = some ys[i] := by simp [hi]
  simp only [idx_nat, hy, hi2, Option.bind_some, setI_nat hi, id])
 rw [List.map_id] at hm
 rw [hm]
 rfl
theorem l_toInt64SS_id {x : (List (List Int))} (h : (List.length x ≤ 1048576 ∧ ∀ y0 ∈ x, (List.length y0 ≤ 1048576 ∧ ∀ y1 ∈ y0, True))) : l_toInt64SS x = some x := by
 unfold l_toInt64SS
 rw [mkS_nat h.1 rfl, Option.bind_some]
 have hm := cnt_map (f := l_toInt64SS_b0 x) id (xs := x) (ys := List.replicate x.length []) (by simp) (fun i y ys hy hi => by
  unfold l_toInt64SS_b0
  have hi2 : ys[i]? = some ys[i] := by simp [hi]
  simp only [idx_nat, hy, hi2, Option.bind_some, l_toInt64S_id (h.2 y (List.mem_of_getElem? hy)), setI_nat hi, id])
 rw [List.map_id] at hm
 rw [hm]
 rfl
theorem l_toMachine_id {x : Machine} (h : Machine.bd x) : l_toMachine x = some x := by
 obtain ⟨h0, h1⟩ := h
 unfold l_toMachine
 simp only [l_toInt64SS_id h0, l_toInt64SS_id h1, Option.bind_some]
theorem l_toClause_id {x : Clause} (h : Clause.bd x) : l_toClause x = some x := by
 obtain ⟨h0, h1, h2⟩ := h
 unfold l_toClause
 simp only [l_toInt64S_id h1, l_toInt64S_id h2, Option.bind_some]
theorem l_toClauseS_id {x : (List Clause)} (h : (List.length x ≤ 1048576 ∧ ∀ y0 ∈ x, Clause.bd y0)) : l_toClauseS x = some x := by
 unfold l_toClauseS
 rw [mkS_nat h.1 rfl, Option.bind_some]
 have hm := cnt_map (f := l_toClauseS_b0 x) id (xs := x) (ys := List.replicate x.length ⟨0, [], []⟩) (by simp) (fun i y ys hy hi => by
  unfold l_toClauseS_b0
  have hi2 : ys[i]? = some ys[i] := by simp [hi]
  simp only [idx_nat, hy, hi2, Option.bind_some, l_toClause_id (h.2 y (List.mem_of_getElem? hy)), setI_nat hi, id])
 rw [List.map_id] at hm
 rw [hm]
 rfl
theorem l_eqInt64S_refl (x : (List Int)) : l_eqInt64S x x = some true := by
 unfold l_eqInt64S
 have hm := cnt_all0 (f := l_eqInt64S_b0 x x) (r := false) (fun _ => true) (xs := x) rfl (fun i y hy => by
  unfold l_eqInt64S_b0
  simp [idx_nat, hy])
 simp [hm, aft]
theorem l_eqWord_refl (x : Word) : l_eqWord x x = some true := by
 simp [l_eqWord, l_eqInt64S_refl, l_eqInt64S_refl]
theorem l_eqInt64SS_refl (x : (List (List Int))) : l_eqInt64SS x x = some true := by
 unfold l_eqInt64SS
 have hm := cnt_all0 (f := l_eqInt64SS_b0 x x) (r := false) (fun _ => true) (xs := x) rfl (fun i y hy => by
  unfold l_eqInt64SS_b0
  simp [idx_nat, hy, l_eqInt64S_refl])
 simp [hm, aft]
theorem l_eqMachine_refl (x : Machine) : l_eqMachine x x = some true := by
 simp [l_eqMachine, l_eqInt64SS_refl, l_eqInt64SS_refl]
theorem l_eqClause_refl (x : Clause) : l_eqClause x x = some true := by
 simp [l_eqClause, l_eqInt64S_refl, l_eqInt64S_refl]
theorem l_eqClauseS_refl (x : (List Clause)) : l_eqClauseS x x = some true := by
 unfold l_eqClauseS
 have hm := cnt_all0 (f := l_eqClauseS_b0 x x) (r := false) (fun _ => true) (xs := x) rfl (fun i y hy => by
  unfold l_eqClauseS_b0
  simp [idx_nat, hy, l_eqClause_refl])
 simp [hm, aft]
theorem l_markInt64S_law {x : (List Int)} {k : Int} (h0 : 0 ≤ k) (h1 : k + (ctL (fun _ => 1) x : Nat) ≤ 4611686018427387904) : l_markInt64S x k = some (k + (ctL (fun _ => 1) x : Nat), mkL (fun _ => 1) (fun k _ => k) k x) := by
 unfold l_markInt64S
 rw [cnt_mark0 (fun _ => 1) (fun k _ => k) 4611686018427387904 (fun i x k ys hx h0 h1 => by
  unfold l_markInt64S_b0
  simp only [idx_nat, hx, Option.bind_some]
  have hi := (List.getElem?_eq_some_iff.1 hx).1
  have h1 : k + 1 ≤ 4611686018427387904 := h1
  rw [setI_nat hi, Option.bind_some, wr' (by omega) (by omega)]
  rfl) h0 h1]
 rfl
theorem l_markInt64SS_law {x : (List (List Int))} {k : Int} (h0 : 0 ≤ k) (h1 : k + (ctL (ctL (fun _ => 1)) x : Nat) ≤ 4611686018427387904) : l_markInt64SS x k = some (k + (ctL (ctL (fun _ => 1)) x : Nat), mkL (ctL (fun _ => 1)) (mkL (fun _ => 1) (fun k _ => k)) k x) := by
 unfold l_markInt64SS
 rw [cnt_mark0 (ctL (fun _ => 1)) (mkL (fun _ => 1) (fun k _ => k)) 4611686018427387904 (fun i x k ys hx h0 h1 => by
  unfold l_markInt64SS_b0
  simp only [idx_nat, hx, Option.bind_some]
  have hi := (List.getElem?_eq_some_iff.1 hx).1
  rw [l_markInt64S_law h0 h1, Option.bind_some, setI_nat hi, Option.bind_some]) h0 h1]
 rfl
theorem l_markMachine_law {x : Machine} {k : Int} (h0 : 0 ≤ k) (h1 : k + ((ctL (ctL (fun _ => 1))) x.Next : Nat) + ((ctL (ctL (fun _ => 1))) x.Out : Nat) ≤ 4611686018427387904) : l_markMachine x k = some (k + ((ctL (ctL (fun _ => 1))) x.Next : Nat) + ((ctL (ctL (fun _ => 1))) x.Out : Nat), (mkL (ctL (fun _ => 1)) (mkL (fun _ => 1) (fun k _ => k))) (k) x.Next, (mkL (ctL (fun _ => 1)) (mkL (fun _ => 1) (fun k _ => k))) (k + ((ctL (ctL (fun _ => 1))) x.Next : Nat)) x.Out) := by
 unfold l_markMachine
 simp (disch := omega) only [l_markInt64SS_law, Option.bind_some]
theorem l_markClauseS_law {x : (List Clause)} {k : Int} (h0 : 0 ≤ k) (h1 : k + (ctL (fun x : Clause => 1 + (ctL (fun _ => 1)) x.A + (ctL (fun _ => 1)) x.B) x : Nat) ≤ 4611686018427387904) : l_markClauseS x k = some (k + (ctL (fun x : Clause => 1 + (ctL (fun _ => 1)) x.A + (ctL (fun _ => 1)) x.B) x : Nat), mkL (fun x : Clause => 1 + (ctL (fun _ => 1)) x.A + (ctL (fun _ => 1)) x.B) (fun (k : Int) (x : Clause) => (⟨k, (mkL (fun _ => 1) (fun k _ => k)) (k + 1) x.A, (mkL (fun _ => 1) (fun k _ => k)) (k + 1 + ((ctL (fun _ => 1)) x.A : Nat)) x.B⟩ : Clause)) k x) := by
 unfold l_markClauseS
 rw [cnt_mark0 (fun x : Clause => 1 + (ctL (fun _ => 1)) x.A + (ctL (fun _ => 1)) x.B) (fun (k : Int) (x : Clause) => (⟨k, (mkL (fun _ => 1) (fun k _ => k)) (k + 1) x.A, (mkL (fun _ => 1) (fun k _ => k)) (k + 1 + ((ctL (fun _ => 1)) x.A : Nat)) x.B⟩ : Clause)) 4611686018427387904 (fun i x k ys hx h0 h1 => by
  unfold l_markClauseS_b0
  have hi := (List.getElem?_eq_some_iff.1 hx).1
  have h1 : k + ((1 + (ctL (fun _ => 1)) x.A + (ctL (fun _ => 1)) x.B : Nat) : Int) ≤ 4611686018427387904 := h1
  simp (disch := first | omega | simpa using hi) only [idx_nat, hx, Option.bind_some, wr', l_markInt64S_law, setI_nat, List.getElem?_set_self, List.set_set]
  simp only [Int.natCast_add, Int.add_assoc]
  rfl) h0 h1]
 rfl
theorem l_markWord_law {x : Word} {k : Int} (h0 : 0 ≤ k) (h1 : k + ((ctL (fun _ => 1)) x.Stem : Nat) + ((ctL (fun _ => 1)) x.Loop : Nat) ≤ 4611686018427387904) : l_markWord x k = some (k + ((ctL (fun _ => 1)) x.Stem : Nat) + ((ctL (fun _ => 1)) x.Loop : Nat), (mkL (fun _ => 1) (fun k _ => k)) (k) x.Stem, (mkL (fun _ => 1) (fun k _ => k)) (k + ((ctL (fun _ => 1)) x.Stem : Nat)) x.Loop) := by
 unfold l_markWord
 simp (disch := omega) only [l_markInt64S_law, Option.bind_some]
theorem l_heldInt64S_law {x : (List Int)} {k : Int} (h0 : 0 ≤ k) (h1 : k + (ctL (fun _ => 1) x : Nat) ≤ 4611686018427387904) : l_heldInt64S (mkL (fun _ => 1) (fun k _ => k) k x) k = some (k + (ctL (fun _ => 1) x : Nat)) := by
 unfold l_heldInt64S
 rw [cnt_held0 (fun _ => 1) (fun k _ => k) 4611686018427387904 (fun i x k' hx h0 h1 => by
  unfold l_heldInt64S_b0
  have h1 : k' + 1 ≤ 4611686018427387904 := h1
  simp only [idx_nat, hx, Option.bind_some, bne_self_eq_false, cond_false]
  rw [wr' (by omega) (by omega)]
  rfl) h0 h1]
 rfl
theorem l_heldWord_law {x : Word} {k : Int} (h0 : 0 ≤ k) (h1 : k + ((ctL (fun _ => 1)) x.Stem : Nat) + ((ctL (fun _ => 1)) x.Loop : Nat) ≤ 4611686018427387904) : l_heldWord (⟨((mkL (fun _ => 1) (fun k _ => k)) (k) x.Stem), ((mkL (fun _ => 1) (fun k _ => k)) (k + ((ctL (fun _ => 1)) x.Stem : Nat)) x.Loop)⟩ : Word) k = some (k + ((ctL (fun _ => 1)) x.Stem : Nat) + ((ctL (fun _ => 1)) x.Loop : Nat)) := by
 unfold l_heldWord
 simp (disch := omega) only [l_heldInt64S_law, Option.bind_some, dlt, cond_false]
theorem FnExactBreakOf_of {p0 : Sig} (ok0 : Sig.ok p0) {p1 : Machine} (ok1 : Machine.ok p1) {p2 : (List Clause)} (ok2 : (okS Clause.ok) p2) (hm : Machine.bd p1 → (List.length p2 ≤ 1048576 ∧ ∀ y0 ∈ p2, Clause.bd y0) → ∃ (r0 : Word) (r1 : Bool), s_BreakOf p0 p1 p2 = some (r0, r1) ∧ i_BreakOf p0 p1 p2 = some (r0, r1) ∧ ((ctL (fun _ => 1)) r0.Stem : Nat) ≤ 1000000000000000 ∧ ((ctL (fun _ => 1)) r0.Loop : Nat) ≤ 1000000000000000) : l_FnExactBreakOf p0 p1 p2 = some true := by
 unfold l_FnExactBreakOf
 obtain ⟨v1, e1, l1, b1⟩ := l_szMachine_law ok1 (m := 1048576) (by omega) (by omega)
 rw [e1, Option.bind_some]
 by_cases g1 : v1 < 0
 · simp only [g1, decide_true, cond_true]
 simp only [g1, decide_false, cond_false]
 have b1 := b1 (by omega)
 obtain ⟨v2, e2, l2, b2⟩ := l_szClauseS_law ok2 (m := v1) (by omega) (by omega)
 rw [e2, Option.bind_some]
 by_cases g2 : v2 < 0
 · simp only [g2, decide_true, cond_true]
 simp only [g2, decide_false, cond_false]
 have b2 := b2 (by omega)
 obtain ⟨r0, r1, hs, hi, c0, c1⟩ := hm b1 b2
 have d1 := b1
 have c1_0 : ((ctL (ctL (fun _ => 1))) p1.Next : Nat) ≤ 1099511627776 := (ctL_bd b1.1.1 fun _ hx => (ctL_bd (b1.1.2 _ hx).1 fun _ _ => Nat.le_refl 1))
 have c1_1 : ((ctL (ctL (fun _ => 1))) p1.Out : Nat) ≤ 1099511627776 := (ctL_bd b1.2.1 fun _ hx => (ctL_bd (b1.2.2 _ hx).1 fun _ _ => Nat.le_refl 1))
 have d2 := b2
 have c2_0 : ((ctL (fun x : Clause => 1 + (ctL (fun _ => 1)) x.A + (ctL (fun _ => 1)) x.B)) p2 : Nat) ≤ 2199024304128 := (ctL_bd b2.1 fun _ hx => (Nat.add_le_add (Nat.add_le_add (Nat.le_refl 1) (ctL_bd (b2.2 _ hx).2.1.1 fun _ _ => Nat.le_refl 1)) (ctL_bd (b2.2 _ hx).2.2.1 fun _ _ => Nat.le_refl 1)))
 simp (disch := omega) only [l_toSig_id (Sig.bdt _), l_toMachine_id b1, l_toClauseS_id b2, l_eqClauseS_refl, l_eqMachine_refl, l_eqWord_refl, l_markClauseS_law, l_markMachine_law, l_markWord_law, l_heldWord_law, hs, hi, Option.bind_some, cond_true, cond_false, Bool.not_true, Bool.not_false, bne_self_eq_false, dlt]
end Go.Proofs.YtcmamhmpoinmnaaGreat
