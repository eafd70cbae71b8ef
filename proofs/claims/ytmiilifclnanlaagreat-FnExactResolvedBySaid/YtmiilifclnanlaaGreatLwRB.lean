/- The structs opened; the sizes, the copies, the comparisons: plain laws. By program. -/
import Derived.Test.YtmiilifclnanlaaGreatFnsMRB
import Derived.Test.YtmiilifclnanlaaGreatLawRB
set_option linter.unusedVariables false
set_option linter.unusedSimpArgs false
namespace Go.Proofs.YtmiilifclnanlaaGreat
open Go Go.Wk Go.Proofs
set_option maxRecDepth 100000
def Arena.ok (x : Arena) : Prop := (okS I64) x.Owner ∧ (okS (okS I64)) x.Next
def Arena.bd (x : Arena) : Prop := (List.length x.Owner ≤ 1048576 ∧ ∀ y0 ∈ x.Owner, True) ∧ (List.length x.Next ≤ 1048576 ∧ ∀ y0 ∈ x.Next, (List.length y0 ≤ 1048576 ∧ ∀ y1 ∈ y0, True))
theorem Arena.opn25 : Opn Tryz.prog 25 Arena.rp Arena.ok :=
 opn_iso (ok := fun (p : (List Int) × (List (List Int))) => (okS I64) p.1 ∧ (okS (okS I64)) p.2) _ (fun p => ⟨p.1, p.2⟩) (fun _ => rfl) (opn_struct Tryz.underlying25 rfl (by kernel_rfl) (opnF_cons rfl (by kernel_rfl) (opn_sl Tryz.underlying22 (by kernel_rfl) rfl (opn_i64 Tryz.underlying2)) (opnF_one rfl (by kernel_rfl) (opn_sl Tryz.underlying23 (by kernel_rfl) rfl (opn_sl Tryz.underlying22 (by kernel_rfl) rfl (opn_i64 Tryz.underlying2))))))
def Parity.ok (x : Parity) : Prop := Arena.ok x.Arena ∧ (okS I64) x.Prio
def Parity.bd (x : Parity) : Prop := Arena.bd x.Arena ∧ (List.length x.Prio ≤ 1048576 ∧ ∀ y0 ∈ x.Prio, True)
theorem Parity.opn27 : Opn Tryz.prog 27 Parity.rp Parity.ok :=
 opn_iso (ok := fun (p : Go.Proofs.YtmiilifclnanlaaGreat.Arena × (List Int)) => Arena.ok p.1 ∧ (okS I64) p.2) _ (fun p => ⟨p.1, p.2⟩) (fun _ => rfl) (opn_struct Tryz.underlying27 rfl (by kernel_rfl) (opnF_cons rfl (by kernel_rfl) Arena.opn25 (opnF_one rfl (by kernel_rfl) (opn_sl Tryz.underlying22 (by kernel_rfl) rfl (opn_i64 Tryz.underlying2)))))
def Answer.ok (x : Answer) : Prop := (okS I64) x.Won ∧ (okS I64) x.Plan
def Answer.bd (x : Answer) : Prop := (List.length x.Won ≤ 1048576 ∧ ∀ y0 ∈ x.Won, True) ∧ (List.length x.Plan ≤ 1048576 ∧ ∀ y0 ∈ x.Plan, True)
theorem Answer.opn29 : Opn Tryz.prog 29 Answer.rp Answer.ok :=
 opn_iso (ok := fun (p : (List Int) × (List Int)) => (okS I64) p.1 ∧ (okS I64) p.2) _ (fun p => ⟨p.1, p.2⟩) (fun _ => rfl) (opn_struct Tryz.underlying29 rfl (by kernel_rfl) (opnF_cons rfl (by kernel_rfl) (opn_sl Tryz.underlying22 (by kernel_rfl) rfl (opn_i64 Tryz.underlying2)) (opnF_one rfl (by kernel_rfl) (opn_sl Tryz.underlying22 (by kernel_rfl) rfl (opn_i64 Tryz.underlying2)))))
def Edit.ok (x : Edit) : Prop := I64 x.Kind ∧ I64 x.V ∧ I64 x.N
def Edit.bd (x : Edit) : Prop := True ∧ True ∧ True
theorem Edit.bdt (x : Edit) : Edit.bd x := by unfold Edit.bd; simp
theorem Edit.opn31 : Opn Tryz.prog 31 Edit.rp Edit.ok :=
 opn_iso (ok := fun (p : Int × Int × Int) => I64 p.1 ∧ I64 p.2.1 ∧ I64 p.2.2) _ (fun p => ⟨p.1, p.2.1, p.2.2⟩) (fun _ => rfl) (opn_struct Tryz.underlying31 rfl (by kernel_rfl) (opnF_cons rfl (by kernel_rfl) (opn_i64 Tryz.underlying2) (opnF_cons rfl (by kernel_rfl) (opn_i64 Tryz.underlying2) (opnF_one rfl (by kernel_rfl) (opn_i64 Tryz.underlying2)))))
theorem slices_Index_I_int64_eq (p0 : List Int) (p1 : Int) : slices_Index_I_int64 p0 p1 = some (match p0.findIdx? (fun x => p1 == x) with | some i => (i : Int) | none => -1) := by
 unfold slices_Index_I_int64
 rw [cnt_find0 (f := slices_Index_I_int64_b0 p0 p1) (fun x => p1 == x) (fun i => (i : Int)) (xs := p0) (fun i x hx => by
  unfold slices_Index_I_int64_b0
  simp only [idx_nat, hx, Option.bind_some]
  cases p1 == x <;> rfl), Option.bind_some]
 cases p0.findIdx? (fun x => p1 == x) <;> rfl
theorem slices_Contains_I_int64_eq (p0 : List Int) (p1 : Int) : slices_Contains_I_int64 p0 p1 = some (p0.any (fun x => p1 == x)) := by
 unfold slices_Contains_I_int64
 rw [slices_Index_I_int64_eq, Option.bind_some]
 exact congrArg some (findIdx_any _ p0)
theorem l_szInt64S_law {x : (List Int)} (ok : (okS I64) x) {m : Int} (h0 : 0 ≤ m) (h1 : m ≤ 1048576) : ∃ v, l_szInt64S x m = some v ∧ v ≤ m ∧ (0 ≤ v → (List.length x ≤ 1048576 ∧ ∀ y0 ∈ x, True)) := by
 have hl := ok.2
 unfold maxLen at hl
 unfold l_szInt64S
 rw [wr' (by omega) (by omega)]
 by_cases h : m - (x.length : Int) < 0
 · exact ⟨-1, by simp [h], by omega, by omega⟩
 · exact ⟨m - (x.length : Int), by simp only [h, decide_false, cond_false], by omega, fun _ => ⟨by omega, fun _ _ => trivial⟩⟩
theorem l_szInt64SS_law {x : (List (List Int))} (ok : (okS (okS I64)) x) {m : Int} (h0 : 0 ≤ m) (h1 : m ≤ 1048576) : ∃ v, l_szInt64SS x m = some v ∧ v ≤ m ∧ (0 ≤ v → (List.length x ≤ 1048576 ∧ ∀ y0 ∈ x, (List.length y0 ≤ 1048576 ∧ ∀ y1 ∈ y0, True))) := by
 have hl := ok.2
 unfold maxLen at hl
 unfold l_szInt64SS
 rw [wr' (by omega) (by omega)]
 by_cases h : m - (x.length : Int) < 0
 · exact ⟨-1, by simp [h], by omega, by omega⟩
 simp only [h, decide_false, cond_false]
 obtain ⟨o, ho, hm⟩ := cnt_out0 (f := l_szInt64SS_b0 x) (fun j s => 0 ≤ s ∧ s ≤ m ∧ ∀ (i : Nat) y, i < j → x[i]? = some y → (List.length y ≤ 1048576 ∧ ∀ y0 ∈ y, True)) (fun r => r = -1) (fun _ => False) x.length (s := m - x.length) ⟨by omega, by omega, fun _ _ h => absurd h (Nat.not_lt_zero _)⟩ (fun j s hj hi => by
  obtain ⟨i0, i1, i2⟩ := hi
  have hx : x[j]? = some x[j] := by simp [hj]
  obtain ⟨v, hv, hvm, hb⟩ := l_szInt64S_law (ok.1 _ (List.mem_of_getElem? hx)) i0 (by omega)
  unfold l_szInt64SS_b0
  rw [idx_nat, hx, Option.bind_some, hv, Option.bind_some]
  by_cases hv0 : v < 0
  · exact ⟨.inl (-1), by simp only [hv0, decide_true, cond_true], rfl⟩
  · refine ⟨.inr (.inr v), by simp only [hv0, decide_false, cond_false], by omega, by omega, fun i y hi hy => ?_⟩
    by_cases e : i = j
    · subst e; rw [hx] at hy; cases hy; exact hb (by omega)
    · exact i2 i y (by omega) hy)
 rw [ho, Option.bind_some]
 match o, hm with
 | .inl r, hm => exact ⟨r, rfl, by have : r = -1 := hm; omega, fun h => by have : r = -1 := hm; omega⟩
 | .inr s, hm =>
  obtain ⟨i0, i1, i2⟩ := hm.resolve_right id
  refine ⟨s, rfl, by omega, fun _ => ⟨by omega, fun y hy => ?_⟩⟩
  obtain ⟨i, hi⟩ := List.getElem?_of_mem hy
  exact i2 i y (List.getElem?_eq_some_iff.1 hi).1 hi
theorem l_szArena_law {x : Arena} (ok : Arena.ok x) {m : Int} (h0 : 0 ≤ m) (h1 : m ≤ 1048576) : ∃ v, l_szArena x m = some v ∧ v ≤ m ∧ (0 ≤ v → Arena.bd x) := by
 obtain ⟨ok0, ok1⟩ := ok
 unfold l_szArena
 obtain ⟨v0, e0, l0, b0⟩ := l_szInt64S_law ok0 (m := m) (by omega) (by omega)
 rw [e0, Option.bind_some]
 by_cases g0 : v0 < 0
 · exact ⟨-1, by simp only [g0, decide_true, cond_true], by omega, by omega⟩
 simp only [g0, decide_false, cond_false]
 obtain ⟨v1, e1, l1, b1⟩ := l_szInt64SS_law ok1 (m := v0) (by omega) (by omega)
 rw [e1, Option.bind_some]
 by_cases g1 : v1 < 0
 · exact ⟨-1, by simp only [g1, decide_true, cond_true], by omega, by omega⟩
 simp only [g1, decide_false, cond_false]
 exact ⟨_, rfl, by omega, fun _ => ⟨b0 (by omega), b1 (by omega)⟩⟩
theorem l_szParity_law {x : Parity} (ok : Parity.ok x) {m : Int} (h0 : 0 ≤ m) (h1 : m ≤ 1048576) : ∃ v, l_szParity x m = some v ∧ v ≤ m ∧ (0 ≤ v → Parity.bd x) := by
 obtain ⟨ok0, ok1⟩ := ok
 unfold l_szParity
 obtain ⟨v0, e0, l0, b0⟩ := l_szArena_law ok0 (m := m) (by omega) (by omega)
 rw [e0, Option.bind_some]
 by_cases g0 : v0 < 0
 · exact ⟨-1, by simp only [g0, decide_true, cond_true], by omega, by omega⟩
 simp only [g0, decide_false, cond_false]
 obtain ⟨v1, e1, l1, b1⟩ := l_szInt64S_law ok1 (m := v0) (by omega) (by omega)
 rw [e1, Option.bind_some]
 by_cases g1 : v1 < 0
 · exact ⟨-1, by simp only [g1, decide_true, cond_true], by omega, by omega⟩
 simp only [g1, decide_false, cond_false]
 exact ⟨_, rfl, by omega, fun _ => ⟨b0 (by omega), b1 (by omega)⟩⟩
theorem l_szAnswer_law {x : Answer} (ok : Answer.ok x) {m : Int} (h0 : 0 ≤ m) (h1 : m ≤ 1048576) : ∃ v, l_szAnswer x m = some v ∧ v ≤ m ∧ (0 ≤ v → Answer.bd x) := by
 obtain ⟨ok0, ok1⟩ := ok
 unfold l_szAnswer
 obtain ⟨v0, e0, l0, b0⟩ := l_szInt64S_law ok0 (m := m) (by omega) (by omega)
 rw [e0, Option.bind_some]
 by_cases g0 : v0 < 0
 · exact ⟨-1, by simp only [g0, decide_true, cond_true], by omega, by omega⟩
 simp only [g0, decide_false, cond_false]
 obtain ⟨v1, e1, l1, b1⟩ := l_szInt64S_law ok1 (m := v0) (by omega) (by omega)
 rw [e1, Option.bind_some]
 by_cases g1 : v1 < 0
 · exact ⟨-1, by simp only [g1, decide_true, cond_true], by omega, by omega⟩
 simp only [g1, decide_false, cond_false]
 exact ⟨_, rfl, by omega, fun _ => ⟨b0 (by omega), b1 (by omega)⟩⟩
theorem l_toInt64S_id {x : (List Int)} (h : (List.length x ≤ 1048576 ∧ ∀ y0 ∈ x, True)) : l_toInt64S x = some x := by
 unfold l_toInt64S
 rw [mkS_nat h.1 rfl, Option.bind_some]
 have hm := cnt_map (f := l_toInt64S_b0 x) id (xs := x) (ys := List.replicate x.length 0) (by simp) (fun i y ys hy hi => by
  unfold l_toInt64S_b0
  have hi2 : ys[i]? = some ys[i] := by simp [hi]
  simp only [idx_nat, hy, hi2, Option.bind_some, setI_nat hi, id])
 rw [List.map_id] at hm
 rw [hm]
 rfl
theorem l_toInt64SS_id {x : (List (List Int))} (h : (List.length x ≤ 1048576 ∧ ∀ y0 ∈ x, (List.length y0 ≤ 1048576 ∧ ∀ y1 ∈ y0, True))) : l_toInt64SS x = some x := by
 unfold l_toInt64SS
 rw [mkS_nat h.1 rfl, Option.bind_some]
 have hm := cnt_map (f := l_toInt64SS_b0 x) id (xs := x) (ys := List.replicate x.length []) (by simp) (fun i y ys hy hi => by
  unfold l_toInt64SS_b0
  have hi2 : ys[i]? = some ys[i] := by simp [hi]
  simp only [idx_nat, hy, hi2, Option.bind_some, l_toInt64S_id (h.2 y (List.mem_of_getElem? hy)), setI_nat hi, id])
 rw [List.map_id] at hm
 rw [hm]
 rfl
theorem l_toArena_id {x : Arena} (h : Arena.bd x) : l_toArena x = some x := by
 obtain ⟨h0, h1⟩ := h
 unfold l_toArena
 simp only [l_toInt64S_id h0, l_toInt64SS_id h1, Option.bind_some]
theorem l_toParity_id {x : Parity} (h : Parity.bd x) : l_toParity x = some x := by
 obtain ⟨h0, h1⟩ := h
 unfold l_toParity
 simp only [l_toArena_id h0, l_toInt64S_id h1, Option.bind_some]
theorem l_toAnswer_id {x : Answer} (h : Answer.bd x) : l_toAnswer x = some x := by
 obtain ⟨h0, h1⟩ := h
 unfold l_toAnswer
 simp only [l_toInt64S_id h0, l_toInt64S_id h1, Option.bind_some]
theorem l_toEdit_id {x : Edit} (h : Edit.bd x) : l_toEdit x = some x := by
 rfl
theorem l_eqInt64S_refl (x : (List Int)) : l_eqInt64S x x = some true := by
 unfold l_eqInt64S
 have hm := cnt_all0 (f := l_eqInt64S_b0 x x) (r := false) (fun _ => true) (xs := x) rfl (fun i y hy => by
  unfold l_eqInt64S_b0
  simp [idx_nat, hy])
 simp [hm, aft]
theorem l_eqAnswer_refl (x : Answer) : l_eqAnswer x x = some true := by
 simp [l_eqAnswer, l_eqInt64S_refl, l_eqInt64S_refl]
theorem l_eqInt64SS_refl (x : (List (List Int))) : l_eqInt64SS x x = some true := by
 unfold l_eqInt64SS
 have hm := cnt_all0 (f := l_eqInt64SS_b0 x x) (r := false) (fun _ => true) (xs := x) rfl (fun i y hy => by
  unfold l_eqInt64SS_b0
  simp [idx_nat, hy, l_eqInt64S_refl])
 simp [hm, aft]
theorem l_eqArena_refl (x : Arena) : l_eqArena x x = some true := by
 simp [l_eqArena, l_eqInt64S_refl, l_eqInt64SS_refl]
theorem l_eqParity_refl (x : Parity) : l_eqParity x x = some true := by
 simp [l_eqParity, l_eqArena_refl, l_eqInt64S_refl]
theorem l_markInt64S_law {x : (List Int)} {k : Int} (h0 : 0 ≤ k) (h1 : k + (ctL (fun _ => 1) x : Nat) ≤ 4611686018427387904) : l_markInt64S x k = some (k + (ctL (fun _ => 1) x : Nat), mkL (fun _ => 1) (fun k _ => k) k x) := by
 unfold l_markInt64S
 rw [cnt_mark0 (fun _ => 1) (fun k _ => k) 4611686018427387904 (fun i x k ys hx h0 h1 => by
  unfold l_markInt64S_b0
  simp only [idx_nat, hx, Option.bind_some]
  have hi := (List.getElem?_eq_some_iff.1 hx).1
  have h1 : k + 1 ≤ 4611686018427387904 := h1
  rw [setI_nat hi, Option.bind_some, wr' (by omega) (by omega)]
  rfl) h0 h1]
 rfl
theorem l_markInt64SS_law {x : (List (List Int))} {k : Int} (h0 : 0 ≤ k) (h1 : k + (ctL (ctL (fun _ => 1)) x : Nat) ≤ 4611686018427387904) : l_markInt64SS x k = some (k + (ctL (ctL (fun _ => 1)) x : Nat), mkL (ctL (fun _ => 1)) (mkL (fun _ => 1) (fun k _ => k)) k x) := by
 unfold l_markInt64SS
 rw [cnt_mark0 (ctL (fun _ => 1)) (mkL (fun _ => 1) (fun k _ => k)) 4611686018427387904 (fun i x k ys hx h0 h1 => by
  unfold l_markInt64SS_b0
  simp only [idx_nat, hx, Option.bind_some]
  have hi := (List.getElem?_eq_some_iff.1 hx).1
  rw [l_markInt64S_law h0 h1, Option.bind_some, setI_nat hi, Option.bind_some]) h0 h1]
 rfl
theorem l_markArena_law {x : Arena} {k : Int} (h0 : 0 ≤ k) (h1 : k + ((ctL (fun _ => 1)) x.Owner : Nat) + ((ctL (ctL (fun _ => 1))) x.Next : Nat) ≤ 4611686018427387904) : l_markArena x k = some (k + ((ctL (fun _ => 1)) x.Owner : Nat) + ((ctL (ctL (fun _ => 1))) x.Next : Nat), (mkL (fun _ => 1) (fun k _ => k)) (k) x.Owner, (mkL (ctL (fun _ => 1)) (mkL (fun _ => 1) (fun k _ => k))) (k + ((ctL (fun _ => 1)) x.Owner : Nat)) x.Next) := by
 unfold l_markArena
 simp (disch := omega) only [l_markInt64SS_law, l_markInt64S_law, Option.bind_some]
theorem l_markParity_law {x : Parity} {k : Int} (h0 : 0 ≤ k) (h1 : k + ((ctL (fun _ => 1)) x.Arena.Owner : Nat) + ((ctL (ctL (fun _ => 1))) x.Arena.Next : Nat) + ((ctL (fun _ => 1)) x.Prio : Nat) ≤ 4611686018427387904) : l_markParity x k = some (k + ((ctL (fun _ => 1)) x.Arena.Owner : Nat) + ((ctL (ctL (fun _ => 1))) x.Arena.Next : Nat) + ((ctL (fun _ => 1)) x.Prio : Nat), (mkL (fun _ => 1) (fun k _ => k)) (k) x.Arena.Owner, (mkL (ctL (fun _ => 1)) (mkL (fun _ => 1) (fun k _ => k))) (k + ((ctL (fun _ => 1)) x.Arena.Owner : Nat)) x.Arena.Next, (mkL (fun _ => 1) (fun k _ => k)) (k + ((ctL (fun _ => 1)) x.Arena.Owner : Nat) + ((ctL (ctL (fun _ => 1))) x.Arena.Next : Nat)) x.Prio) := by
 unfold l_markParity
 simp (disch := omega) only [l_markArena_law, l_markInt64S_law, Option.bind_some]
theorem l_markAnswer_law {x : Answer} {k : Int} (h0 : 0 ≤ k) (h1 : k + ((ctL (fun _ => 1)) x.Won : Nat) + ((ctL (fun _ => 1)) x.Plan : Nat) ≤ 4611686018427387904) : l_markAnswer x k = some (k + ((ctL (fun _ => 1)) x.Won : Nat) + ((ctL (fun _ => 1)) x.Plan : Nat), (mkL (fun _ => 1) (fun k _ => k)) (k) x.Won, (mkL (fun _ => 1) (fun k _ => k)) (k + ((ctL (fun _ => 1)) x.Won : Nat)) x.Plan) := by
 unfold l_markAnswer
 simp (disch := omega) only [l_markInt64S_law, Option.bind_some]
theorem l_heldInt64S_law {x : (List Int)} {k : Int} (h0 : 0 ≤ k) (h1 : k + (ctL (fun _ => 1) x : Nat) ≤ 4611686018427387904) : l_heldInt64S (mkL (fun _ => 1) (fun k _ => k) k x) k = some (k + (ctL (fun _ => 1) x : Nat)) := by
 unfold l_heldInt64S
 rw [cnt_held0 (fun _ => 1) (fun k _ => k) 4611686018427387904 (fun i x k' hx h0 h1 => by
  unfold l_heldInt64S_b0
  have h1 : k' + 1 ≤ 4611686018427387904 := h1
  simp only [idx_nat, hx, Option.bind_some, bne_self_eq_false, cond_false]
  rw [wr' (by omega) (by omega)]
  rfl) h0 h1]
 rfl
theorem l_heldAnswer_law {x : Answer} {k : Int} (h0 : 0 ≤ k) (h1 : k + ((ctL (fun _ => 1)) x.Won : Nat) + ((ctL (fun _ => 1)) x.Plan : Nat) ≤ 4611686018427387904) : l_heldAnswer (⟨((mkL (fun _ => 1) (fun k _ => k)) (k) x.Won), ((mkL (fun _ => 1) (fun k _ => k)) (k + ((ctL (fun _ => 1)) x.Won : Nat)) x.Plan)⟩ : Answer) k = some (k + ((ctL (fun _ => 1)) x.Won : Nat) + ((ctL (fun _ => 1)) x.Plan : Nat)) := by
 unfold l_heldAnswer
 simp (disch := omega) only [l_heldInt64S_law, Option.bind_some, dlt, cond_false]
theorem FnExactResolvedBy_of {p0 : Parity} (ok0 : Parity.ok p0) {p1 : Answer} (ok1 : Answer.ok p1) {p2 : Edit} (ok2 : Edit.ok p2) (hm : Parity.bd p0 → Answer.bd p1 → ∃ (r0 : Answer) (r1 : Bool), s_ResolvedBy p0 p1 p2 = some (r0, r1) ∧ i_ResolvedBy p0 p1 p2 = some (r0, r1) ∧ ((ctL (fun _ => 1)) r0.Won : Nat) ≤ 1000000000000000 ∧ ((ctL (fun _ => 1)) r0.Plan : Nat) ≤ 1000000000000000) : l_FnExactResolvedBy p0 p1 p2 = some true := by
 unfold l_FnExactResolvedBy
 obtain ⟨v0, e0, l0, b0⟩ := l_szParity_law ok0 (m := 1048576) (by omega) (by omega)
 rw [e0, Option.bind_some]
 by_cases g0 : v0 < 0
 · simp only [g0, decide_true, cond_true]
 simp only [g0, decide_false, cond_false]
 have b0 := b0 (by omega)
 obtain ⟨v1, e1, l1, b1⟩ := l_szAnswer_law ok1 (m := v0) (by omega) (by omega)
 rw [e1, Option.bind_some]
 by_cases g1 : v1 < 0
 · simp only [g1, decide_true, cond_true]
 simp only [g1, decide_false, cond_false]
 have b1 := b1 (by omega)
 obtain ⟨r0, r1, hs, hi, c0, c1⟩ := hm b0 b1
 have d0 := b0
 have c0_0 : ((ctL (fun _ => 1)) p0.Arena.Owner : Nat) ≤ 1048576 := (ctL_bd b0.1.1.1 fun _ _ => Nat.le_refl 1)
 have c0_1 : ((ctL (ctL (fun _ => 1))) p0.Arena.Next : Nat) ≤ 1099511627776 := (ctL_bd b0.1.2.1 fun _ hx => (ctL_bd (b0.1.2.2 _ hx).1 fun _ _ => Nat.le_refl 1))
 have c0_2 : ((ctL (fun _ => 1)) p0.Prio : Nat) ≤ 1048576 := (ctL_bd b0.2.1 fun _ _ => Nat.le_refl 1)
 have d1 := b1
 have c1_0 : ((ctL (fun _ => 1)) p1.Won : Nat) ≤ 1048576 := (ctL_bd b1.1.1 fun _ _ => Nat.le_refl 1)
 have c1_1 : ((ctL (fun _ => 1)) p1.Plan : Nat) ≤ 1048576 := (ctL_bd b1.2.1 fun _ _ => Nat.le_refl 1)
 simp (disch := omega) only [l_toParity_id b0, l_toAnswer_id b1, l_toEdit_id (Edit.bdt _), l_eqAnswer_refl, l_eqParity_refl, l_markAnswer_law, l_markParity_law, l_heldAnswer_law, hs, hi, Option.bind_some, cond_true, cond_false, Bool.not_true, Bool.not_false, bne_self_eq_false, dlt]
end Go.Proofs.YtmiilifclnanlaaGreat
