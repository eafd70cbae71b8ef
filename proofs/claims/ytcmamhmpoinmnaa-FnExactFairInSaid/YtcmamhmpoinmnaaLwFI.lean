/- The structs opened; the sizes, the copies, the comparisons: plain laws. By program. -/
import Derived.Test.YtcmamhmpoinmnaaFnsMFI
import Derived.Test.YtcmamhmpoinmnaaLawFI
set_option linter.unusedVariables false
set_option linter.unusedSimpArgs false
namespace Go.Proofs.Ytcmamhmpoinmnaa
open Go Go.Wk Go.Proofs
set_option maxRecDepth 100000
def Pair.ok (x : Pair) : Prop := (okS I64) x.Ask ∧ (okS I64) x.Give
def Pair.bd (x : Pair) : Prop := (List.length x.Ask ≤ 1048576 ∧ ∀ y0 ∈ x.Ask, True) ∧ (List.length x.Give ≤ 1048576 ∧ ∀ y0 ∈ x.Give, True)
theorem Pair.opn64 : Opn Try.prog 64 Pair.rp Pair.ok :=
 opn_iso (ok := fun (p : (List Int) × (List Int)) => (okS I64) p.1 ∧ (okS I64) p.2) _ (fun p => ⟨p.1, p.2⟩) (fun _ => rfl) (opn_struct Try.underlying64 rfl (by kernel_rfl) (opnF_cons rfl (by kernel_rfl) (opn_sl Try.underlying24 (by kernel_rfl) rfl (opn_i64 Try.underlying2)) (opnF_one rfl (by kernel_rfl) (opn_sl Try.underlying24 (by kernel_rfl) rfl (opn_i64 Try.underlying2)))))
theorem slices_Index_I_int64_eq (p0 : List Int) (p1 : Int) : slices_Index_I_int64 p0 p1 = some (match p0.findIdx? (fun x => p1 == x) with | some i => (i : Int) | none => -1) := by
 unfold slices_Index_I_int64
 rw [cnt_find0 (f := slices_Index_I_int64_b0 p0 p1) (fun x => p1 == x) (fun i => (i : Int)) (xs := p0) (fun i x hx => by
  unfold slices_Index_I_int64_b0
  simp only [idx_nat, hx, Option.bind_some]
  cases p1 == x <;> rfl), Option.bind_some]
 cases p0.findIdx? (fun x => p1 == x) <;> rfl
theorem slices_Contains_I_int64_eq (p0 : List Int) (p1 : Int) : slices_Contains_I_int64 p0 p1 = some (p0.any (fun x => p1 == x)) := by
 unfold slices_Contains_I_int64
 rw [slices_Index_I_int64_eq, Option.bind_some]
 exact congrArg some (findIdx_any _ p0)
theorem l_szInt64S_law {x : (List Int)} (ok : (okS I64) x) {m : Int} (h0 : 0 ≤ m) (h1 : m ≤ 1048576) : ∃ v, l_szInt64S x m = some v ∧ v ≤ m ∧ (0 ≤ v → (List.length x ≤ 1048576 ∧ ∀ y0 ∈ x, True)) := by
 have hl := ok.2
 unfold maxLen at hl
 unfold l_szInt64S
 rw [wr' (by omega) (by omega)]
 by_cases h : m - (x.length : Int) < 0
 · exact ⟨-1, by simp [h], by omega, by omega⟩
 · exact ⟨m - (x.length : Int), by simp only [h, decide_false, cond_false], by omega, fun _ => ⟨by omega, fun _ _ => trivial⟩⟩
theorem l_szInt64SS_law {x : (List (List Int))} (ok : (okS (okS I64)) x) {m : Int} (h0 : 0 ≤ m) (h1 : m ≤ 1048576) : ∃ v, l_szInt64SS x m = some v ∧ v ≤ m ∧ (0 ≤ v → (List.length x ≤ 1048576 ∧ ∀ y0 ∈ x, (List.length y0 ≤ 1048576 ∧ ∀ y1 ∈ y0, True))) := by
 have hl := ok.2
 unfold maxLen at hl
 unfold l_szInt64SS
 rw [wr' (by omega) (by omega)]
 by_cases h : m - (x.length : Int) < 0
 · exact ⟨-1, by simp [h], by omega, by omega⟩
 simp only [h, decide_false, cond_false]
 obtain ⟨o, ho, hm⟩ := cnt_out0 (f := l_szInt64SS_b0 x) (fun j s => 0 ≤ s ∧ s ≤ m ∧ ∀ (i : Nat) y, i < j → x[i]? = some y → (List.length y ≤ 1048576 ∧ ∀ y0 ∈ y, True)) (fun r => r = -1) (fun _ => False) x.length (s := m - x.length) ⟨by omega, by omega, fun _ _ h => absurd h (Nat.not_lt_zero _)⟩ (fun j s hj hi => by
  obtain ⟨i0, i1, i2⟩ := hi
  have hx : x[j]? = some x[j] := by simp [hj]
  obtain ⟨v, hv, hvm, hb⟩ := l_szInt64S_law (ok.1 _ (List.mem_of_getElem? hx)) i0 (by omega)
  unfold l_szInt64SS_b0
  rw [idx_nat, hx, Option.bind_some, hv, Option.bind_some]
  by_cases hv0 : v < 0
  · exact ⟨.inl (-1), by simp only [hv0, decide_true, cond_true], rfl⟩
  · refine ⟨.inr (.inr v), by simp only [hv0, decide_false, cond_false], by omega, by omega, fun i y hi hy => ?_⟩
    by_cases e : i = j
    · subst e; rw [hx] at hy; cases hy; exact hb (by omega)
    · exact i2 i y (by omega) hy)
 rw [ho, Option.bind_some]
 match o, hm with
 | .inl r, hm => exact ⟨r, rfl, by have : r = -1 := hm; omega, fun h => by have : r = -1 := hm; omega⟩
 | .inr s, hm =>
  obtain ⟨i0, i1, i2⟩ := hm.resolve_right id
  refine ⟨s, rfl, by omega, fun _ => ⟨by omega, fun y hy => ?_⟩⟩
  obtain ⟨i, hi⟩ := List.getElem?_of_mem hy
  exact i2 i y (List.getElem?_eq_some_iff.1 hi).1 hi
theorem l_szPair_law {x : Pair} (ok : Pair.ok x) {m : Int} (h0 : 0 ≤ m) (h1 : m ≤ 1048576) : ∃ v, l_szPair x m = some v ∧ v ≤ m ∧ (0 ≤ v → Pair.bd x) := by
 obtain ⟨ok0, ok1⟩ := ok
 unfold l_szPair
 obtain ⟨v0, e0, l0, b0⟩ := l_szInt64S_law ok0 (m := m) (by omega) (by omega)
 rw [e0, Option.bind_some]
 by_cases g0 : v0 < 0
 · exact ⟨-1, by simp only [g0, decide_true, cond_true], by omega, by omega⟩
 simp only [g0, decide_false, cond_false]
 obtain ⟨v1, e1, l1, b1⟩ := l_szInt64S_law ok1 (m := v0) (by omega) (by omega)
 rw [e1, Option.bind_some]
 by_cases g1 : v1 < 0
 · exact ⟨-1, by simp only [g1, decide_true, cond_true], by omega, by omega⟩
 simp only [g1, decide_false, cond_false]
 exact ⟨_, rfl, by omega, fun _ => ⟨b0 (by omega), b1 (by omega)⟩⟩
theorem l_szPairS_law {x : (List Pair)} (ok : (okS Pair.ok) x) {m : Int} (h0 : 0 ≤ m) (h1 : m ≤ 1048576) : ∃ v, l_szPairS x m = some v ∧ v ≤ m ∧ (0 ≤ v → (List.length x ≤ 1048576 ∧ ∀ y0 ∈ x, Pair.bd y0)) := by
 have hl := ok.2
 unfold maxLen at hl
 unfold l_szPairS
 rw [wr' (by omega) (by omega)]
 by_cases h : m - (x.length : Int) < 0
 · exact ⟨-1, by simp [h], by omega, by omega⟩
 simp only [h, decide_false, cond_false]
 obtain ⟨o, ho, hm⟩ := cnt_out0 (f := l_szPairS_b0 x) (fun j s => 0 ≤ s ∧ s ≤ m ∧ ∀ (i : Nat) y, i < j → x[i]? = some y → Pair.bd y) (fun r => r = -1) (fun _ => False) x.length (s := m - x.length) ⟨by omega, by omega, fun _ _ h => absurd h (Nat.not_lt_zero _)⟩ (fun j s hj hi => by
  obtain ⟨i0, i1, i2⟩ := hi
  have hx : x[j]? = some x[j] := by simp [hj]
  obtain ⟨v, hv, hvm, hb⟩ := l_szPair_law (ok.1 _ (List.mem_of_getElem? hx)) i0 (by omega)
  unfold l_szPairS_b0
  rw [idx_nat, hx, Option.bind_some, hv, Option.bind_some]
  by_cases hv0 : v < 0
  · exact ⟨.inl (-1), by simp only [hv0, decide_true, cond_true], rfl⟩
  · refine ⟨.inr (.inr v), by simp only [hv0, decide_false, cond_false], by omega, by omega, fun i y hi hy => ?_⟩
    by_cases e : i = j
    · subst e; rw [hx] at hy; cases hy; exact hb (by omega)
    · exact i2 i y (by omega) hy)
 rw [ho, Option.bind_some]
 match o, hm with
 | .inl r, hm => exact ⟨r, rfl, by have : r = -1 := hm; omega, fun h => by have : r = -1 := hm; omega⟩
 | .inr s, hm =>
  obtain ⟨i0, i1, i2⟩ := hm.resolve_right id
  refine ⟨s, rfl, by omega, fun _ => ⟨by omega, fun y hy => ?_⟩⟩
  obtain ⟨i, hi⟩ := List.getElem?_of_mem hy
  exact i2 i y (List.getElem?_eq_some_iff.1 hi).1 hi
theorem l_toInt64S_id {x : (List Int)} (h : (List.length x ≤ 1048576 ∧ ∀ y0 ∈ x, True)) : l_toInt64S x = some x := by
 unfold l_toInt64S
 rw [mkS_nat h.1 rfl, Option.bind_some]
 have hm := cnt_map (f := l_toInt64S_b0 x) id (xs := x) (ys := List.replicate x.length 0) (by simp) (fun i y ys hy hi => by
  unfold l_toInt64S_b0
  have hi2 : ys[i]? = some ys[i] := by simp [hi]
  simp only [idx_nat, hy, hi2, Option.bind_some, setI_nat hi, id])
 rw [List.map_id] at hm
 rw [hm]
 rfl
theorem l_toInt64SS_id {x : (List (List Int))} (h : (List.length x ≤ 1048576 ∧ ∀ y0 ∈ x, (List.length y0 ≤ 1048576 ∧ ∀ y1 ∈ y0, True))) : l_toInt64SS x = some x := by
 unfold l_toInt64SS
 rw [mkS_nat h.1 rfl, Option.bind_some]
 have hm := cnt_map (f := l_toInt64SS_b0 x) id (xs := x) (ys := List.replicate x.length []) (by simp) (fun i y ys hy hi => by
  unfold l_toInt64SS_b0
  have hi2 : ys[i]? = some ys[i] := by simp [hi]
  simp only [idx_nat, hy, hi2, Option.bind_some, l_toInt64S_id (h.2 y (List.mem_of_getElem? hy)), setI_nat hi, id])
 rw [List.map_id] at hm
 rw [hm]
 rfl
theorem l_toPair_id {x : Pair} (h : Pair.bd x) : l_toPair x = some x := by
 obtain ⟨h0, h1⟩ := h
 unfold l_toPair
 simp only [l_toInt64S_id h0, l_toInt64S_id h1, Option.bind_some]
theorem l_toPairS_id {x : (List Pair)} (h : (List.length x ≤ 1048576 ∧ ∀ y0 ∈ x, Pair.bd y0)) : l_toPairS x = some x := by
 unfold l_toPairS
 rw [mkS_nat h.1 rfl, Option.bind_some]
 have hm := cnt_map (f := l_toPairS_b0 x) id (xs := x) (ys := List.replicate x.length ⟨[], []⟩) (by simp) (fun i y ys hy hi => by
  unfold l_toPairS_b0
  have hi2 : ys[i]? = some ys[i] := by simp [hi]
  simp only [idx_nat, hy, hi2, Option.bind_some, l_toPair_id (h.2 y (List.mem_of_getElem? hy)), setI_nat hi, id])
 rw [List.map_id] at hm
 rw [hm]
 rfl
theorem l_eqInt64S_refl (x : (List Int)) : l_eqInt64S x x = some true := by
 unfold l_eqInt64S
 have hm := cnt_all0 (f := l_eqInt64S_b0 x x) (r := false) (fun _ => true) (xs := x) rfl (fun i y hy => by
  unfold l_eqInt64S_b0
  simp [idx_nat, hy])
 simp [hm, aft]
theorem l_eqInt64SS_refl (x : (List (List Int))) : l_eqInt64SS x x = some true := by
 unfold l_eqInt64SS
 have hm := cnt_all0 (f := l_eqInt64SS_b0 x x) (r := false) (fun _ => true) (xs := x) rfl (fun i y hy => by
  unfold l_eqInt64SS_b0
  simp [idx_nat, hy, l_eqInt64S_refl])
 simp [hm, aft]
theorem l_eqPair_refl (x : Pair) : l_eqPair x x = some true := by
 simp [l_eqPair, l_eqInt64S_refl, l_eqInt64S_refl]
theorem l_eqPairS_refl (x : (List Pair)) : l_eqPairS x x = some true := by
 unfold l_eqPairS
 have hm := cnt_all0 (f := l_eqPairS_b0 x x) (r := false) (fun _ => true) (xs := x) rfl (fun i y hy => by
  unfold l_eqPairS_b0
  simp [idx_nat, hy, l_eqPair_refl])
 simp [hm, aft]
theorem FnExactFairIn_of {p0 : (List (List Int))} (ok0 : (okS (okS I64)) p0) {p1 : (List Pair)} (ok1 : (okS Pair.ok) p1) {p2 : (List Int)} (ok2 : (okS I64) p2) (hm : (List.length p0 ≤ 1048576 ∧ ∀ y0 ∈ p0, (List.length y0 ≤ 1048576 ∧ ∀ y1 ∈ y0, True)) → (List.length p1 ≤ 1048576 ∧ ∀ y0 ∈ p1, Pair.bd y0) → (List.length p2 ≤ 1048576 ∧ ∀ y0 ∈ p2, True) → ∃ (r0 : Bool), s_FairIn p0 p1 p2 = some r0 ∧ i_FairIn p0 p1 p2 = some r0) : l_FnExactFairIn p0 p1 p2 = some true := by
 unfold l_FnExactFairIn
 by_cases g2 : 1048576 < (p2.length : Int)
 · simp only [g2, decide_true, cond_true]
 simp only [g2, decide_false, cond_false]
 have b2 : (List.length p2 ≤ 1048576 ∧ ∀ y0 ∈ p2, True) := ⟨by omega, fun _ _ => trivial⟩
 obtain ⟨v0, e0, l0, b0⟩ := l_szInt64SS_law ok0 (m := 1048576) (by omega) (by omega)
 rw [e0, Option.bind_some]
 by_cases g0 : v0 < 0
 · simp only [g0, decide_true, cond_true]
 simp only [g0, decide_false, cond_false]
 have b0 := b0 (by omega)
 obtain ⟨v1, e1, l1, b1⟩ := l_szPairS_law ok1 (m := v0) (by omega) (by omega)
 rw [e1, Option.bind_some]
 by_cases g1 : v1 < 0
 · simp only [g1, decide_true, cond_true]
 simp only [g1, decide_false, cond_false]
 have b1 := b1 (by omega)
 obtain ⟨r0, hs, hi⟩ := hm b0 b1 b2
 simp (disch := omega) only [l_toInt64SS_id b0, l_toPairS_id b1, l_toInt64S_id b2, l_eqInt64S_refl, l_eqInt64SS_refl, l_eqPairS_refl, hs, hi, Option.bind_some, cond_true, cond_false, Bool.not_true, Bool.not_false, bne_self_eq_false, dlt]
end Go.Proofs.Ytcmamhmpoinmnaa
