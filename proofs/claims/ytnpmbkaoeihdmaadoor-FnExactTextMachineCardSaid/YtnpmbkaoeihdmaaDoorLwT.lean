/- The structs opened; the sizes, the copies, the comparisons: plain laws. By program. -/
import Derived.Test.YtnpmbkaoeihdmaaDoorFnsTM
import Derived.Test.YtnpmbkaoeihdmaaDoorLaw
set_option linter.unusedVariables false
set_option linter.unusedSimpArgs false
namespace Go.Proofs.YtnpmbkaoeihdmaaDoor
open Go Go.Wk Go.Proofs
set_option maxRecDepth 100000

def Sig.ok (x : Sig) : Prop := I64 x.In ∧ I64 x.Out
def Sig.bd (x : Sig) : Prop := True ∧ True
theorem Sig.bdt (x : Sig) : Sig.bd x := by unfold Sig.bd; simp
theorem Sig.opn34 : Opn Tryd.prog 34 Sig.rp Sig.ok :=
  opn_iso (ok := fun (p : Int × Int) => I64 p.1 ∧ I64 p.2) _ (fun p => ⟨p.1, p.2⟩) (fun _ => rfl) (opn_struct Tryd.underlying34 rfl (by kernel_rfl) (opnF_cons rfl (by kernel_rfl) (opn_i64 Tryd.underlying2) (opnF_one rfl (by kernel_rfl) (opn_i64 Tryd.underlying2))))
def Machine.ok (x : Machine) : Prop := (okS (okS I64)) x.Next ∧ (okS (okS I64)) x.Out
def Machine.bd (x : Machine) : Prop := (List.length x.Next ≤ 1048576 ∧ ∀ y0 ∈ x.Next, (List.length y0 ≤ 1048576 ∧ ∀ y1 ∈ y0, True)) ∧ (List.length x.Out ≤ 1048576 ∧ ∀ y0 ∈ x.Out, (List.length y0 ≤ 1048576 ∧ ∀ y1 ∈ y0, True))
theorem Machine.opn42 : Opn Tryd.prog 42 Machine.rp Machine.ok :=
  opn_iso (ok := fun (p : (List (List Int)) × (List (List Int))) => (okS (okS I64)) p.1 ∧ (okS (okS I64)) p.2) _ (fun p => ⟨p.1, p.2⟩) (fun _ => rfl) (opn_struct Tryd.underlying42 rfl (by kernel_rfl) (opnF_cons rfl (by kernel_rfl) (opn_sl Tryd.underlying35 (by kernel_rfl) rfl (opn_sl Tryd.underlying60 (by kernel_rfl) rfl (opn_i64 Tryd.underlying2))) (opnF_one rfl (by kernel_rfl) (opn_sl Tryd.underlying35 (by kernel_rfl) rfl (opn_sl Tryd.underlying60 (by kernel_rfl) rfl (opn_i64 Tryd.underlying2))))))

theorem slices_IndexFunc_I_int64__i_areLetters_1_eq {p0 : (List Int)} {c1_0 : Int} (g : Int → Bool) (hp : ∀ x ∈ p0, i_areLetters_1 x c1_0 = some (g x)) : slices_IndexFunc_I_int64__i_areLetters_1 p0 c1_0 = some (match p0.findIdx? g with | some i => (i : Int) | none => -1) := by
  unfold slices_IndexFunc_I_int64__i_areLetters_1
  rw [cnt_find0 (f := slices_IndexFunc_I_int64__i_areLetters_1_b0 p0 c1_0) g (fun i => (i : Int)) (xs := p0) (fun i x hx => by
    unfold slices_IndexFunc_I_int64__i_areLetters_1_b0
    rw [idx_nat, hx, Option.bind_some, hp x (List.mem_of_getElem? hx), Option.bind_some]
    cases g x <;> rfl), Option.bind_some]
  cases p0.findIdx? g <;> rfl

theorem slices_ContainsFunc_I_int64__i_areLetters_1_eq {p0 : (List Int)} {c1_0 : Int} (g : Int → Bool) (hp : ∀ x ∈ p0, i_areLetters_1 x c1_0 = some (g x)) : slices_ContainsFunc_I_int64__i_areLetters_1 p0 c1_0 = some (p0.any g) := by
  unfold slices_ContainsFunc_I_int64__i_areLetters_1
  rw [slices_IndexFunc_I_int64__i_areLetters_1_eq g hp, Option.bind_some]
  exact congrArg some (findIdx_any g p0)

theorem l_toSig_id {x : Sig} (h : Sig.bd x) : l_toSig x = some x := by
  rfl

theorem l_eqInt64S_refl (x : (List Int)) : l_eqInt64S x x = some true := by
  unfold l_eqInt64S
  have hm := cnt_all0 (f := l_eqInt64S_b0 x x) (r := false) (fun _ => true) (xs := x) rfl (fun i y hy => by
    unfold l_eqInt64S_b0
    simp [idx_nat, hy])
  simp [hm, aft]

theorem l_eqInt64SS_refl (x : (List (List Int))) : l_eqInt64SS x x = some true := by
  unfold l_eqInt64SS
  have hm := cnt_all0 (f := l_eqInt64SS_b0 x x) (r := false) (fun _ => true) (xs := x) rfl (fun i y hy => by
    unfold l_eqInt64SS_b0
    simp [idx_nat, hy, l_eqInt64S_refl])
  simp [hm, aft]

theorem l_eqMachine_refl (x : Machine) : l_eqMachine x x = some true := by
  simp [l_eqMachine, l_eqInt64SS_refl, l_eqInt64SS_refl]

theorem l_markInt64S_law {x : (List Int)} {k : Int} (h0 : 0 ≤ k) (h1 : k + (ctL (fun _ => 1) x : Nat) ≤ 4611686018427387904) : l_markInt64S x k = some (k + (ctL (fun _ => 1) x : Nat), mkL (fun _ => 1) (fun k _ => k) k x) := by
  unfold l_markInt64S
  rw [cnt_mark0 (fun _ => 1) (fun k _ => k) 4611686018427387904 (fun i x k ys hx h0 h1 => by
    unfold l_markInt64S_b0
    simp only [idx_nat, hx, Option.bind_some]
    have hi := (List.getElem?_eq_some_iff.1 hx).1
    have h1 : k + 1 ≤ 4611686018427387904 := h1
    rw [setI_nat hi, Option.bind_some, wr' (by omega) (by omega)]
    rfl) h0 h1]
  rfl

theorem l_markInt64SS_law {x : (List (List Int))} {k : Int} (h0 : 0 ≤ k) (h1 : k + (ctL (ctL (fun _ => 1)) x : Nat) ≤ 4611686018427387904) : l_markInt64SS x k = some (k + (ctL (ctL (fun _ => 1)) x : Nat), mkL (ctL (fun _ => 1)) (mkL (fun _ => 1) (fun k _ => k)) k x) := by
  unfold l_markInt64SS
  rw [cnt_mark0 (ctL (fun _ => 1)) (mkL (fun _ => 1) (fun k _ => k)) 4611686018427387904 (fun i x k ys hx h0 h1 => by
    unfold l_markInt64SS_b0
    simp only [idx_nat, hx, Option.bind_some]
    have hi := (List.getElem?_eq_some_iff.1 hx).1
    rw [l_markInt64S_law h0 h1, Option.bind_some, setI_nat hi, Option.bind_some]) h0 h1]
  rfl

theorem l_markMachine_law {x : Machine} {k : Int} (h0 : 0 ≤ k) (h1 : k + ((ctL (ctL (fun _ => 1))) x.Next : Nat) + ((ctL (ctL (fun _ => 1))) x.Out : Nat) ≤ 4611686018427387904) : l_markMachine x k = some (k + ((ctL (ctL (fun _ => 1))) x.Next : Nat) + ((ctL (ctL (fun _ => 1))) x.Out : Nat), (mkL (ctL (fun _ => 1)) (mkL (fun _ => 1) (fun k _ => k))) (k) x.Next, (mkL (ctL (fun _ => 1)) (mkL (fun _ => 1) (fun k _ => k))) (k + ((ctL (ctL (fun _ => 1))) x.Next : Nat)) x.Out) := by
  unfold l_markMachine
  simp (disch := omega) only [l_markInt64SS_law, Option.bind_some]

theorem l_heldInt64S_law {x : (List Int)} {k : Int} (h0 : 0 ≤ k) (h1 : k + (ctL (fun _ => 1) x : Nat) ≤ 4611686018427387904) : l_heldInt64S (mkL (fun _ => 1) (fun k _ => k) k x) k = some (k + (ctL (fun _ => 1) x : Nat)) := by
  unfold l_heldInt64S
  rw [cnt_held0 (fun _ => 1) (fun k _ => k) 4611686018427387904 (fun i x k' hx h0 h1 => by
    unfold l_heldInt64S_b0
    have h1 : k' + 1 ≤ 4611686018427387904 := h1
    simp only [idx_nat, hx, Option.bind_some, bne_self_eq_false, cond_false]
    rw [wr' (by omega) (by omega)]
    rfl) h0 h1]
  rfl

theorem l_heldInt64SS_law {x : (List (List Int))} {k : Int} (h0 : 0 ≤ k) (h1 : k + (ctL (ctL (fun _ => 1)) x : Nat) ≤ 4611686018427387904) : l_heldInt64SS (mkL (ctL (fun _ => 1)) (mkL (fun _ => 1) (fun k _ => k)) k x) k = some (k + (ctL (ctL (fun _ => 1)) x : Nat)) := by
  unfold l_heldInt64SS
  rw [cnt_held0 (ctL (fun _ => 1)) (mkL (fun _ => 1) (fun k _ => k)) 4611686018427387904 (fun i x k' hx h0 h1 => by
    unfold l_heldInt64SS_b0
    simp only [idx_nat, hx, Option.bind_some]
    rw [l_heldInt64S_law h0 h1, Option.bind_some]
    simp (disch := omega) only [dlt, cond_false]) h0 h1]
  rfl

theorem l_heldMachine_law {x : Machine} {k : Int} (h0 : 0 ≤ k) (h1 : k + ((ctL (ctL (fun _ => 1))) x.Next : Nat) + ((ctL (ctL (fun _ => 1))) x.Out : Nat) ≤ 4611686018427387904) : l_heldMachine (⟨((mkL (ctL (fun _ => 1)) (mkL (fun _ => 1) (fun k _ => k))) (k) x.Next), ((mkL (ctL (fun _ => 1)) (mkL (fun _ => 1) (fun k _ => k))) (k + ((ctL (ctL (fun _ => 1))) x.Next : Nat)) x.Out)⟩ : Machine) k = some (k + ((ctL (ctL (fun _ => 1))) x.Next : Nat) + ((ctL (ctL (fun _ => 1))) x.Out : Nat)) := by
  unfold l_heldMachine
  simp (disch := omega) only [l_heldInt64SS_law, Option.bind_some, dlt, cond_false]

theorem FnExactTextMachine_of {p0 : Sig} (ok0 : Sig.ok p0) {p1 : ByteArray} (ok1 : okStr p1) (hm : p1.size ≤ 1048576 → ∃ (r0 : Machine) (r1 : Bool), s_TextMachine p0 p1 = some (r0, r1) ∧ i_TextMachine p0 p1 = some (r0, r1) ∧ ((ctL (ctL (fun _ => 1))) r0.Next : Nat) ≤ 1000000000000000 ∧ ((ctL (ctL (fun _ => 1))) r0.Out : Nat) ≤ 1000000000000000) : l_FnExactTextMachine p0 p1 = some true := by
  unfold l_FnExactTextMachine
  by_cases g1 : 1048576 < (p1.size : Int)
  · simp only [g1, decide_true, cond_true]
  simp only [g1, decide_false, cond_false]
  have b1 : p1.size ≤ 1048576 := by omega
  obtain ⟨r0, r1, hs, hi, c0, c1⟩ := hm b1
  simp (disch := omega) only [l_toSig_id (Sig.bdt _), l_eqMachine_refl, l_markMachine_law, l_heldMachine_law, hs, hi, Option.bind_some, cond_true, cond_false, Bool.not_true, Bool.not_false, bne_self_eq_false, dlt]

end Go.Proofs.YtnpmbkaoeihdmaaDoor
