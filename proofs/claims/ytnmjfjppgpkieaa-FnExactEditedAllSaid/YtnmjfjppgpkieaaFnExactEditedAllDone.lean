/- Proved here: loop.example/g00869/laws.FnExactEditedAll returns true at every input that its types allow, and its input reads as it did; no further condition. -/
import Derived.Test.YtnmjfjppgpkieaaRows
import Derived.Test.YtnmjfjppgpkieaaEditedAllE
import Derived.Test.YtnmjfjppgpkieaaFnsE5
import Derived.WalkKit
import Derived.ProofKit
import Derived.OpenShut
import Derived.ShutString
import Derived.ChangeOld
import Derived.Below
namespace Go.Proofs.Ytnmjfjppgpkieaa.FnExactEditedAllSaidDone
open Go.ChangeShapes Go.WideShapes Go.ChangeAt Go.RowKit Go.Wk
set_option linter.unusedVariables false
set_option linter.unusedSimpArgs false

theorem own : ownKnob Try.prog.godebug = none := by kernel_rfl
theorem laidOut : laidOutB Try.prog = true := by kernel_rfl

set_option maxRecDepth 100000 in
theorem lifted (os : Os) (started : os.Started) (H : Type) (enc : TypeId × Value → H) :
    ReturnsInHanded {} Try.checked os 6 .any (Rows.fnExactEditedAllSpec.pre6 enc Try.prog Try.f6 Rows.fnExactEditedAllRow.domain false) (Rows.fnExactEditedAllSpec.post enc Try.prog Try.f6 false true false false) := by
  refine returnsInHanded_of_change (C := Try.checked) own started (by kernel_rfl) Try.func6
    (ChangeSpec.witness6 (enc := enc) (C := Try.checked) false ⟨#[], #[.agg #[.slice none 0 0, .slice none 0 0, .slice none 0 0], .slice none 0 0], []⟩ 8 (by kernel_rfl) (by kernel_rfl) (by kernel_rfl) (by kernel_rfl)) ?_
  intro W base args ds gs before hval0 hW hcnd _
  have hval : ∀ (j : Nat) t v, Try.f6.params[j]? = some t → args[j]? = some v → Value.okWide Try.prog W .any base t v := hval0
  have hW' := hW
  obtain ⟨p, q, hA0, hV, rfl, hfz, hnd⟩ := hW
  have hA : DataW.TrodAll enc Try.prog W 0 (fun _ => true) true Try.f6.params.toList args.toList ds p := hA0
  rw [Try.params6] at hA hval
  obtain ⟨v0, vs0, d0, ds0, p0, q0, hargs, rfl, rfl, h0, r0⟩ := trodAll_cons hA
  obtain ⟨v1, vs1, d1, ds1, p1, q1, rfl, rfl, rfl, h1, r1⟩ := trodAll_cons r0
  obtain ⟨rfl, rfl, rfl⟩ := trodAll_nil r1
  obtain rfl : args = #[v0, v1] := by cases args; simp_all
  obtain ⟨rfl, rfl⟩ := trodVars_none hV
  have k0 := h0
  have lt0 : ∀ x ∈ p0, x.block < W.heap.size := by obtain ⟨m, hm⟩ := k0; exact DataW.trod_lt m _ _ _ hm
  obtain ⟨x0, hr0, ok0⟩ := opn_arg Parity.opn68 h0
  obtain ⟨cs0, rfl, _⟩ := okWide_struct Try.underlying68 (hval 0 68 v0 rfl rfl)
  obtain ⟨a0_0, c0_0, a0_1, c0_1, a0_2, c0_2, e0, hs0_0, hs0_1, hs0_2⟩ := Parity.un hr0
  obtain rfl : cs0 = #[.slice a0_0 x0.Arena.Owner.length c0_0, .slice a0_1 x0.Arena.Next.length c0_1, .slice a0_2 x0.Prio.length c0_2] := Array.toList_inj.1 e0
  have k1 := h1
  have lt1 : ∀ x ∈ p1, x.block < W.heap.size := by obtain ⟨m, hm⟩ := k1; exact DataW.trod_lt m _ _ _ hm
  obtain ⟨x1, hr1, ok1⟩ := opn_arg (opn_sl Try.underlying83 (by kernel_rfl) rfl Edit.opn70) h1
  obtain ⟨a1, l1, c1, rfl⟩ := okWide_slice Try.underlying83 (hval 1 83 v1 rfl rfl)
  obtain ⟨a', c', e1, hs1⟩ := hr1
  simp only [Value.cells, List.cons.injEq, and_true, Value.slice.injEq] at e1
  obtain ⟨rfl, rfl, rfl⟩ := e1
  clear hA0 hval0
  have hwalk := l_FnExactEditedAll_ok (κ := fun _ => 0) (p0 := x0) (p1 := x1) hs0_0 hs0_1 hs0_2 hs1 (FnExactEditedAll_law ok0 ok1)
  refine Calls.mono hwalk fun e W' ⟨v, he, _, hv, hext⟩ => ?_
  have bel := hext.toExt.below
  subst he hv
  exact ⟨_, rfl, _, _, _, [], _, [], hW', trodAll_mk1 (shut_bool Try.underlying4 _), (trodAll_cons_mk (Below.trod laidOut (by kernel_rfl) (of_decide_eq_true (by kernel_rfl)) k0 bel lt0) (trodAll_cons_mk (Below.trod laidOut (by kernel_rfl) (of_decide_eq_true (by kernel_rfl)) k1 bel lt1) trodAll_mk0)), rfl, bel.frame _, fun h => by cases h⟩

theorem over : Rows.fnExactEditedAllRow.holds Try.pinned (OpenSpec.ofChange Rows.fnExactEditedAllSpec) :=
  OpenClaim.holds_of_wide 6 Try.f6 rfl rfl rfl rfl rfl rfl rfl ⟨rfl, rfl, rfl, rfl, rfl⟩ rfl rfl rfl rfl rfl (by kernel_rfl) Try.func6 (by kernel_rfl)
    (of_decide_eq_true (by kernel_rfl)) (by unfold Func.isWrapper; first | (rw [if_pos (by decide +kernel)]; kernel_rfl) | (rw [if_neg (by decide +kernel)]; exact ⟨rfl, rfl⟩))
    (fun os started H enc _ => lifted os started H enc)

theorem proved : Rows.FnExactEditedAllSaid := over
#print axioms proved
end Go.Proofs.Ytnmjfjppgpkieaa.FnExactEditedAllSaidDone
