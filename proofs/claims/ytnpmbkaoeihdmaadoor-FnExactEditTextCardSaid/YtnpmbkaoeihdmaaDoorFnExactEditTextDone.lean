/- Proved here: loop.example/g00869/laws.FnExactEditText returns true at every input that its types allow, and its input reads as it did; no further condition. -/
import Derived.Test.YtnpmbkaoeihdmaaDoorRows
import Derived.Test.YtnpmbkaoeihdmaaDoorEditTextE
import Derived.Test.YtnpmbkaoeihdmaaDoorFnsE0
import Derived.Test.YtnpmbkaoeihdmaaDoorCards
import Derived.Test.YtnpmbkaoeihdmaaDoorTie
import Derived.Test.YtnpmbkaoeihdmaaDoorLds
import Derived.WalkKit
import Derived.ProofKit
import Derived.OpenShut
import Derived.ShutString
import Derived.ChangeOld
import Derived.Below
import Derived.LaidMore
import Derived.Stop.Joined
import Derived.SevenTiedAt
import Derived.Handed
import Derived.Lib.LaidTab
import Derived.OpenVars
namespace Go.Proofs.YtnpmbkaoeihdmaaDoor.FnExactEditTextCardSaidDone
open Go.ChangeShapes Go.WideShapes Go.ChangeAt Go.RowKit Go.Wk
set_option linter.unusedVariables false
set_option linter.unusedSimpArgs false

theorem own : ownKnob Tryd.prog.godebug = none := by kernel_rfl
theorem laidOut : laidOutB Tryd.prog = true := by kernel_rfl

theorem door_met (os : Os) (args : Array Value) : laidMetH Tryd.prog Rows.fnExactEditTextRow.laid ((World.doorLaid Tryd.prog 400 os).forCall (fun _ _ => 0) ⟨#[], args, []⟩).memory :=
  laidMetH_of_parts3 (fuel := 8) (laidMet_of_run' 8 (by kernel_rfl) (by kernel_rfl)) (by kernel_rfl) (by kernel_rfl)
theorem ghE0 {W : World} (h : laidMetH Tryd.prog Rows.fnExactEditTextRow.laid W) : Rd Rp.str (fun _ => 0) W 0 (some ⟨0, 0, none⟩) 4 namesE0 :=
  rd_of_laid (g := 0) (name := "loop.example/g00869/impl.editNames") (by kernel_rfl) (by kernel_rfl) Tryd.underlying71 Tryd.underlying9 (by kernel_rfl) (by kernel_rfl) rfl (by decide) (fun x hx => by
    rw [MakeChecks.laidMetH_plain _ _ _ (by kernel_rfl)] at h
    exact laid_at h hx) (by simp [Rows.fnExactEditTextRow]; first | exact .inl rfl | exact .inr (.inl rfl) | exact .inr (.inr (.inl rfl)) | exact .inr (.inr (.inr (.inl rfl))) | exact .inr (.inr (.inr (.inr (.inl rfl)))) | exact .inr (.inr (.inr (.inr (.inr rfl)))) | exact .inr (.inr (.inr (.inr rfl))) | exact .inr (.inr (.inr rfl)) | exact .inr (.inr rfl) | exact .inr rfl | rfl)
theorem ghT {W : World} (h : laidMetH Tryd.prog Rows.fnExactEditTextRow.laid W) : Tb Tryd.prog "internal/strconv.uint64pow10" .u64 Lib.pow10Tab (fun _ => 0) W :=
  tb_of_laid (g := 2) (by kernel_rfl) (by kernel_rfl) Tryd.underlying140 Tryd.underlying54 (by kernel_rfl) (by kernel_rfl) (fun x hx => by
    rw [MakeChecks.laidMetH_plain _ _ _ (by kernel_rfl)] at h
    exact laid_at h hx) (by simp [Rows.fnExactEditTextRow]; first | exact .inl rfl | exact .inr (.inl rfl) | exact .inr (.inr (.inl rfl)) | exact .inr (.inr (.inr (.inl rfl))) | exact .inr (.inr (.inr (.inr (.inl rfl)))) | exact .inr (.inr (.inr (.inr (.inr rfl)))) | exact .inr (.inr (.inr (.inr rfl))) | exact .inr (.inr (.inr rfl)) | exact .inr (.inr rfl) | exact .inr rfl | rfl)
set_option maxRecDepth 100000 in
theorem lifted (os : Os) (started : os.Started) (H : Type) (enc : TypeId × Value → H) :
    ReturnsInHanded {} Tryd.checked os 4 .any (fun w args => (Rows.fnExactEditTextSpec.pre enc Tryd.prog Tryd.f4 [] false w args ∧ laidMetH Tryd.prog Rows.fnExactEditTextRow.laid w) ∧ sizedMet enc Tryd.prog Tryd.f4 (OpenSpec.ofChange Rows.fnExactEditTextSpec) false w args)
      (Rows.fnExactEditTextSpec.post enc Tryd.prog Tryd.f4 false true false false) := by
  refine wrapLS (C := Tryd.checked) (X := fun w _ => laidMetH Tryd.prog Rows.fnExactEditTextRow.laid w) (fun _ _ _ hh h => h.of_heap hh) own started (by kernel_rfl) Tryd.func4
    (ChangeSpec.witness_shaped (enc := enc) (C := Tryd.checked) (os := os) (X := fun w _ => laidMetH Tryd.prog Rows.fnExactEditTextRow.laid w) false (World.doorLaid Tryd.prog 400 os) #[.agg #[.int .i64 0, .int .i64 0, .int .i64 0]] 8 rfl (World.shaped_of_RefB (by kernel_rfl) (by kernel_rfl)) (by kernel_rfl) (by kernel_rfl) (by kernel_rfl) (door_met os _)) ?_
  intro W base args ds gs before hval0 hW hcnd hL hSh
  have hval : ∀ (j : Nat) t v, Tryd.f4.params[j]? = some t → args[j]? = some v → Value.okWide Tryd.prog W .any base t v := hval0
  have hW' := hW
  obtain ⟨p, q, hA0, hV, rfl, hfz, hnd⟩ := hW
  have hA : DataW.TrodAll enc Tryd.prog W 0 (fun _ => true) true Tryd.f4.params.toList args.toList ds p := hA0
  rw [Tryd.params4] at hA hval
  obtain ⟨v0, vs0, d0, ds0, p0, q0, hargs, rfl, rfl, h0, r0⟩ := trodAll_cons hA
  obtain ⟨rfl, rfl, rfl⟩ := trodAll_nil r0
  obtain rfl : args = #[v0] := by cases args; simp_all
  have hV2 := hV
  obtain ⟨gg, tg, cg, fg, dg, pg, rfl, hgg, htg, hvg, hdg, hqg⟩ := trodVars_one hV
  have k0 := h0
  have lt0 : ∀ x ∈ p0, x.block < W.heap.size := by obtain ⟨m, hm⟩ := k0; exact DataW.trod_lt m _ _ _ hm
  obtain ⟨x0, hr0, ok0⟩ := opn_arg Edit.opn30 h0
  obtain ⟨cs0, rfl, _⟩ := okWide_struct Tryd.underlying30 (hval 0 30 v0 rfl rfl)
  have e0 := Edit.un hr0
  obtain rfl : cs0 = #[.int .i64 x0.Kind, .int .i64 x0.V, .int .i64 x0.N] := Array.toList_inj.1 e0
  clear hA0 hval0
  have hwalk := l_FnExactEditText_ok (κ := fun _ => 0) (p0 := x0) (ghE0 hL) (ghT hL) (FnExactEditText_law ok0)
  refine Calls.mono hwalk fun e W' ⟨v, he, _, hv, hext⟩ => ?_
  have bel := hext.toExt.below
  subst he hv
  exact ⟨_, rfl, _, _, _, [], _, _, hW', trodAll_mk1 (shut_bool Tryd.underlying4 _), (trodAll_cons_mk (Below.trod laidOut (by kernel_rfl) (of_decide_eq_true (by kernel_rfl)) k0 bel lt0) trodAll_mk0), Below.trodVars laidOut bel (by kernel_rfl) hV2, bel.frame _, fun h => by cases h⟩

theorem over : Rows.fnExactEditTextRow.holds Tryd.pinned (OpenSpec.ofChange Rows.fnExactEditTextSpec) :=
  OpenClaim.holds_of_wide 4 Tryd.f4 rfl rfl rfl rfl rfl rfl rfl ⟨rfl, rfl, rfl, rfl, rfl⟩ rfl rfl rfl rfl rfl (by kernel_rfl) Tryd.func4 (by kernel_rfl)
    (of_decide_eq_true (by kernel_rfl)) (by unfold Func.isWrapper; first | (rw [if_pos (by decide +kernel)]; kernel_rfl) | (rw [if_neg (by decide +kernel)]; exact ⟨rfl, rfl⟩))
    (fun os started H enc _ => lifted os started H enc)

theorem proved : Rows.FnExactEditTextCardSaid :=
  Claim7.holds_tied_plain_at .later [] [.data, .data, .data, .widerDeep] true (true, "154359c168a87a513ec66f8c0d4e531579a8360c6231bf4e9a03e2cd4fc74b0c") false
    over (fun _ h => by cases h) (by kernel_rfl) (fun _ h => by cases h) fnExactEditText_row_tie rfl ⟨rfl, rfl⟩ (by kernel_rfl) rfl
    (fun f fn hf hfn => by
      obtain rfl : f = 4 := Option.some.inj ((show Tryd.prog.funcNamed "loop.example/g00869/laws.FnExactEditText" = some 4 by kernel_rfl).symm.trans hf) |>.symm
      obtain rfl : fn = Tryd.f4 := (Option.some.inj (Tryd.func4.symm.trans hfn)).symm
      exact ⟨by kernel_rfl, fun j t ht => by
        rw [Tryd.params4] at ht
        have hm : t ∈ [30] := by simpa using Array.mem_of_getElem? ht
        have hall : ([30].all fun u => !Tryd.prog.wantsStandIn u) = true := by kernel_rfl
        exact (show Tryd.prog.wantsStandIn t = false by simpa using List.all_eq_true.1 hall t hm)⟩)
    (by kernel_rfl)
#print axioms proved
end Go.Proofs.YtnpmbkaoeihdmaaDoor.FnExactEditTextCardSaidDone
