/- Proved here: loop.example/g00869/laws.FnExactTextEdit returns true at every input that its types allow, and its input reads as it did; no further condition. -/
import Derived.Test.YtnpmbkaoeihdmaaDoorRows
import Derived.Test.YtnpmbkaoeihdmaaDoorTextEditD
import Derived.Test.YtnpmbkaoeihdmaaDoorFnsD0
import Derived.Test.YtnpmbkaoeihdmaaDoorCards
import Derived.Test.YtnpmbkaoeihdmaaDoorTie
import Derived.Test.YtnpmbkaoeihdmaaDoorLds
import Derived.WalkKit
import Derived.ProofKit
import Derived.OpenShut
import Derived.ShutString
import Derived.ChangeOld
import Derived.Below
import Derived.LaidMore
import Derived.Lay
import Derived.Stop.Joined
import Derived.SevenTiedAt
import Derived.Handed
import Derived.Lib.LaidTab
import Derived.OpenVars
namespace Go.Proofs.YtnpmbkaoeihdmaaDoor.FnExactTextEditCardSaidDone
open Go.ChangeShapes Go.WideShapes Go.ChangeAt Go.RowKit Go.Wk
set_option linter.unusedVariables false
set_option linter.unusedSimpArgs false

theorem own : ownKnob Tryd.prog.godebug = none := by kernel_rfl
theorem laidOut : laidOutB Tryd.prog = true := by kernel_rfl

theorem ghE0 {W : World} (h : laidMetH Tryd.prog Rows.fnExactTextEditRow.laid W) : Rd Rp.str (fun _ => 0) W 0 (some ⟨0, 0, none⟩) 4 namesE0 :=
  rd_of_laid (g := 0) (name := "loop.example/g00869/impl.editNames") (by kernel_rfl) (by kernel_rfl) Tryd.underlying71 Tryd.underlying9 (by kernel_rfl) (by kernel_rfl) rfl (by decide) (fun x hx => by
    rw [MakeChecks.laidMetH_plain _ _ _ (by kernel_rfl)] at h
    exact laid_at h hx) (by simp [Rows.fnExactTextEditRow]; first | exact .inl rfl | exact .inr (.inl rfl) | exact .inr (.inr (.inl rfl)) | exact .inr (.inr (.inr (.inl rfl))) | exact .inr (.inr (.inr (.inr (.inl rfl)))) | exact .inr (.inr (.inr (.inr (.inr rfl)))) | exact .inr (.inr (.inr (.inr rfl))) | exact .inr (.inr (.inr rfl)) | exact .inr (.inr rfl) | exact .inr rfl | rfl)
theorem ghM {W : World} (h : W.ShapedOpen Tryd.prog) : Vm 1 (fun _ => 0) W :=
  vm_of_shaped (t := 3) (zero := #[.int .i64 0]) h (of_decide_eq_true (by kernel_rfl)) (by kernel_rfl) rfl (by kernel_rfl) (by kernel_rfl) Tryd.underlying3
set_option maxRecDepth 100000 in
theorem lifted (os : Os) (started : os.Started) (H : Type) (enc : TypeId × Value → H) :
    ReturnsInHanded {} Tryd.checked os 6 .any (fun w args => (Rows.fnExactTextEditSpec.pre enc Tryd.prog Tryd.f6 [] false w args ∧ laidMetH Tryd.prog Rows.fnExactTextEditRow.laid w) ∧ sizedMet enc Tryd.prog Tryd.f6 (OpenSpec.ofChange Rows.fnExactTextEditSpec) false w args)
      (Rows.fnExactTextEditSpec.post enc Tryd.prog Tryd.f6 false true false false) := by
  refine wrapLS (C := Tryd.checked) (X := fun w _ => laidMetH Tryd.prog Rows.fnExactTextEditRow.laid w) (fun _ _ _ hh h => h.of_heap hh) own started (by kernel_rfl) Tryd.func6
    (ChangeSpec.witness_shaped (enc := enc) (C := Tryd.checked) (os := os) (X := fun w _ => laidMetH Tryd.prog Rows.fnExactTextEditRow.laid w) false (World.laidAll Tryd.prog os Rows.fnExactTextEditRow.laid) #[.string ByteArray.empty] 8 (World.laidAll_os _ _ _) (World.shaped_of_ZipB (by kernel_rfl) (by kernel_rfl)) (by kernel_rfl) (by kernel_rfl) (by kernel_rfl)
      (by rw [MakeChecks.laidMetH_plain _ _ _ (by kernel_rfl)]; exact laidMet_laidAll _ (by kernel_rfl) (by kernel_rfl))) ?_
  intro W base args ds gs before hval0 hW hcnd hL hSh
  have hval : ∀ (j : Nat) t v, Tryd.f6.params[j]? = some t → args[j]? = some v → Value.okWide Tryd.prog W .any base t v := hval0
  have hW' := hW
  obtain ⟨p, q, hA0, hV, rfl, hfz, hnd⟩ := hW
  have hA : DataW.TrodAll enc Tryd.prog W 0 (fun _ => true) true Tryd.f6.params.toList args.toList ds p := hA0
  rw [Tryd.params6] at hA hval
  obtain ⟨v0, vs0, d0, ds0, p0, q0, hargs, rfl, rfl, h0, r0⟩ := trodAll_cons hA
  obtain ⟨rfl, rfl, rfl⟩ := trodAll_nil r0
  obtain rfl : args = #[v0] := by cases args; simp_all
  have hV2 := hV
  obtain ⟨gg, tg, cg, fg, dg, pg, rfl, hgg, htg, hvg, hdg, hqg⟩ := trodVars_one hV
  have k0 := h0
  have lt0 : ∀ x ∈ p0, x.block < W.heap.size := by obtain ⟨m, hm⟩ := k0; exact DataW.trod_lt m _ _ _ hm
  obtain ⟨x0, hr0, ok0⟩ := opn_arg (opn_str Tryd.underlying9) h0
  obtain ⟨y0, rfl⟩ := okWide_string Tryd.underlying9 (hval 0 9 v0 rfl rfl)
  obtain rfl : x0 = y0 := by
    have e : [Value.string y0] = [Value.string x0] := hr0
    simpa using e.symm
  clear hA0 hval0
  have hwalk := l_FnExactTextEdit_ok (κ := fun _ => 0) (p0 := x0) (ghE0 hL) (ghM hSh) (FnExactTextEdit_law ok0)
  refine Calls.mono hwalk fun e W' ⟨v, he, _, hv, hext⟩ => ?_
  have bel := hext.toExt.below
  subst he hv
  exact ⟨_, rfl, _, _, _, [], _, _, hW', trodAll_mk1 (shut_bool Tryd.underlying4 _), (trodAll_cons_mk (Below.trod laidOut (by kernel_rfl) (of_decide_eq_true (by kernel_rfl)) k0 bel lt0) trodAll_mk0), Below.trodVars laidOut bel (by kernel_rfl) hV2, bel.frame _, fun h => by cases h⟩

theorem over : Rows.fnExactTextEditRow.holds Tryd.pinned (OpenSpec.ofChange Rows.fnExactTextEditSpec) :=
  OpenClaim.holds_of_wide 6 Tryd.f6 rfl rfl rfl rfl rfl rfl rfl ⟨rfl, rfl, rfl, rfl, rfl⟩ rfl rfl rfl rfl rfl (by kernel_rfl) Tryd.func6 (by kernel_rfl)
    (of_decide_eq_true (by kernel_rfl)) (by unfold Func.isWrapper; first | (rw [if_pos (by decide +kernel)]; kernel_rfl) | (rw [if_neg (by decide +kernel)]; exact ⟨rfl, rfl⟩))
    (fun os started H enc _ => lifted os started H enc)

theorem proved : Rows.FnExactTextEditCardSaid :=
  Claim7.holds_tied_plain_at .later [] [.data, .widerDeep, .pinned] true (true, "154359c168a87a513ec66f8c0d4e531579a8360c6231bf4e9a03e2cd4fc74b0c") false
    over (fun _ h => by cases h) (by kernel_rfl) (fun _ h => by cases h) fnExactTextEdit_row_tie rfl ⟨rfl, rfl⟩ (by kernel_rfl) rfl
    (fun f fn hf hfn => by
      obtain rfl : f = 6 := Option.some.inj ((show Tryd.prog.funcNamed "loop.example/g00869/laws.FnExactTextEdit" = some 6 by kernel_rfl).symm.trans hf) |>.symm
      obtain rfl : fn = Tryd.f6 := (Option.some.inj (Tryd.func6.symm.trans hfn)).symm
      exact ⟨by kernel_rfl, fun j t ht => by
        rw [Tryd.params6] at ht
        have hm : t ∈ [9] := by simpa using Array.mem_of_getElem? ht
        have hall : ([9].all fun u => !Tryd.prog.wantsStandIn u) = true := by kernel_rfl
        exact (show Tryd.prog.wantsStandIn t = false by simpa using List.all_eq_true.1 hall t hm)⟩)
    (by kernel_rfl)
#print axioms proved
end Go.Proofs.YtnpmbkaoeihdmaaDoor.FnExactTextEditCardSaidDone
