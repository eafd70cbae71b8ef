/- Proved here: loop.example/g00869/laws.FnEditText returns true at every input that its types allow, and its input reads as it did; no further condition. -/
import Derived.Test.YtnpmbkaoeihdmaaDoorRows
import Derived.Test.YtnpmbkaoeihdmaaDoorFnEditTextF
import Derived.Test.YtnpmbkaoeihdmaaDoorFnsF3
import Derived.Test.YtnpmbkaoeihdmaaDoorCards
import Derived.Test.YtnpmbkaoeihdmaaDoorTie
import Derived.Test.YtnpmbkaoeihdmaaDoorLds
import Derived.WalkKit
import Derived.ProofKit
import Derived.OpenShut
import Derived.ShutString
import Derived.ChangeOld
import Derived.Below
import Derived.LaidMore
import Derived.Lay
import Derived.Stop.Joined
import Derived.SevenTiedAt
import Derived.Handed
import Derived.Lib.LaidTab
import Derived.OpenVars
namespace Go.Proofs.YtnpmbkaoeihdmaaDoor.FnEditTextCardSaidDone
open Go.ChangeShapes Go.WideShapes Go.ChangeAt Go.RowKit Go.Wk
set_option linter.unusedVariables false
set_option linter.unusedSimpArgs false

theorem own : ownKnob Tryd.prog.godebug = none := by kernel_rfl
theorem laidOut : laidOutB Tryd.prog = true := by kernel_rfl

theorem ghE0 {W : World} (h : laidMetH Tryd.prog Rows.fnEditTextRow.laid W) : Rd Rp.str (fun _ => 0) W 0 (some ⟨0, 0, none⟩) 4 namesE0 :=
  rd_of_laid (g := 0) (name := "loop.example/g00869/impl.editNames") (by kernel_rfl) (by kernel_rfl) Tryd.underlying71 Tryd.underlying9 (by kernel_rfl) (by kernel_rfl) rfl (by decide) (fun x hx => by
    rw [MakeChecks.laidMetH_plain _ _ _ (by kernel_rfl)] at h
    exact laid_at h hx) (by simp [Rows.fnEditTextRow]; first | exact .inl rfl | exact .inr (.inl rfl) | exact .inr (.inr (.inl rfl)) | exact .inr (.inr (.inr (.inl rfl))) | exact .inr (.inr (.inr (.inr (.inl rfl)))) | exact .inr (.inr (.inr (.inr (.inr rfl)))) | exact .inr (.inr (.inr (.inr rfl))) | exact .inr (.inr (.inr rfl)) | exact .inr (.inr rfl) | exact .inr rfl | rfl)
theorem ghM {W : World} (h : W.ShapedOpen Tryd.prog) : Vm 1 (fun _ => 0) W :=
  vm_of_shaped (t := 3) (zero := #[.int .i64 0]) h (of_decide_eq_true (by kernel_rfl)) (by kernel_rfl) rfl (by kernel_rfl) (by kernel_rfl) Tryd.underlying3
theorem ghT {W : World} (h : laidMetH Tryd.prog Rows.fnEditTextRow.laid W) : Tb Tryd.prog "internal/strconv.uint64pow10" .u64 Lib.pow10Tab (fun _ => 0) W :=
  tb_of_laid (g := 2) (by kernel_rfl) (by kernel_rfl) Tryd.underlying140 Tryd.underlying54 (by kernel_rfl) (by kernel_rfl) (fun x hx => by
    rw [MakeChecks.laidMetH_plain _ _ _ (by kernel_rfl)] at h
    exact laid_at h hx) (by simp [Rows.fnEditTextRow]; first | exact .inl rfl | exact .inr (.inl rfl) | exact .inr (.inr (.inl rfl)) | exact .inr (.inr (.inr (.inl rfl))) | exact .inr (.inr (.inr (.inr (.inl rfl)))) | exact .inr (.inr (.inr (.inr (.inr rfl)))) | exact .inr (.inr (.inr (.inr rfl))) | exact .inr (.inr (.inr rfl)) | exact .inr (.inr rfl) | exact .inr rfl | rfl)
set_option maxRecDepth 100000 in
theorem lifted (os : Os) (started : os.Started) (H : Type) (enc : TypeId × Value → H) :
    ReturnsInHanded {} Tryd.checked os 3 .any (fun w args => (Rows.fnEditTextSpec.pre enc Tryd.prog Tryd.f3 [] false w args ∧ laidMetH Tryd.prog Rows.fnEditTextRow.laid w) ∧ sizedMet enc Tryd.prog Tryd.f3 (OpenSpec.ofChange Rows.fnEditTextSpec) false w args)
      (Rows.fnEditTextSpec.post enc Tryd.prog Tryd.f3 false true false false) := by
  refine wrapLS (C := Tryd.checked) (X := fun w _ => laidMetH Tryd.prog Rows.fnEditTextRow.laid w) (fun _ _ _ hh h => h.of_heap hh) own started (by kernel_rfl) Tryd.func3
    (ChangeSpec.witness_shaped (enc := enc) (C := Tryd.checked) (os := os) (X := fun w _ => laidMetH Tryd.prog Rows.fnEditTextRow.laid w) false (World.laidAll Tryd.prog os Rows.fnEditTextRow.laid) #[.slice none 0 0] 8 (World.laidAll_os _ _ _) (World.shaped_of_ZipB (by kernel_rfl) (by kernel_rfl)) (by kernel_rfl) (by kernel_rfl) (by kernel_rfl)
      (by rw [MakeChecks.laidMetH_plain _ _ _ (by kernel_rfl)]; exact laidMet_laidAll _ (by kernel_rfl) (by kernel_rfl))) ?_
  intro W base args ds gs before hval0 hW hcnd hL hSh
  have hval : ∀ (j : Nat) t v, Tryd.f3.params[j]? = some t → args[j]? = some v → Value.okWide Tryd.prog W .any base t v := hval0
  have hW' := hW
  obtain ⟨p, q, hA0, hV, rfl, hfz, hnd⟩ := hW
  have hA : DataW.TrodAll enc Tryd.prog W 0 (fun _ => true) true Tryd.f3.params.toList args.toList ds p := hA0
  rw [Tryd.params3] at hA hval
  obtain ⟨v0, vs0, d0, ds0, p0, q0, hargs, rfl, rfl, h0, r0⟩ := trodAll_cons hA
  obtain ⟨rfl, rfl, rfl⟩ := trodAll_nil r0
  obtain rfl : args = #[v0] := by cases args; simp_all
  have hV2 := hV
  obtain ⟨gg, tg, cg, fg, dg, pg, rfl, hgg, htg, hvg, hdg, hqg⟩ := trodVars_one hV
  have k0 := h0
  have lt0 : ∀ x ∈ p0, x.block < W.heap.size := by obtain ⟨m, hm⟩ := k0; exact DataW.trod_lt m _ _ _ hm
  obtain ⟨x0, hr0, ok0⟩ := opn_arg (opn_sl Tryd.underlying22 (by kernel_rfl) rfl (opn_u8 Tryd.underlying5)) h0
  obtain ⟨a0, l0, c0, rfl⟩ := okWide_slice Tryd.underlying22 (hval 0 22 v0 rfl rfl)
  obtain ⟨a', c', e0, hs0⟩ := hr0
  simp only [Value.cells, List.cons.injEq, and_true, Value.slice.injEq] at e0
  obtain ⟨rfl, rfl, rfl⟩ := e0
  clear hA0 hval0
  have hwalk := l_FnEditText_ok (κ := fun _ => 0) (p0 := x0) hs0 (ghE0 hL) (ghM hSh) (ghT hL) (FnEditText_law ok0)
  refine Calls.mono hwalk fun e W' ⟨v, he, _, hv, hext⟩ => ?_
  have bel := hext.toExt.below
  subst he hv
  exact ⟨_, rfl, _, _, _, [], _, _, hW', trodAll_mk1 (shut_bool Tryd.underlying4 _), (trodAll_cons_mk (Below.trod laidOut (by kernel_rfl) (of_decide_eq_true (by kernel_rfl)) k0 bel lt0) trodAll_mk0), Below.trodVars laidOut bel (by kernel_rfl) hV2, bel.frame _, fun h => by cases h⟩

theorem over : Rows.fnEditTextRow.holds Tryd.pinned (OpenSpec.ofChange Rows.fnEditTextSpec) :=
  OpenClaim.holds_of_wide 3 Tryd.f3 rfl rfl rfl rfl rfl rfl rfl ⟨rfl, rfl, rfl, rfl, rfl⟩ rfl rfl rfl rfl rfl (by kernel_rfl) Tryd.func3 (by kernel_rfl)
    (of_decide_eq_true (by kernel_rfl)) (by unfold Func.isWrapper; first | (rw [if_pos (by decide +kernel)]; kernel_rfl) | (rw [if_neg (by decide +kernel)]; exact ⟨rfl, rfl⟩))
    (fun os started H enc _ => lifted os started H enc)

theorem proved : Rows.FnEditTextCardSaid :=
  Claim7.holds_tied_plain_at .later [] [.data, .data, .data, .data, .widerDeep, .pinned] true (true, "154359c168a87a513ec66f8c0d4e531579a8360c6231bf4e9a03e2cd4fc74b0c") false
    over (fun _ h => by cases h) (by kernel_rfl) (fun _ h => by cases h) fnEditText_row_tie rfl ⟨rfl, rfl⟩ (by kernel_rfl) rfl
    (fun f fn hf hfn => by
      obtain rfl : f = 3 := Option.some.inj ((show Tryd.prog.funcNamed "loop.example/g00869/laws.FnEditText" = some 3 by kernel_rfl).symm.trans hf) |>.symm
      obtain rfl : fn = Tryd.f3 := (Option.some.inj (Tryd.func3.symm.trans hfn)).symm
      exact ⟨by kernel_rfl, fun j t ht => by
        rw [Tryd.params3] at ht
        have hm : t ∈ [22] := by simpa using Array.mem_of_getElem? ht
        have hall : ([22].all fun u => !Tryd.prog.wantsStandIn u) = true := by kernel_rfl
        exact (show Tryd.prog.wantsStandIn t = false by simpa using List.all_eq_true.1 hall t hm)⟩)
    (by kernel_rfl)
#print axioms proved
end Go.Proofs.YtnpmbkaoeihdmaaDoor.FnEditTextCardSaidDone
