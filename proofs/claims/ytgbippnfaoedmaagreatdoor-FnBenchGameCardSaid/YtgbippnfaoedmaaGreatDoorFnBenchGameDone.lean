/- Proved here: loop.example/g00869/laws.FnBenchGame returns true at every input that its types allow, and its input reads as it did; no further condition. -/
import Derived.Test.YtgbippnfaoedmaaGreatDoorRows
import Derived.Test.YtgbippnfaoedmaaGreatDoorL4BG
import Derived.Test.YtgbippnfaoedmaaGreatDoorFns8BG
import Derived.Test.YtgbippnfaoedmaaGreatDoorCards
import Derived.Test.YtgbippnfaoedmaaGreatDoorTie
import Derived.Test.YtgbippnfaoedmaaGreatDoorLdsBG
import Derived.Test.YtgbippnfaoedmaaGreatDoorJfBG
import Derived.WalkKit
import Derived.ProofKit
import Derived.OpenShut
import Derived.ShutString
import Derived.ChangeOld
import Derived.Below
import Derived.LaidMore
import Derived.Lay
import Derived.Stop.Joined
import Derived.SevenTiedAt
import Derived.Handed
import Derived.Lib.LaidTab
import Derived.OpenVars
namespace Go.Proofs.YtgbippnfaoedmaaGreatDoor.FnBenchGameCardSaidDone
open Go.ChangeShapes Go.WideShapes Go.ChangeAt Go.RowKit Go.Wk
set_option linter.unusedVariables false
set_option linter.unusedSimpArgs false

theorem own : ownKnob Tryz.prog.godebug = none := by kernel_rfl
theorem laidOut : laidOutB Tryz.prog = true := by kernel_rfl

theorem ghE0 {W : World} (h : laidMetH Tryz.prog Rows.fnBenchGameRow.laid W) : Rd Rp.str (λ_ => 0) W 0 (some ⟨0, 0, none⟩) 2 ec :=
  oB (g := 0) (name := "loop.example/g00869/impl.playerNames") (by kernel_rfl) (by kernel_rfl) Tryz.underlying131 Tryz.underlying9 (by kernel_rfl) (by kernel_rfl) rfl (by decide) (fun x hx => by
    rw [MakeChecks.laidMetH_plain _ _ _ (by kernel_rfl)] at h
    exact nK h hx) (by simp [Rows.fnBenchGameRow]; first | exact .inl rfl | exact .inr (.inl rfl) | exact .inr (.inr (.inl rfl)) | exact .inr (.inr (.inr (.inl rfl))) | exact .inr (.inr (.inr (.inr (.inl rfl)))) | exact .inr (.inr (.inr (.inr (.inr (.inl rfl))))) | exact .inr (.inr (.inr (.inr (.inr (.inr rfl))))) | exact .inr (.inr (.inr (.inr (.inr rfl)))) | exact .inr (.inr (.inr (.inr rfl))) | exact .inr (.inr (.inr rfl)) | exact .inr (.inr rfl) | exact .inr rfl | rfl)
theorem ghE1 {W : World} (h : laidMetH Tryz.prog Rows.fnBenchGameRow.laid W) : Rd Rp.str (λ_ => 0) W 0 (some ⟨1, 0, none⟩) 7 nN :=
  oB (g := 1) (name := "loop.example/g00869/impl.clauseNames") (by kernel_rfl) (by kernel_rfl) Tryz.underlying139 Tryz.underlying9 (by kernel_rfl) (by kernel_rfl) rfl (by decide) (fun x hx => by
    rw [MakeChecks.laidMetH_plain _ _ _ (by kernel_rfl)] at h
    exact nK h hx) (by simp [Rows.fnBenchGameRow]; first | exact .inl rfl | exact .inr (.inl rfl) | exact .inr (.inr (.inl rfl)) | exact .inr (.inr (.inr (.inl rfl))) | exact .inr (.inr (.inr (.inr (.inl rfl)))) | exact .inr (.inr (.inr (.inr (.inr (.inl rfl))))) | exact .inr (.inr (.inr (.inr (.inr (.inr rfl))))) | exact .inr (.inr (.inr (.inr (.inr rfl)))) | exact .inr (.inr (.inr (.inr rfl))) | exact .inr (.inr (.inr rfl)) | exact .inr (.inr rfl) | exact .inr rfl | rfl)
theorem ghM {W : World} (h : W.ShapedOpen Tryz.prog) : Vm 2 (λ_ => 0) W :=
  qP (t := 3) (zero := #[.int .i64 0]) h (of_decide_eq_true (by kernel_rfl)) (by kernel_rfl) rfl (by kernel_rfl) (by kernel_rfl) Tryz.underlying3
theorem ghT {W : World} (h : laidMetH Tryz.prog Rows.fnBenchGameRow.laid W) : Tb Tryz.prog "internal/strconv.uint64pow10" .u64 Lib.pow10Tab (fun _ => 0) W :=
  tb (g := 5) (by kernel_rfl) (by kernel_rfl) Tryz.underlying267 Tryz.underlying26 (by kernel_rfl) (by kernel_rfl) (λx hx => by
    rw [MakeChecks.laidMetH_plain _ _ _ (by kernel_rfl)] at h
    exact nK h hx) (by simp [Rows.fnBenchGameRow]; first | exact .inl rfl | exact .inr (.inl rfl) | exact .inr (.inr (.inl rfl)) | exact .inr (.inr (.inr (.inl rfl))) | exact .inr (.inr (.inr (.inr (.inl rfl)))) | exact .inr (.inr (.inr (.inr (.inr (.inl rfl))))) | exact .inr (.inr (.inr (.inr (.inr (.inr rfl))))) | exact .inr (.inr (.inr (.inr (.inr rfl)))) | exact .inr (.inr (.inr (.inr rfl))) | exact .inr (.inr (.inr rfl)) | exact .inr (.inr rfl) | exact .inr rfl | rfl)
set_option maxRecDepth 100000 in
theorem lifted (os : Os) (started : os.Started) (H : Type) (enc : TypeId × Value -> H) :
    ReturnsInHanded {} Tryz.checked os 3 .any (λw args => (Rows.fnBenchGameSpec.pre enc Tryz.prog Tryz.f3 [] false w args /\ laidMetH Tryz.prog Rows.fnBenchGameRow.laid w) /\ sizedMet enc Tryz.prog Tryz.f3 (OpenSpec.ofChange Rows.fnBenchGameSpec) false w args)
      (Rows.fnBenchGameSpec.post enc Tryz.prog Tryz.f3 false true false false) := by
  refine wrapLS (C := Tryz.checked) (X := λw _ => laidMetH Tryz.prog Rows.fnBenchGameRow.laid w) (λ_ _ _ hh h => h.of_heap hh) own started (by kernel_rfl) Tryz.func3
    (ChangeSpec.witness_shaped (enc := enc) (C := Tryz.checked) (os := os) (X := λw _ => laidMetH Tryz.prog Rows.fnBenchGameRow.laid w) false (World.laidAll Tryz.prog os Rows.fnBenchGameRow.laid) #[.slice none 0 0] 8 (World.laidAll_os _ _ _) (World.shaped_of_ZipB (by kernel_rfl) (by kernel_rfl)) (by kernel_rfl) (by kernel_rfl) (by kernel_rfl)
      (by rw [MakeChecks.laidMetH_plain _ _ _ (by kernel_rfl)]; exact laidMet_laidAll _ (by kernel_rfl) (by kernel_rfl))) ?_
  intro W base args ds gs before hval0 hW hcnd hL hSh
  have hval : ∀ (j : Nat) t v, Tryz.f3.params[j]? = some t -> args[j]? = some v -> Value.okWide Tryz.prog W .any base t v := hval0
  have hW' := hW
  obtain ⟨p, q, hA0, hV, rfl, hfz, hnd⟩ := hW
  have hA : DataW.TrodAll enc Tryz.prog W 0 (λ_ => true) true Tryz.f3.params.toList args.toList ds p := hA0
  rw [Tryz.params3] at hA hval
  obtain ⟨v0, vs0, d0, ds0, p0, q0, hargs, rfl, rfl, h0, r0⟩ := trodAll_cons hA
  obtain ⟨rfl, rfl, rfl⟩ := trodAll_nil r0
  obtain rfl : args = #[v0] := by cases args; simp_all
  have hV2 := hV
  change DataW.TrodVars _ _ _ _ [_, _] _ _ at hV
  obtain ⟨g1, g2, rfl⟩ : ∃ x y, gs = [x, y] := by
    cases gs with
    | nil => simp [DataW.TrodVars] at hV
    | cons x gs =>
      obtain ⟨_, _, _, _, _, _, _, _, _, _, hs, _⟩ := hV
      obtain ⟨_, _, _, _, y, _, rfl, _⟩ := trodVars_one hs
      exact ⟨x, y, rfl⟩
  have k0 := h0
  have lt0 : ∀ x ∈ p0, x.block < W.heap.size := by obtain ⟨m, hm⟩ := k0; exact DataW.trod_lt m _ _ _ hm
  obtain ⟨x0, hr0, ok0⟩ := wo (xv Tryz.underlying22 (by kernel_rfl) rfl (xw Tryz.underlying5)) h0
  obtain ⟨a0, l0, c0, rfl⟩ := okWide_slice Tryz.underlying22 (hval 0 22 v0 rfl rfl)
  obtain ⟨a', c', e0, hs0⟩ := hr0
  simp only [Value.cells, List.cons.injEq, and_true, Value.slice.injEq] at e0
  obtain ⟨rfl, rfl, rfl⟩ := e0
  clear hA0 hval0
  have hwalk := mP (J := λ_ => 0) (p0 := x0) hs0 (ghE0 hL) (ghE1 hL) (ghM hSh) (ghT hL) (FnBenchGame_law ok0)
  refine Calls.mono hwalk λe W' ⟨v, he, _, hv, hext⟩ => ?_
  have bel := hext.toExt.below
  subst he hv
  exact ⟨_, rfl, _, _, _, [], _, _, hW', trodAll_mk1 (shut_bool Tryz.underlying4 _), (trodAll_cons_mk (Below.trod laidOut (by kernel_rfl) (of_decide_eq_true (by kernel_rfl)) k0 bel lt0) trodAll_mk0), Below.trodVars laidOut bel (by kernel_rfl) hV2, bel.frame _, λh => by cases h⟩

theorem over : Rows.fnBenchGameRow.holds Tryz.pinned (OpenSpec.ofChange Rows.fnBenchGameSpec) :=
  OpenClaim.holds_of_wide 3 Tryz.f3 rfl rfl rfl rfl rfl rfl rfl ⟨rfl, rfl, rfl, rfl, rfl⟩ rfl rfl rfl rfl rfl (by kernel_rfl) Tryz.func3 joined
    (of_decide_eq_true (by kernel_rfl)) (by unfold Func.isWrapper; first | (rw [if_pos (by decide +kernel)]; kernel_rfl) | (rw [if_neg (by decide +kernel)]; exact ⟨rfl, rfl⟩))
    (λos started H enc _ => lifted os started H enc)

theorem proved : Rows.FnBenchGameCardSaid :=
  Claim7.holds_tied_plain_at .later [] [.data, .data, .data, .data, .data, .data, .pinned] true (true, "a3d6d7b6e61a4dfc85a0ec73d8fc2238ade160f969cbc086ce209a350ead6d67") false
    over (λ_ h => by cases h) pv1 (λ_ h => by cases h) fnBenchGame_row_tie rfl ⟨rfl, rfl⟩ pv2 rfl
    (λf fn hf hfn => by
      obtain rfl : f = 3 := Option.some.inj ((show Tryz.prog.funcNamed "loop.example/g00869/laws.FnBenchGame" = some 3 by kernel_rfl).symm.trans hf) |>.symm
      obtain rfl : fn = Tryz.f3 := (Option.some.inj (Tryz.func3.symm.trans hfn)).symm
      exact ⟨pv3, λj t ht => by
        rw [Tryz.params3] at ht
        have hm : t ∈ [22] := by simpa using Array.mem_of_getElem? ht
        have hall : ([22].all λu => !Tryz.prog.wantsStandIn u) = true := by kernel_rfl
        exact (show Tryz.prog.wantsStandIn t = false by simpa using List.all_eq_true.1 hall t hm)⟩)
    pv4
#print axioms proved
end Go.Proofs.YtgbippnfaoedmaaGreatDoor.FnBenchGameCardSaidDone
