/- Proved here: loop.example/g00869/laws.FnExactMachineText returns true at every input that its types allow, and its input reads as it did; no further condition. -/
import Derived.Test.YtnpmbkaoeihdmaaDoorRows
import Derived.Test.YtnpmbkaoeihdmaaDoorMachineTextM
import Derived.Test.YtnpmbkaoeihdmaaDoorFnsM1
import Derived.Test.YtnpmbkaoeihdmaaDoorCards
import Derived.Test.YtnpmbkaoeihdmaaDoorTie
import Derived.WalkKit
import Derived.ProofKit
import Derived.OpenShut
import Derived.ShutString
import Derived.ChangeOld
import Derived.Below
import Derived.LaidMore
import Derived.Stop.Joined
import Derived.SevenTiedAt
import Derived.Handed
import Derived.Lib.LaidTab
namespace Go.Proofs.YtnpmbkaoeihdmaaDoor.FnExactMachineTextCardSaidDone
open Go.ChangeShapes Go.WideShapes Go.ChangeAt Go.RowKit Go.Wk
set_option linter.unusedVariables false
set_option linter.unusedSimpArgs false

theorem own : ownKnob Tryd.prog.godebug = none := by kernel_rfl
theorem laidOut : laidOutB Tryd.prog = true := by kernel_rfl

theorem door_met (os : Os) (args : Array Value) : laidMetH Tryd.prog Rows.fnExactMachineTextRow.laid ((World.doorLaid Tryd.prog 400 os).forCall (fun _ _ => 0) ⟨#[], args, []⟩).memory :=
  laidMetH_of_parts3 (fuel := 8) (laidMet_of_run' 8 (by kernel_rfl) (by kernel_rfl)) (by kernel_rfl) (by kernel_rfl)

theorem laid_tail {P : Program} {w : World} {x : String × DataW Unit} {l : List (String × DataW Unit)} (h : laidMet P (x :: l) w) : laidMet P l w := by
  obtain ⟨ps, ⟨g, t, cs, fuel, p, q, h1, h2, h3, h4, h5, h6⟩, hn, hf⟩ := h
  subst h6
  exact ⟨q, h5, (List.nodup_append.1 hn).2.1, fun b off hb => hf b off (List.mem_append_right _ hb)⟩
theorem laid_at {P : Program} {w : World} {x : String × DataW Unit} : ∀ {l : List (String × DataW Unit)}, laidMet P l w → x ∈ l → ∃ r, laidMet P (x :: r) w
  | [], _, hx => by cases hx
  | y :: l, h, hx => by
    rcases List.mem_cons.1 hx with rfl | hx
    · exact ⟨l, h⟩
    · exact laid_at (laid_tail h) hx
theorem tb_of_laid {P : Program} {W : World} {name : String} {k : IntKind} {zs : List Int} {g : Nat} {t e : TypeId} {n : Nat} {l : List (String × DataW Unit)}
    (hg : P.globalNamed name = some g) (hty : (P.globals[g]?).map (·.type) = some t) (ht : P.underlying t = some (.array n e)) (he : P.underlying e = some (.int k)) (hce : P.cellsOf e = 1) (hct : P.cellsOf t = n)
    (hl : ∀ x, x ∈ l → ∃ r, laidMet P (x :: r) W) (hx : (name, Lib.tabData k zs) ∈ l) : Tb P name k zs (fun _ => 0) W := by
  obtain ⟨r, hr⟩ := hl _ hx
  have h := Lib.tabIs_of_head hg hty ht he hce hct hr
  refine ⟨h, fun g' hg' => ⟨?_, rfl⟩⟩
  unfold Lib.TabIs World.var? at h
  rw [hg', Option.bind_some] at h
  rcases Nat.lt_or_ge g' W.heap.size with h' | h'
  · exact h'
  · rw [Array.getElem?_eq_none h'] at h
    cases h
theorem ghT {W : World} (h : laidMetH Tryd.prog Rows.fnExactMachineTextRow.laid W) : Tb Tryd.prog "internal/strconv.uint64pow10" .u64 Lib.pow10Tab (fun _ => 0) W :=
  tb_of_laid (g := 2) (by kernel_rfl) (by kernel_rfl) Tryd.underlying140 Tryd.underlying54 (by kernel_rfl) (by kernel_rfl) (fun x hx => by
    rw [MakeChecks.laidMetH_plain _ _ _ (by kernel_rfl)] at h
    exact laid_at h hx) (by simp [Rows.fnExactMachineTextRow]; first | exact .inl rfl | exact .inr (.inl rfl) | exact .inr (.inr (.inl rfl)) | exact .inr (.inr rfl) | rfl)
set_option maxRecDepth 100000 in
theorem lifted (os : Os) (started : os.Started) (H : Type) (enc : TypeId × Value → H) :
    ReturnsInHanded {} Tryd.checked os 5 .any (fun w args => (Rows.fnExactMachineTextSpec.pre enc Tryd.prog Tryd.f5 [] false w args ∧ laidMetH Tryd.prog Rows.fnExactMachineTextRow.laid w) ∧ sizedMet enc Tryd.prog Tryd.f5 (OpenSpec.ofChange Rows.fnExactMachineTextSpec) false w args)
      (Rows.fnExactMachineTextSpec.post enc Tryd.prog Tryd.f5 false true false false) := by
  refine returnsInHanded_of_change_and (C := Tryd.checked) (X := fun w _ => laidMetH Tryd.prog Rows.fnExactMachineTextRow.laid w) (fun _ _ _ hh h => h.of_heap hh) own started (by kernel_rfl) Tryd.func5
    (ChangeSpec.witness_shaped (enc := enc) (C := Tryd.checked) (os := os) (X := fun w _ => laidMetH Tryd.prog Rows.fnExactMachineTextRow.laid w) false (World.doorLaid Tryd.prog 400 os) #[.agg #[.int .i64 0, .int .i64 0], .agg #[.slice none 0 0, .slice none 0 0]] 8 rfl (World.shaped_of_RefB (by kernel_rfl) (by kernel_rfl)) (by kernel_rfl) (by kernel_rfl) (by kernel_rfl) (door_met os _)) ?_
  intro W base args ds gs before hval0 hW hcnd _ hL _
  have hval : ∀ (j : Nat) t v, Tryd.f5.params[j]? = some t → args[j]? = some v → Value.okWide Tryd.prog W .any base t v := hval0
  have hW' := hW
  obtain ⟨p, q, hA0, hV, rfl, hfz, hnd⟩ := hW
  have hA : DataW.TrodAll enc Tryd.prog W 0 (fun _ => true) true Tryd.f5.params.toList args.toList ds p := hA0
  rw [Tryd.params5] at hA hval
  obtain ⟨v0, vs0, d0, ds0, p0, q0, hargs, rfl, rfl, h0, r0⟩ := trodAll_cons hA
  obtain ⟨v1, vs1, d1, ds1, p1, q1, rfl, rfl, rfl, h1, r1⟩ := trodAll_cons r0
  obtain ⟨rfl, rfl, rfl⟩ := trodAll_nil r1
  obtain rfl : args = #[v0, v1] := by cases args; simp_all
  obtain ⟨rfl, rfl⟩ := trodVars_none hV
  have k0 := h0
  have lt0 : ∀ x ∈ p0, x.block < W.heap.size := by obtain ⟨m, hm⟩ := k0; exact DataW.trod_lt m _ _ _ hm
  obtain ⟨x0, hr0, ok0⟩ := opn_arg Sig.opn34 h0
  obtain ⟨cs0, rfl, _⟩ := okWide_struct Tryd.underlying34 (hval 0 34 v0 rfl rfl)
  have e0 := Sig.un hr0
  obtain rfl : cs0 = #[.int .i64 x0.In, .int .i64 x0.Out] := Array.toList_inj.1 e0
  have k1 := h1
  have lt1 : ∀ x ∈ p1, x.block < W.heap.size := by obtain ⟨m, hm⟩ := k1; exact DataW.trod_lt m _ _ _ hm
  obtain ⟨x1, hr1, ok1⟩ := opn_arg Machine.opn37 h1
  obtain ⟨cs1, rfl, _⟩ := okWide_struct Tryd.underlying37 (hval 1 37 v1 rfl rfl)
  obtain ⟨a1_0, c1_0, a1_1, c1_1, e1, hs1_0, hs1_1⟩ := Machine.un hr1
  obtain rfl : cs1 = #[.slice a1_0 x1.Next.length c1_0, .slice a1_1 x1.Out.length c1_1] := Array.toList_inj.1 e1
  clear hA0 hval0
  have hwalk := l_FnExactMachineText_ok (κ := fun _ => 0) (p0 := x0) (p1 := x1) hs1_0 hs1_1 (ghT hL) (FnExactMachineText_law ok0 ok1)
  refine Calls.mono hwalk fun e W' ⟨v, he, _, hv, hext⟩ => ?_
  have bel := hext.toExt.below
  subst he hv
  exact ⟨_, rfl, _, _, _, [], _, [], hW', trodAll_mk1 (shut_bool Tryd.underlying4 _), (trodAll_cons_mk (Below.trod laidOut (by kernel_rfl) (of_decide_eq_true (by kernel_rfl)) k0 bel lt0) (trodAll_cons_mk (Below.trod laidOut (by kernel_rfl) (of_decide_eq_true (by kernel_rfl)) k1 bel lt1) trodAll_mk0)), rfl, bel.frame _, fun h => by cases h⟩

theorem over : Rows.fnExactMachineTextRow.holds Tryd.pinned (OpenSpec.ofChange Rows.fnExactMachineTextSpec) :=
  OpenClaim.holds_of_wide 5 Tryd.f5 rfl rfl rfl rfl rfl rfl rfl ⟨rfl, rfl, rfl, rfl, rfl⟩ rfl rfl rfl rfl rfl (by kernel_rfl) Tryd.func5 (by kernel_rfl)
    (of_decide_eq_true (by kernel_rfl)) (by unfold Func.isWrapper; first | (rw [if_pos (by decide +kernel)]; kernel_rfl) | (rw [if_neg (by decide +kernel)]; exact ⟨rfl, rfl⟩))
    (fun os started H enc _ => lifted os started H enc)

theorem proved : Rows.FnExactMachineTextCardSaid :=
  Claim7.holds_tied_plain_at .later [] [.data, .data, .data] true (true, "154359c168a87a513ec66f8c0d4e531579a8360c6231bf4e9a03e2cd4fc74b0c") false
    over (fun _ h => by cases h) (by kernel_rfl) (fun _ h => by cases h) fnExactMachineText_row_tie rfl ⟨rfl, rfl⟩ (by kernel_rfl) rfl
    (fun f fn hf hfn => by
      obtain rfl : f = 5 := Option.some.inj ((show Tryd.prog.funcNamed "loop.example/g00869/laws.FnExactMachineText" = some 5 by kernel_rfl).symm.trans hf) |>.symm
      obtain rfl : fn = Tryd.f5 := (Option.some.inj (Tryd.func5.symm.trans hfn)).symm
      exact ⟨by kernel_rfl, fun j t ht => by
        rw [Tryd.params5] at ht
        have hm : t ∈ [34, 37] := by simpa using Array.mem_of_getElem? ht
        have hall : ([34, 37].all fun u => !Tryd.prog.wantsStandIn u) = true := by kernel_rfl
        exact (show Tryd.prog.wantsStandIn t = false by simpa using List.all_eq_true.1 hall t hm)⟩)
    (by kernel_rfl)
#print axioms proved
end Go.Proofs.YtnpmbkaoeihdmaaDoor.FnExactMachineTextCardSaidDone
