/- Clauses: both sides compute the same. -/
import Derived.Test.YtnmjfjppgpkieaaClausePK
import Derived.Test.YtnmjfjppgpkieaaHasK
import Derived.Test.YtnmjfjppgpkieaaSetEK
set_option linter.unusedVariables false
set_option linter.unusedSimpArgs false
namespace Go.Proofs.Ytnmjfjppgpkieaa
open Go Go.Wk Go.Proofs

/-- how many letters -/
def ltr (p : Sig) : Int := pw p.In * pw p.Out
theorem ltr_in {p : Sig} (hs : sigOk p = true) : 4 ≤ ltr p ∧ ltr p ≤ 16 := by
  obtain ⟨hi, ho⟩ := sigOk_in hs
  unfold ltr pw
  rcases hi with h | h <;> rcases ho with k | k <;> rw [h, k] <;> decide
theorem s_LettersOf_eq {p : Sig} (hs : sigOk p = true) : s_LettersOf p = some (ltr p) := by
  unfold s_LettersOf
  rw [s_SigOk_eq, hs]
  obtain ⟨hi, ho⟩ := sigOk_in hs
  unfold ltr
  simp only [Option.bind_some, Bool.not_true, cond_false]
  rcases hi with h | h <;> rcases ho with k | k <;> rw [h, k] <;> decide
theorem i_lettersOf_eq {p : Sig} (hs : sigOk p = true) : i_lettersOf p = some (ltr p) := by
  unfold i_lettersOf
  obtain ⟨hi, ho⟩ := sigOk_in hs
  unfold ltr
  rcases hi with h | h <;> rcases ho with k | k <;> rw [h, k] <;> decide
def clauseOk (p : Sig) (c : Clause) : Bool := decide (1 ≤ c.Kind) && decide (c.Kind ≤ 7) && setOk (ltr p) c.A && setOk (ltr p) c.B && (c.Kind == 2 || c.Kind == 3 || c.Kind == 7 || ((c.B.length : Int) == 0))
theorem s_ClauseOk_eq {p : Sig} (hs : sigOk p = true) {c : Clause} (hb : Clause.bd c) : s_ClauseOk p c = some (clauseOk p c) := by
  obtain ⟨_, ⟨hA, _⟩, ⟨hB, _⟩⟩ := hb
  have hl := ltr_in hs
  unfold s_ClauseOk clauseOk s_l24Both
  rw [s_SigOk_eq, hs, s_LettersOf_eq hs]
  simp only [Option.bind_some, Bool.not_true, cond_false, s_l1In_eq, s_l1Set_eq (xs := c.A) (n := ltr p) (by omega) (by omega) (by omega), s_l1Set_eq (xs := c.B) (n := ltr p) (by omega) (by omega) (by omega), orE, andE]
  generalize decide (1 ≤ c.Kind) = b1
  generalize decide (c.Kind ≤ 7) = b2
  generalize setOk (ltr p) c.A = b3
  generalize setOk (ltr p) c.B = b4
  generalize (c.Kind == 2) = b5
  generalize (c.Kind == 3) = b6
  generalize (c.Kind == 7) = b7
  generalize ((c.B.length : Int) == 0) = b8
  cases b1 <;> cases b2 <;> cases b3 <;> cases b4 <;> cases b5 <;> cases b6 <;> cases b7 <;> cases b8 <;> rfl
theorem i_isClause_eq {p : Sig} (hs : sigOk p = true) {c : Clause} (hb : Clause.bd c) : i_isClause p c = some (clauseOk p c) := by
  obtain ⟨_, ⟨hA, _⟩, ⟨hB, _⟩⟩ := hb
  unfold i_isClause clauseOk i_hasSecond
  have e1 : decide (c.Kind < 1) = !decide (1 ≤ c.Kind) := by rw [← decide_not]; exact decide_eq_decide.2 (by omega)
  have e2 : decide (7 < c.Kind) = !decide (c.Kind ≤ 7) := by rw [← decide_not]; exact decide_eq_decide.2 (by omega)
  rw [i_lettersOf_eq hs, e1, e2]
  simp only [Option.bind_some, i_isSet_eq (xs := c.A) (n := ltr p) (by omega), i_isSet_eq (xs := c.B) (n := ltr p) (by omega), orE, andE]
  generalize decide (1 ≤ c.Kind) = b1
  generalize decide (c.Kind ≤ 7) = b2
  generalize setOk (ltr p) c.A = b3
  generalize setOk (ltr p) c.B = b4
  generalize (c.Kind == 2) = b5
  generalize (c.Kind == 3) = b6
  generalize (c.Kind == 7) = b7
  generalize ((c.B.length : Int) == 0) = b8
  cases b1 <;> cases b2 <;> cases b3 <;> cases b4 <;> cases b5 <;> cases b6 <;> cases b7 <;> cases b8 <;> rfl
theorem s_ClausesOk_eq {p : Sig} (hs : sigOk p = true) {cs : List Clause} (hb : ∀ c ∈ cs, Clause.bd c) : s_ClausesOk p cs = some (decide ((cs.length : Int) ≤ 3) && cs.all (clauseOk p)) := by
  unfold s_ClausesOk
  rw [s_SigOk_eq, hs]
  have e : decide (3 < (cs.length : Int)) = !decide ((cs.length : Int) ≤ 3) := by rw [← decide_not]; exact decide_eq_decide.2 (by omega)
  simp only [Option.bind_some, Bool.not_true, cond_false, e]
  cases decide ((cs.length : Int) ≤ 3) with
  | false => rfl
  | true =>
    simp only [Bool.not_true, cond_false, Bool.true_and]
    rw [cnt_all0 (f := s_ClausesOk_b0 p cs) (r := false) (clauseOk p) (xs := cs) rfl (fun i c hc => by
      unfold s_ClausesOk_b0
      rw [idx_nat, hc, Option.bind_some, s_ClauseOk_eq hs (hb c (List.mem_of_getElem? hc)), Option.bind_some]
      cases clauseOk p c <;> rfl)]
    cases cs.all (clauseOk p) <;> rfl
theorem i_areClauses_eq {p : Sig} (hs : sigOk p = true) {cs : List Clause} (hb : ∀ c ∈ cs, Clause.bd c) : i_areClauses p cs = some (decide ((cs.length : Int) ≤ 3) && cs.all (clauseOk p)) := by
  unfold i_areClauses
  rw [slices_ContainsFunc_i_Clause_i_Clause__i_areClauses_1_eq (fun c => !clauseOk p c) (fun c hc => by
    unfold i_areClauses_1
    rw [i_isClause_eq hs (hb c hc)]; rfl)]
  simp only [Option.bind_some, andE]
  rw [List.all_eq_not_any_not]
theorem s_l24Each_eq (xs A : List Int) : s_l24Each xs A = some (xs.all fun x => decide (x ∈ A)) := by
  unfold s_l24Each
  rw [cnt_all0 (f := s_l24Each_b0 xs A) (r := false) (fun x => decide (x ∈ A)) (xs := xs) rfl (fun i x hx => by
    unfold s_l24Each_b0
    rw [idx_nat, hx, Option.bind_some, s_l1Has_eq, Option.bind_some]
    cases decide (x ∈ A) <;> rfl)]
  cases (xs.all fun x => decide (x ∈ A)) <;> rfl
theorem s_l24Some_eq (xs A : List Int) : s_l24Some xs A = some (xs.any fun x => decide (x ∈ A)) := by
  unfold s_l24Some
  rw [cnt_all0 (f := s_l24Some_b0 xs A) (r := true) (fun x => !decide (x ∈ A)) (xs := xs) rfl (fun i x hx => by
    unfold s_l24Some_b0
    rw [idx_nat, hx, Option.bind_some, s_l1Has_eq, Option.bind_some]
    cases decide (x ∈ A) <;> rfl)]
  rw [List.any_eq_not_all_not]
  cases (xs.all fun x => !decide (x ∈ A)) <;> rfl
theorem inA_eq (c : Clause) (x : Int) : i_holdsOn_1 x c = some (decide (x ∈ c.A)) := by
  unfold i_holdsOn_1
  rw [slices_Contains_I_int64_eq, any_mem]; rfl
theorem inB_eq (c : Clause) (x : Int) : i_holdsOn_2 x c = some (decide (x ∈ c.B)) := by
  unfold i_holdsOn_2
  rw [slices_Contains_I_int64_eq, any_mem]; rfl
theorem notA_eq (c : Clause) (x : Int) : i_holdsOn_3__i_holdsOn_1 x c = some (!decide (x ∈ c.A)) := by
  unfold i_holdsOn_3__i_holdsOn_1
  rw [inA_eq]; rfl
theorem cnt_shift {ρ σ : Type} (f : Int → σ → Option (ρ ⊕ (σ ⊕ σ))) : ∀ (k : Nat) (j : Int) (s : σ), cntM f k (j + 1) s = cntM (fun v => f (v + 1)) k j s
  | 0, _, _ => rfl
  | k + 1, j, s => by
    show Option.bind (f (j + 1) s) _ = Option.bind (f (j + 1) s) _
    congr 1
    funext o
    match o with
    | .inl r => rfl
    | .inr (.inl s') => rfl
    | .inr (.inr s') => exact cnt_shift f k (j + 1) s'
/-- a clause on a word, by both -/
theorem holds_same {p : Sig} (hs : sigOk p = true) {c : Clause} (hb : Clause.bd c) (hc : clauseOk p c = true) {w : Word} (hw : wordOk w (ltr p) = true) : ∃ v, s_HoldsOn p c w = some v ∧ i_holdsOn c w = some v := by
  obtain ⟨w1, w2, w3, w4, w5⟩ := wordOk_spec hw
  have hl := ltr_in hs
  obtain ⟨z, hz, hzm⟩ := get_el (xs := w.Loop) (z := 0) (by omega) (by omega)
  have hzm' : z ∈ w.Stem ++ w.Loop := List.mem_append_right _ hzm
  have hza : (w.Stem ++ w.Loop)[w.Stem.length]? = some z := by
    rw [List.getElem?_append_right (Nat.le_refl _), Nat.sub_self]
    rw [idx_int (by omega)] at hz
    exact hz
  have hwo : s_WordOk p w = some true := by
    unfold s_WordOk
    rw [s_SigOk_eq, hs, s_LettersOf_eq hs]
    simp only [Option.bind_some, cond_true]
    rw [s_l23Word_eq w (by omega) (by omega), hw]; rfl
  have hcp : s_l1Copy w.Stem = some w.Stem := by
    unfold s_l1Copy
    rw [appL (by rw [List.length_nil]; omega) rfl]; rfl
  have hap : appS 8 w.Stem w.Loop = some (w.Stem ++ w.Loop) := appL (by omega) rfl
  have hnil : appS 8 ([] : List Int) w.Stem = some w.Stem := by rw [appL (by rw [List.length_nil]; omega) rfl]; rfl
  have hap2 : appS 8 (w.Stem ++ w.Loop) [z] = some ((w.Stem ++ w.Loop) ++ [z]) := app1 (by rw [List.length_append]; omega) rfl
  have cA : ∀ xs : List Int, slices_ContainsFunc_I_int64__i_holdsOn_1 xs c = some (xs.any fun x => decide (x ∈ c.A)) := fun xs => slices_ContainsFunc_I_int64__i_holdsOn_1_eq _ fun x _ => inA_eq c x
  have cB : ∀ xs : List Int, slices_ContainsFunc_I_int64__i_holdsOn_2 xs c = some (xs.any fun x => decide (x ∈ c.B)) := fun xs => slices_ContainsFunc_I_int64__i_holdsOn_2_eq _ fun x _ => inB_eq c x
  have cN : ∀ xs : List Int, slices_ContainsFunc_I_int64__i_holdsOn_3__i_holdsOn_1 xs c = some (!(xs.all fun x => decide (x ∈ c.A))) := fun xs => by
    rw [slices_ContainsFunc_I_int64__i_holdsOn_3__i_holdsOn_1_eq _ (fun x _ => notA_eq c x), List.all_eq_not_any_not, Bool.not_not]
  unfold s_HoldsOn i_holdsOn
  rw [s_ClauseOk_eq hs hb, hc, hwo]
  simp only [Option.bind_some, Bool.not_true, cond_false, hcp, hap, hz, hnil, hap2, cA, cB, cN, s_l24Each_eq, s_l24Some_eq, all_again hzm', any_again hzm', Bool.not_not, orE]
  have hlen : (w.Stem ++ w.Loop).length ≤ 1200 := by rw [List.length_append]; omega
  generalize hall : w.Stem ++ w.Loop = all at *
  cases k1 : (c.Kind == 1) with
  | true => exact ⟨_, rfl, rfl⟩
  | false =>
    cases k2 : (c.Kind == 2) with
    | true =>
      simp only [cond_true, cond_false]
      -- both ask of each letter and the one behind it
      have hlw : (all ++ [z]).length = all.length + 1 := by simp
      have key : ∀ (i : Nat), i < all.length → ∃ y, (all ++ [z])[i + 1]? = some y := fun i hi => ⟨_, List.getElem?_eq_getElem (by omega)⟩
      have e1 : s_l24Next c all (w.Stem.length : Int) = some (all.zipIdx.all fun q => !decide (q.1 ∈ c.A) || decide ((all ++ [z]).getD (q.2 + 1) 0 ∈ c.B)) := by
        unfold s_l24Next
        rw [cnt_allP (f := s_l24Next_b0 c all (w.Stem.length : Int)) (r := false) (fun i x => !decide (x ∈ c.A) || decide ((all ++ [z]).getD (i + 1) 0 ∈ c.B)) (xs := all) rfl (fun i x hx => by
          have hi := (List.getElem?_eq_some_iff.1 hx).1
          obtain ⟨y, hy⟩ := key i hi
          have hgd : (all ++ [z]).getD (i + 1) 0 = y := by rw [List.getD_eq_getElem?_getD, hy]; rfl
          have hq : (bif decide (IntKind.i64.wrap ((i : Int) + 1) < (all.length : Int)) then some (IntKind.i64.wrap ((i : Int) + 1)) else some (w.Stem.length : Int)) = some (if i + 1 < all.length then ((i + 1 : Nat) : Int) else (w.Stem.length : Int)) := by
            rw [wr' (by omega) (by omega)]
            by_cases h : i + 1 < all.length
            · have : (i : Int) + 1 < (all.length : Int) := by omega
              simp [h, this]
            · have : ¬ (i : Int) + 1 < (all.length : Int) := by omega
              simp [h, this]
          have hat : idx all (if i + 1 < all.length then ((i + 1 : Nat) : Int) else (w.Stem.length : Int)) = some y := by
            by_cases h : i + 1 < all.length
            · rw [if_pos h, idx_nat, ← hy, List.getElem?_append_left h]
            · rw [if_neg h, idx_nat, hza, ← hy, List.getElem?_append_right (by omega), show i + 1 - all.length = 0 from by omega]; rfl
          unfold s_l24Next_b0
          rw [hq, Option.bind_some, idx_nat, hx, Option.bind_some, s_l1Has_eq, Option.bind_some, hat, hgd]
          simp only [Option.bind_some, s_l1Has_eq]
          cases decide (x ∈ c.A) <;> cases decide (y ∈ c.B) <;> rfl)]
        simp only [Option.bind_some]
        cases (all.zipIdx.all fun q => !decide (q.1 ∈ c.A) || decide ((all ++ [z]).getD (q.2 + 1) 0 ∈ c.B)) <;> rfl
      have e2 : cntM (i_holdsOn_b1 c (all ++ [z])) (Int.toNat (((all ++ [z]).length : Int) - 1)) 1 () = some (if all.zipIdx.all (fun q => !decide (q.1 ∈ c.A) || decide ((all ++ [z]).getD (q.2 + 1) 0 ∈ c.B)) then .inr () else .inl false) := by
        rw [show Int.toNat (((all ++ [z]).length : Int) - 1) = all.length from by omega, show (1 : Int) = 0 + 1 from rfl, cnt_shift]
        exact cnt_allP (f := fun v => i_holdsOn_b1 c (all ++ [z]) (v + 1)) (r := false) (fun i x => !decide (x ∈ c.A) || decide ((all ++ [z]).getD (i + 1) 0 ∈ c.B)) (xs := all) rfl (fun i x hx => by
          have hi := (List.getElem?_eq_some_iff.1 hx).1
          obtain ⟨y, hy⟩ := key i hi
          have hgd : (all ++ [z]).getD (i + 1) 0 = y := by rw [List.getD_eq_getElem?_getD, hy]; rfl
          show i_holdsOn_b1 c (all ++ [z]) ((i : Int) + 1) () = _
          unfold i_holdsOn_b1
          rw [show (i : Int) + 1 - 1 = (i : Int) from by omega, wr' (by omega) (by omega), idx_nat, List.getElem?_append_left hi, hx, Option.bind_some, inA_eq, Option.bind_some, show (i : Int) + 1 = ((i + 1 : Nat) : Int) from by omega, idx_nat, hy, hgd]
          simp only [Option.bind_some, inB_eq]
          cases decide (x ∈ c.A) <;> cases decide (y ∈ c.B) <;> rfl)
      rw [e1, e2]
      simp only [Option.bind_some]
      cases (all.zipIdx.all fun q => !decide (q.1 ∈ c.A) || decide ((all ++ [z]).getD (q.2 + 1) 0 ∈ c.B)) with
      | true => exact ⟨_, rfl, rfl⟩
      | false => exact ⟨_, rfl, rfl⟩
    | false =>
      cases k3 : (c.Kind == 3) with
      | true =>
        simp only [cond_true, cond_false]
        have f1 := cnt_fold (f := i_holdsOn_b3 c all) (fun (p : Bool) x => (p || decide (x ∈ c.A)) && !decide (x ∈ c.B)) (xs := all) (fun i x s hx => by
          unfold i_holdsOn_b3
          rw [idx_nat, hx, Option.bind_some, inA_eq, Option.bind_some, orE, Option.bind_some, inB_eq, Option.bind_some, andE, Option.bind_some]) false
        rw [f1, pend_eq]
        simp only [Option.bind_some, aft_inr, Bool.false_and, Bool.false_or]
        unfold s_l24Answer
        rw [s_l24Some_eq, Option.bind_some]
        cases hL : (w.Loop.any fun x => decide (x ∈ c.B)) with
        | true => exact ⟨true, rfl, by simp⟩
        | false =>
          simp only [cond_false, Bool.or_false]
          rw [cnt_allP (f := s_l24Answer_b0 c all) (r := false) (fun i x => !decide (x ∈ c.A) || ((all.drop i).any fun y => decide (y ∈ c.B))) (xs := all) rfl (fun i x hx => by
            have hi := (List.getElem?_eq_some_iff.1 hx).1
            have hsub : subS all (i : Int) (all.length : Int) = some (all.drop i) := by
              unfold subS
              rw [if_pos (by omega), Int.toNat_natCast, Int.toNat_natCast, List.take_length]
            unfold s_l24Answer_b0
            rw [idx_nat, hx, Option.bind_some, s_l1Has_eq, Option.bind_some, hsub]
            simp only [Option.bind_some, s_l24Some_eq]
            cases decide (x ∈ c.A) <;> cases ((all.drop i).any fun y => decide (y ∈ c.B)) <;> rfl)]
          have heq : (all.zipIdx.all fun q => !decide (q.1 ∈ c.A) || ((all.drop q.2).any fun y => decide (y ∈ c.B))) = !dang (fun x => decide (x ∈ c.A)) (fun x => decide (x ∈ c.B)) all := by
            rw [Bool.eq_iff_iff, Bool.not_eq_true', dang_no, List.all_eq_true]
            constructor
            · intro h i x hx ha
              have := h (x, i) (List.mem_zipIdx_iff_getElem?.2 hx)
              dsimp only at this
              rw [ha] at this
              exact this
            · rintro h ⟨x, i⟩ hx
              have hx := List.mem_zipIdx_iff_getElem?.1 hx
              dsimp only at hx ⊢
              cases ha : decide (x ∈ c.A) with
              | false => rfl
              | true => exact h i x hx ha
          simp only [Option.bind_some, heq]
          cases dang (fun x => decide (x ∈ c.A)) (fun x => decide (x ∈ c.B)) all with
          | true => exact ⟨_, rfl, rfl⟩
          | false => exact ⟨_, rfl, rfl⟩
      | false =>
        cases k4 : (c.Kind == 4) with
        | true => exact ⟨_, rfl, rfl⟩
        | false =>
          cases k5 : (c.Kind == 5) with
          | true => exact ⟨_, rfl, rfl⟩
          | false =>
            cases k6 : (c.Kind == 6) with
            | true => exact ⟨_, rfl, rfl⟩
            | false => exact ⟨_, rfl, rfl⟩
theorem FirstBroken_same (p : Sig) {cs : List Clause} (hb : ∀ c ∈ cs, Clause.bd c) (w : Word) : ∃ v, s_FirstBroken p cs w = some v ∧ i_FirstBroken p cs w = some v ∧ (w.Loop.length = 0 → v = -2) := by
  unfold s_FirstBroken i_FirstBroken
  rw [i_isSig_eq]
  cases hs : sigOk p with
  | false =>
    have : s_ClausesOk p cs = some false := by
      unfold s_ClausesOk
      rw [s_SigOk_eq, hs]; rfl
    rw [this]
    exact ⟨-2, rfl, rfl, fun _ => rfl⟩
  | true =>
    have hl := ltr_in hs
    have hwo : s_WordOk p w = some (wordOk w (ltr p)) := by
      unfold s_WordOk
      rw [s_SigOk_eq, hs, s_LettersOf_eq hs]
      simp only [Option.bind_some, cond_true]
      rw [s_l23Word_eq w (by omega) (by omega)]; rfl
    rw [s_ClausesOk_eq hs hb, i_areClauses_eq hs hb, hwo, i_lettersOf_eq hs]
    simp only [Option.bind_some, Bool.not_true, cond_false, i_isWord_eq]
    cases hc : (decide ((cs.length : Int) ≤ 3) && cs.all (clauseOk p)) with
    | false => exact ⟨-2, rfl, rfl, fun _ => rfl⟩
    | true =>
      cases hw : wordOk w (ltr p) with
      | false => exact ⟨-2, rfl, rfl, fun _ => rfl⟩
      | true =>
        simp only [Bool.not_true, cond_false, Option.bind_some]
        have hcs := (Bool.and_eq_true_iff.1 hc).2
        rw [List.all_eq_true] at hcs
        have hv : ∀ c ∈ cs, s_HoldsOn p c w = some ((s_HoldsOn p c w).getD false) ∧ i_holdsOn c w = some ((s_HoldsOn p c w).getD false) := fun c hm => by
          obtain ⟨v, h1, h2⟩ := holds_same hs (hb c hm) (hcs c hm) hw
          rw [h1, h2]
          exact ⟨rfl, rfl⟩
        rw [slices_IndexFunc_i_Clause_i_Clause__i_FirstBroken_1_eq (fun c => !(s_HoldsOn p c w).getD false) (fun c hm => by
          unfold i_FirstBroken_1
          rw [(hv c hm).2]; rfl)]
        rw [cnt_find0 (f := s_FirstBroken_b0 p cs w) (fun c => !(s_HoldsOn p c w).getD false) (fun i => (i : Int)) (xs := cs) (fun i c hx => by
          unfold s_FirstBroken_b0
          rw [idx_nat, hx, Option.bind_some, (hv c (List.mem_of_getElem? hx)).1, Option.bind_some, Option.getD_some]
          cases (s_HoldsOn p c w).getD false <;> rfl)]
        have hne : w.Loop.length = 0 → False := fun h => by
          have := (wordOk_spec hw).2.1
          omega
        cases cs.findIdx? (fun c => !(s_HoldsOn p c w).getD false) with
        | some i => exact ⟨_, rfl, rfl, fun h => (hne h).elim⟩
        | none => exact ⟨_, rfl, rfl, fun h => (hne h).elim⟩
end Go.Proofs.Ytnmjfjppgpkieaa
