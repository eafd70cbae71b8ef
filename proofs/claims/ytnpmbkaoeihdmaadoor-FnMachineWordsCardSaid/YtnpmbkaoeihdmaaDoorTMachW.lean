/- TextMachine: both sides read the same. -/
import Derived.Test.YtnpmbkaoeihdmaaDoorTxtRW
import Derived.Test.YtnpmbkaoeihdmaaDoorMachW
set_option linter.unusedVariables false
set_option linter.unusedSimpArgs false
namespace Go.Proofs.YtnpmbkaoeihdmaaDoor
open Go Go.Wk Go.Proofs

def mapO {α β : Type} (f : α → Option β) : List α → Option (List β)
  | [] => some []
  | x :: r => match f x, mapO f r with
    | some y, some ys => some (y :: ys)
    | _, _ => none
theorem mapO_cons {α β : Type} {f : α → Option β} {x : α} {r : List α} {y : β} (h : f x = some y) : mapO f (x :: r) = (mapO f r).map (y :: ·) := by
  show (match f x, mapO f r with | some y, some ys => some (y :: ys) | _, _ => none) = _
  rw [h]
  cases mapO f r <;> rfl
theorem mapO_none {α β : Type} {f : α → Option β} {x : α} {r : List α} (h : f x = none) : mapO f (x :: r) = none := by
  show (match f x, mapO f r with | some y, some ys => some (y :: ys) | _, _ => none) = _
  rw [h]
theorem mapO_len {α β : Type} {f : α → Option β} : ∀ {xs : List α} {ys : List β}, mapO f xs = some ys → ys.length = xs.length
  | [], ys, h => by cases h; rfl
  | x :: r, ys, h => by
    cases e : f x with
    | none => rw [mapO_none e] at h; cases h
    | some y =>
      rw [mapO_cons e] at h
      obtain ⟨zs, hz, rfl⟩ := Option.map_eq_some_iff.1 h
      rw [List.length_cons, List.length_cons, mapO_len hz]
theorem mapO_sub {α β : Type} {f g : α → Option β} (hfg : ∀ x y, g x = some y → f x = some y) : ∀ {xs : List α} {ys : List β}, mapO g xs = some ys → mapO f xs = some ys
  | [], ys, h => h
  | x :: r, ys, h => by
    cases e : g x with
    | none => rw [mapO_none e] at h; cases h
    | some y =>
      rw [mapO_cons e] at h
      obtain ⟨zs, hz, rfl⟩ := Option.map_eq_some_iff.1 h
      rw [mapO_cons (hfg x y e), mapO_sub hfg hz]; rfl
theorem mapO_sup {α β : Type} {f g : α → Option β} : ∀ {xs : List α} {ys : List β}, mapO f xs = some ys → (∀ x y, f x = some y → y ∈ ys → g x = some y) → mapO g xs = some ys
  | [], ys, h, _ => h
  | x :: r, ys, h, hg => by
    cases e : f x with
    | none => rw [mapO_none e] at h; cases h
    | some y =>
      rw [mapO_cons e] at h
      obtain ⟨zs, hz, rfl⟩ := Option.map_eq_some_iff.1 h
      rw [mapO_cons (hg x y e (List.mem_cons_self ..)), mapO_sup hz fun x' y' h1 h2 => hg x' y' h1 (List.mem_cons_of_mem _ h2)]; rfl
theorem cnt_mapO {ρ α β γ : Type} {f : Int → List β × List γ → Option (ρ ⊕ ((List β × List γ) ⊕ (List β × List γ)))} (g : α → Option (β × γ)) (r : ρ) {xs : List α}
    (h : ∀ (i : Nat) x (s : List β × List γ), xs[i]? = some x → s.1.length = i → s.2.length = i → f (i : Int) s = some (match g x with | some y => .inr (.inr (s.1 ++ [y.1], s.2 ++ [y.2])) | none => .inl r)) :
    ∀ (ys : List α) (j : Nat) (A : List β) (B : List γ), xs.drop j = ys → A.length = j → B.length = j → cntM f ys.length (j : Int) (A, B) = some (match mapO g ys with | some zs => .inr (A ++ zs.map (·.1), B ++ zs.map (·.2)) | none => .inl r)
  | [], j, A, B, _, _, _ => by simp [cntM, mapO]
  | x :: ys, j, A, B, hd, hA, hB => by
    have hx : xs[j]? = some x := by
      have := congrArg (·[0]?) hd
      simpa using this
    show Option.bind (f (j : Int) (A, B)) (lpK fun s' => cntM f ys.length ((j : Int) + 1) s') = _
    rw [h j x (A, B) hx hA hB]
    cases e : g x with
    | none => rw [mapO_none e]; rfl
    | some y =>
      rw [mapO_cons e, Option.bind_some]
      simp only []
      rw [lpK_nxt, show (j : Int) + 1 = ((j + 1 : Nat) : Int) from by omega, cnt_mapO g r h ys (j + 1) _ _ (by rw [← List.drop_drop, hd]; rfl) (by simp [hA]) (by simp [hB])]
      cases mapO g ys <;> simp
theorem cnt_mapO0 {ρ α β γ : Type} {f : Int → List β × List γ → Option (ρ ⊕ ((List β × List γ) ⊕ (List β × List γ)))} (g : α → Option (β × γ)) (r : ρ) {xs : List α}
    (h : ∀ (i : Nat) x (s : List β × List γ), xs[i]? = some x → s.1.length = i → s.2.length = i → f (i : Int) s = some (match g x with | some y => .inr (.inr (s.1 ++ [y.1], s.2 ++ [y.2])) | none => .inl r)) :
    cntM f xs.length 0 ([], []) = some (match mapO g xs with | some zs => .inr (zs.map (·.1), zs.map (·.2)) | none => .inl r) := by
  have := cnt_mapO g r h xs 0 [] [] rfl rfl rfl
  simpa using this
/-- a word: two numbers -/
def cellP (w : List UInt8) : Option (Int × Int) := match sp 47 w with
  | [a, b] => (match rdN a, rdN b with
    | some m, some n => some ((m : Int), (n : Int))
    | _, _ => none)
  | _ => none
def cellQ (w : List UInt8) : Option (Int × Int) := match cellP w with
  | some (m, n) => if m < 48 ∧ n < 4 then some (m, n) else none
  | none => none
theorem cellQ_sub {w : List UInt8} {y : Int × Int} (h : cellQ w = some y) : cellP w = some y ∧ y.1 < 48 ∧ y.2 < 4 := by
  unfold cellQ at h
  cases e : cellP w with
  | none => rw [e] at h; cases h
  | some p =>
    obtain ⟨m, n⟩ := p
    rw [e] at h
    dsimp only at h
    split at h
    · cases h
      rename_i hc
      exact ⟨rfl, hc⟩
    · cases h
theorem cellQ_of {w : List UInt8} {y : Int × Int} (h : cellP w = some y) (h1 : y.1 < 48) (h2 : y.2 < 4) : cellQ w = some y := by
  unfold cellQ
  rw [h]
  exact if_pos ⟨h1, h2⟩
theorem cellP_one {w a b : List UInt8} (h : sp 47 w = [a, b]) : cellP w = (match rdN a, rdN b with
    | some m, some n => some ((m : Int), (n : Int))
    | _, _ => none) := by
  unfold cellP
  rw [h]
theorem cellP_no {w : List UInt8} (h : (sp 47 w).length ≠ 2) : cellP w = none := by
  unfold cellP
  match sp 47 w, h with
  | [], _ => rfl
  | [a], _ => rfl
  | [a, b], h => exact absurd rfl h
  | a :: b :: c :: r, _ => rfl
def rowP (line : List UInt8) : Option (List Int × List Int) := (mapO cellP (sp 32 line)).map fun ps => (ps.map (·.1), ps.map (·.2))
def rowQ (line : List UInt8) : Option (List Int × List Int) := (mapO cellQ (sp 32 line)).map fun ps => (ps.map (·.1), ps.map (·.2))
theorem sp_two {w a b : List UInt8} (h : sp 47 w = [a, b]) : (ct 47 w).2.2 = true ∧ (ct 47 w).1 = a ∧ (ct 47 w).2.1 = b := by
  rcases ct_sp 47 w with ⟨h1, h2⟩ | ⟨h1, h2⟩
  · rw [h2] at h
    simp only [List.cons.injEq] at h
    obtain ⟨h3, h4⟩ := h
    refine ⟨h1, h3, ?_⟩
    have := sp_join 47 (ct 47 w).2.1
    rw [h4, Lib.join_one] at this
    exact this.symm
  · rw [h2] at h; simp at h
section
variable {line : List UInt8} (hl : line.length ≤ 20000)
include hl
theorem s_state (p0 : Machine) (h1 : p0.Next.length ≤ 1000000) (h2 : p0.Out.length ≤ 1000000) : s_l29State p0 (ofL line) = some (match rowP line with | some r => (⟨p0.Next ++ [r.1], p0.Out ++ [r.2]⟩, true) | none => (p0, false)) := by
  obtain ⟨l1, l2⟩ := sp_len 32 line
  unfold s_l29State
  rw [show (32 : Int) = ((32 : UInt8).toNat : Int) from rfl, s_l1Split_eq (by omega), Option.bind_some, List.length_map,
    cnt_mapO0 (f := s_l29State_b0 p0 ((sp 32 line).map ofL)) cellP (p0, false) (xs := sp 32 line) (fun i w s hw e1 e2 => by
      have hwl := l2 w (List.mem_of_getElem? hw)
      have hi := (List.getElem?_eq_some_iff.1 hw).1
      unfold s_l29State_b0
      rw [idx_nat, List.getElem?_map, hw]
      simp only [Option.map_some, Option.bind_some]
      rw [show (47 : Int) = ((47 : UInt8).toNat : Int) from rfl, s_l1Split_eq (by omega), Option.bind_some]
      by_cases h2 : (sp 47 w).length = 2
      · obtain ⟨a, b, hab⟩ : ∃ a b, sp 47 w = [a, b] := by
          match sp 47 w, h2 with
          | [a, b], _ => exact ⟨a, b, rfl⟩
        rw [cellP_one hab, hab]
        have c1 : ((([ofL a, ofL b] : List ByteArray).length : Int) != 2) = false := rfl
        simp only [List.map_cons, List.map_nil, c1, cond_false]
        have i0 : idx [ofL a, ofL b] 0 = some (ofL a) := rfl
        have i1 : idx [ofL a, ofL b] 1 = some (ofL b) := rfl
        rw [i0, Option.bind_some, s_l1Read_eq, Option.bind_some, i1, Option.bind_some, s_l1Read_eq, Option.bind_some]
        generalize rdN a = A
        generalize rdN b = B
        cases A with
        | none => rfl
        | some m =>
          cases B with
          | none => rfl
          | some n =>
            simp only [Bool.not_true, cond_false, Option.bind_some]
            rw [app1 (by omega) rfl, Option.bind_some, app1 (by omega) rfl]; rfl
      · have c1 : ((((sp 47 w).map ofL).length : Int) != 2) = true := by
          rw [List.length_map]
          simp only [bne, Bool.not_eq_true', beq_eq_false_iff_ne]; omega
        rw [c1, cellP_no h2]
        rfl), Option.bind_some]
  unfold rowP
  cases mapO cellP (sp 32 line) with
  | none => rfl
  | some ps =>
    simp only [aft_inr, Option.map_some]
    rw [app1 (by omega) rfl, Option.bind_some, app1 (by omega) rfl]; rfl
theorem i_row : ∃ o, strings_Split (ofL line) (ByteArray.mk #[32]) = some o ∧ cntM (i_TextMachine_b2 o) o.length 0 ([], []) = some (match rowQ line with | some r => .inr r | none => .inl (⟨[], []⟩, false)) := by
  obtain ⟨l1, l2⟩ := sp_len 32 line
  refine ⟨(sp 32 line).map ofL, ?_, ?_⟩
  · unfold strings_Split
    exact splitS_ofL (by omega)
  · rw [List.length_map, cnt_mapO0 (f := i_TextMachine_b2 ((sp 32 line).map ofL)) cellQ ((⟨[], []⟩, false) : Machine × Bool) (xs := sp 32 line) (fun i w s hw e1 e2 => by
      have hwl := l2 w (List.mem_of_getElem? hw)
      have hi := (List.getElem?_eq_some_iff.1 hw).1
      have hcl := ct_len 47 w
      unfold i_TextMachine_b2
      rw [idx_nat, List.getElem?_map, hw]
      simp only [Option.map_some, Option.bind_some]
      unfold strings_Cut
      rw [show ByteArray.mk #[47] = ofL [47] from rfl, cutB_ofL (by omega), Option.bind_some]
      dsimp only
      rw [i_readNumber_eq, Option.bind_some, i_readNumber_eq, Option.bind_some]
      unfold cellQ
      rcases ct_sp 47 w with ⟨h1, h2⟩ | ⟨h1, h2⟩
      · rw [h1]
        by_cases hone : ∃ b, sp 47 (ct 47 w).2.1 = [b]
        · obtain ⟨b, hb⟩ := hone
          have hbb : b = (ct 47 w).2.1 := by
            have := sp_join 47 (ct 47 w).2.1
            rw [hb, Lib.join_one] at this
            exact this
          rw [hb, hbb] at h2
          rw [cellP_one h2]
          generalize rdN (ct 47 w).1 = A
          generalize rdN (ct 47 w).2.1 = B
          cases A with
          | none => rfl
          | some m =>
            cases B with
            | none =>
              dsimp only
              cases decide ((m : Int) < 48) <;> rfl
            | some n =>
              dsimp only
              by_cases hm : (m : Int) < 48
              · by_cases hn : (n : Int) < 4
                · simp only [hm, hn, decide_true, Bool.not_true, cond_false, Option.bind_some, and_self, if_true]
                  rw [app1 (by omega) rfl, Option.bind_some, app1 (by omega) rfl]; rfl
                · simp [hm, hn]
              · simp [hm]
        · have hr : rdN (ct 47 w).2.1 = none := by
            cases hr : rdN (ct 47 w).2.1 with
            | none => rfl
            | some n =>
              have hd := rdN_dig hr
              have : (47 : UInt8) ∉ (ct 47 w).2.1 := fun hm => by have := hd _ hm; simp at this
              exact absurd ⟨_, sp_none this⟩ hone
          have hmm : cellP w = none := cellP_no fun e => by
            rw [h2, List.length_cons] at e
            match e2 : sp 47 (ct 47 w).2.1 with
            | [] => rw [e2] at e; simp at e
            | [b] => exact hone ⟨b, e2⟩
            | b :: c :: r => rw [e2] at e; simp at e
          rw [hr, hmm]
          generalize rdN (ct 47 w).1 = A
          cases A with
          | none => rfl
          | some m =>
            dsimp only
            cases decide ((m : Int) < 48) <;> rfl
      · have hmm : cellP w = none := cellP_no (by rw [h2]; simp)
        rw [h1, hmm]
        rfl)]
    unfold rowQ
    cases mapO cellQ (sp 32 line) <;> rfl
end
def zeroM : Machine × Bool := (⟨[], []⟩, false)
def machOf (R : List (List Int × List Int)) : Machine := ⟨R.map (·.1), R.map (·.2)⟩
theorem s_lines {ls : List (List UInt8)} (hn : ls.length ≤ 20001) (hl : ∀ l ∈ ls, l.length ≤ 20000) (more : Bool) : cntM (s_TextMachine_b0 (ls.map ofL, more)) ls.length 0 ([], []) = some (match mapO rowP ls with | some R => .inr (R.map (·.1), R.map (·.2)) | none => .inl zeroM) := by
  rw [cnt_mapO0 (f := s_TextMachine_b0 (ls.map ofL, more)) rowP zeroM (xs := ls) (fun i l s hw e1 e2 => by
    have hi := (List.getElem?_eq_some_iff.1 hw).1
    unfold s_TextMachine_b0
    rw [idx_nat, List.getElem?_map, hw]
    simp only [Option.map_some, Option.bind_some]
    rw [s_state (hl l (List.mem_of_getElem? hw)) ⟨s.1, s.2⟩ (by dsimp only; omega) (by dsimp only; omega), Option.bind_some]
    cases rowP l <;> rfl)]
  cases mapO rowP ls <;> rfl
theorem i_lines {ls : List (List UInt8)} (hn : ls.length ≤ 20001) (hl : ∀ l ∈ ls, l.length ≤ 20000) (whole : Bool) : cntM (i_TextMachine_b0 (ls.map ofL, whole)) ls.length 0 ([], []) = some (match mapO rowQ ls with | some R => .inr (R.map (·.1), R.map (·.2)) | none => .inl zeroM) := by
  rw [cnt_mapO0 (f := i_TextMachine_b0 (ls.map ofL, whole)) rowQ zeroM (xs := ls) (fun i l s hw e1 e2 => by
    have hi := (List.getElem?_eq_some_iff.1 hw).1
    obtain ⟨o, o1, o2⟩ := i_row (hl l (List.mem_of_getElem? hw))
    unfold i_TextMachine_b0
    rw [idx_nat, List.getElem?_map, hw]
    simp only [Option.map_some, Option.bind_some]
    rw [o1, Option.bind_some, o2, Option.bind_some]
    cases rowQ l with
    | none => rfl
    | some r =>
      simp only [aft_inr]
      rw [app1 (by omega) rfl, Option.bind_some, app1 (by omega) rfl]; rfl)]
  cases mapO rowQ ls <;> rfl
/-- what is read, if the last line is whole -/
def finP (p : Sig) (ls : List (List UInt8)) (more : Bool) : Machine × Bool := match mapO rowP ls with
  | some R => if (!more && (sigOk p && machOk p (machOf R))) = true then (machOf R, true) else zeroM
  | none => zeroM
def linesT (l : List UInt8) : List (List UInt8) := (sp 10 l).dropLast
def moreT (l : List UInt8) : Bool := !decide ((sp 10 l).getLast? = some [])
theorem sp_last (l : List UInt8) : ∃ d w, sp 10 l = d ++ [w] ∧ linesT l = d ∧ moreT l = !decide (w = []) := by
  have h := sp_ne 10 l
  refine ⟨(sp 10 l).dropLast, (sp 10 l).getLast h, (List.dropLast_concat_getLast h).symm, rfl, ?_⟩
  unfold moreT
  rw [List.getLast?_eq_some_getLast h]
  simp
theorem row_small {p : Sig} {R : List (List Int × List Int)} (hs : sigOk p = true) (hm : machOk p (machOf R) = true) {l : List UInt8} {y : List Int × List Int} (h : rowP l = some y) (hy : y ∈ R) : rowQ l = some y := by
  obtain ⟨m1, m2, m3, m4, m5⟩ := machOk_spec hm
  have pO := pw_le p.Out
  have hN : ∀ v ∈ y.1, v < 48 := fun v hv => by
    have := (m4 y.1 (List.mem_map.2 ⟨y, hy, rfl⟩)).2 v hv
    omega
  have hO : ∀ v ∈ y.2, v < 4 := fun v hv => by
    have := (m5 y.2 (List.mem_map.2 ⟨y, hy, rfl⟩)).2 v hv
    omega
  unfold rowP at h
  obtain ⟨ps, h1, h2⟩ := Option.map_eq_some_iff.1 h
  subst h2
  unfold rowQ
  rw [mapO_sup h1 (g := cellQ) fun w c hc hm => cellQ_of hc (hN _ (List.mem_map.2 ⟨c, hm, rfl⟩)) (hO _ (List.mem_map.2 ⟨c, hm, rfl⟩))]
  rfl
theorem rowQ_sub (l : List UInt8) (y : List Int × List Int) (h : rowQ l = some y) : rowP l = some y := by
  unfold rowQ at h
  obtain ⟨ps, h1, h2⟩ := Option.map_eq_some_iff.1 h
  unfold rowP
  rw [mapO_sub (fun w y h => (cellQ_sub h).1) h1]
  exact congrArg some h2
theorem s_TextMachine_eq (p : Sig) {l : List UInt8} : s_TextMachine p (ofL l) = some (if 20000 < l.length then zeroM else finP p (linesT l) (moreT l)) := by
  unfold s_TextMachine
  rw [ofL_size]
  by_cases hl : 20000 < l.length
  · have : (20000 : Int) < (l.length : Int) := by omega
    rw [if_pos hl]
    simp only [this, decide_true, cond_true]
    rfl
  · have : ¬ (20000 : Int) < (l.length : Int) := by omega
    rw [if_neg hl]
    simp only [this, decide_false, cond_false]
    obtain ⟨l1, l2⟩ := sp_len 10 l
    obtain ⟨d, w, hd, e1, e2⟩ := sp_last l
    unfold s_l13Lines
    rw [show (10 : Int) = ((10 : UInt8).toNat : Int) from rfl, s_l1Split_eq (by omega), Option.bind_some, hd, e1, e2]
    rw [hd] at l1 l2
    simp only [List.length_append, List.length_singleton] at l1
    have hlen : (((d ++ [w]).map ofL).length : Int) - 1 = (d.length : Int) := by simp
    have hi : ((d ++ [w]).map ofL)[d.length]? = some (ofL w) := by simp
    rw [hlen, wr' (by omega) (by omega), idx_nat, hi]
    have hs : subS ((d ++ [w]).map ofL) 0 (d.length : Int) = some (d.map ofL) := by
      unfold subS
      rw [if_pos ⟨by omega, by omega, by simp; omega⟩, Int.toNat_natCast]
      simp
    rw [hs, show ByteArray.mk #[] = ofL [] from rfl, Option.bind_some, Option.bind_some, eqB_ofL, Option.bind_some, List.length_map,
      s_lines (by omega) (fun x hx => Nat.le_trans (l2 x (List.mem_append_left _ hx)) (by omega)), Option.bind_some]
    unfold finP
    cases mapO rowP d with
    | none => rfl
    | some R =>
      simp only [aft_inr]
      cases decide (w = []) with
      | false => rfl
      | true =>
        show Option.bind (Option.bind (s_MachineOk p (machOf R)) fun x45 => some (!x45)) _ = _
        rw [s_MachineOk_eq]
        cases (sigOk p && machOk p (machOf R)) <;> rfl
theorem i_TextMachine_eq (p : Sig) {l : List UInt8} : i_TextMachine p (ofL l) = some (if 20000 < l.length then zeroM else finP p (linesT l) (moreT l)) := by
  unfold i_TextMachine
  rw [i_isSig_eq, ofL_size]
  simp only [Option.bind_some, orE]
  cases hs : sigOk p with
  | false =>
    simp only [Bool.not_false, Bool.true_or, cond_true]
    have : finP p (linesT l) (moreT l) = zeroM := by
      unfold finP
      cases mapO rowP (linesT l) with
      | none => rfl
      | some R => simp [hs]
    rw [this]
    split <;> rfl
  | true =>
    simp only [Bool.not_true, Bool.false_or]
    by_cases hl : 20000 < l.length
    · have : (20000 : Int) < (l.length : Int) := by omega
      rw [if_pos hl]
      simp only [this, decide_true, cond_true]
      rfl
    · have : ¬ (20000 : Int) < (l.length : Int) := by omega
      rw [if_neg hl]
      simp only [this, decide_false, cond_false]
      obtain ⟨l1, l2⟩ := sp_len 10 l
      obtain ⟨d, w, hd, e1, e2⟩ := sp_last l
      rw [e1, e2]
      unfold i_linesOf strings_Split
      rw [show ByteArray.mk #[] = ofL [] from rfl, eqB_ofL]
      have core : ∀ (whole : Bool), whole = decide (w = []) → (Option.bind (cntM (i_TextMachine_b0 (d.map ofL, whole)) (d.map ofL).length 0 ([], [])) fun q2 =>
          aft (fun r => some r) (fun s3 => Option.bind (bif (!whole) then some true else Option.bind (i_isMachine p ⟨s3.1, s3.2⟩) fun x106 => some (!x106)) fun p108 =>
            bif p108 then some ((⟨[], []⟩ : Machine), false) else some ((⟨s3.1, s3.2⟩ : Machine), true)) q2) = some (finP p d (!decide (w = []))) := fun whole hw => by
        have hdl : d.length ≤ 20001 := by
          rw [hd] at l1
          simp only [List.length_append, List.length_singleton] at l1
          omega
        rw [List.length_map, i_lines hdl (fun x hx => Nat.le_trans (l2 x (by rw [hd]; exact List.mem_append_left _ hx)) (by omega)), Option.bind_some]
        unfold finP
        cases hq : mapO rowQ d with
        | none =>
          cases hp : mapO rowP d with
          | none => rfl
          | some R =>
            have : machOk p (machOf R) = false := by
              cases hm : machOk p (machOf R) with
              | false => rfl
              | true =>
                have := mapO_sup hp (g := rowQ) fun x y h1 h2 => row_small hs hm h1 h2
                rw [hq] at this; cases this
            show some zeroM = some (if (!(!decide (w = [])) && (sigOk p && machOk p (machOf R))) = true then (machOf R, true) else zeroM)
            rw [this]; simp
        | some R =>
          rw [mapO_sub rowQ_sub hq]
          simp only [aft_inr, hw, hs, Bool.true_and, Bool.not_not]
          cases decide (w = []) with
          | false => rfl
          | true =>
            show Option.bind (Option.bind (i_isMachine p (machOf R)) fun x106 => some (!x106)) _ = _
            rw [i_isMachine_eq hs]
            cases machOk p (machOf R) <;> rfl
      by_cases h0 : l = []
      · subst h0
        have hdw : d = [] ∧ w = [] := by
          cases d with
          | nil => simpa [sp] using hd.symm
          | cons y d => simp [sp] at hd
        obtain ⟨rfl, rfl⟩ := hdw
        simp only [decide_true, cond_true, Option.bind_some]
        exact core true rfl
      · simp only [h0, decide_false, cond_false]
        rw [show ByteArray.mk #[10] = ofL [10] from rfl, splitS_ofL (by omega), Option.bind_some, hd]
        rw [hd] at l1
        simp only [List.length_append, List.length_singleton] at l1
        have hlen : (((d ++ [w]).map ofL).length : Int) - 1 = (d.length : Int) := by simp
        have hi : ((d ++ [w]).map ofL)[d.length]? = some (ofL w) := by simp
        rw [hlen, wr' (by omega) (by omega), idx_nat, hi, Option.bind_some, eqB_ofL]
        by_cases hw : w = []
        · have hsub : subS ((d ++ [w]).map ofL) 0 (d.length : Int) = some (d.map ofL) := by
            unfold subS
            rw [if_pos ⟨by omega, by omega, by simp; omega⟩, Int.toNat_natCast]
            simp
          simp only [hw, decide_true, cond_true] at hsub ⊢
          rw [hsub]
          exact (core true (by simp [hw])).trans (by simp [hw])
        · simp only [hw, decide_false, cond_false, Option.bind_some]
          rw [List.length_map, i_lines (by simp only [List.length_append, List.length_singleton]; omega) (fun x hx => Nat.le_trans (l2 x (by rw [hd]; exact hx)) (by omega)), Option.bind_some]
          have : finP p d (!false) = zeroM := by
            unfold finP
            cases mapO rowP d <;> simp
          rw [this]
          cases mapO rowQ (d ++ [w]) <;> rfl
end Go.Proofs.YtnpmbkaoeihdmaaDoor
