/- A clause that does not hold on a word, by the reference. -/
import Derived.Test.YtcmamhmpoinmnaaGreatL3BR
import Derived.Test.YtcmamhmpoinmnaaGreatL0BR
set_option linter.unusedVariables false
set_option linter.unusedSimpArgs false
namespace Go.Proofs.YtcmamhmpoinmnaaGreat
open Go Go.Wk Go.Proofs
theorem s_each (xs A : List Int) : s_l24Each xs A = some (xs.all fun x => decide (x ∈ A)) := by
 unfold s_l24Each
 rw [cnt_all0 (f := s_l24Each_b0 xs A) (r := false) (fun x => decide (x ∈ A)) (xs := xs) rfl (fun i x hx => by
  unfold s_l24Each_b0
  rw [idx_nat, hx, Option.bind_some, s_l1Has_eq, Option.bind_some]
  cases decide (x ∈ A) <;> rfl)]
 cases xs.all fun x => decide (x ∈ A) <;> rfl
theorem s_some (xs A : List Int) : s_l24Some xs A = some (xs.any fun x => decide (x ∈ A)) := by
 unfold s_l24Some
 rw [cnt_all0 (f := s_l24Some_b0 xs A) (r := true) (fun x => !decide (x ∈ A)) (xs := xs) rfl (fun i x hx => by
  unfold s_l24Some_b0
  rw [idx_nat, hx, Option.bind_some, s_l1Has_eq, Option.bind_some]
  cases decide (x ∈ A) <;> rfl), List.any_eq_not_all_not]
 cases xs.all fun x => !decide (x ∈ A) <;> rfl
theorem any_no {xs A : List Int} (h : ∀ x ∈ xs, x ∉ A) : (xs.any fun x => decide (x ∈ A)) = false := by
 rw [List.any_eq_false]
 intro x hx
 simpa using h x hx
theorem all_no {xs A : List Int} (h : ∃ x ∈ xs, x ∉ A) : (xs.all fun x => decide (x ∈ A)) = false := by
 rw [List.all_eq_false]
 obtain ⟨x, hx, hn⟩ := h
 exact ⟨x, hx, by simpa using hn⟩
theorem s_holds_no {p : Sig} (hs : sigOk p = true) {c : Clause} (hb : Clause.bd c) (hc : clauseOk p c = true) {w : Word} (hw : wordOk w (ltr p) = true) (hn : NoHold c w.Stem w.Loop) : s_HoldsOn p c w = some false := by
 obtain ⟨w1, w2, w3, w4, w5⟩ := wordOk_spec hw
 obtain ⟨k1, k7⟩ := kind_in hc
 have hl := ltr_in hs
 have hwo : s_WordOk p w = some true := by
  unfold s_WordOk
  rw [s_SigOk_eq, hs, s_LettersOf_eq hs]
  simp only [Option.bind_some, cond_true]
  rw [s_l23Word_eq w (by omega) (by omega), hw]; rfl
 have hcp : s_l1Copy w.Stem = some w.Stem := by
  unfold s_l1Copy
  rw [appL (by rw [List.length_nil]; omega) rfl]; rfl
 have hap : appS 8 w.Stem w.Loop = some (w.Stem ++ w.Loop) := appL (by omega) rfl
 unfold s_HoldsOn
 rw [s_ClauseOk_eq hs hb, hc, hwo]
 simp only [Option.bind_some, Bool.not_true, cond_false, hcp, hap, s_each, s_some]
 have hlen : (w.Stem ++ w.Loop).length ≤ 1200 := by rw [List.length_append]; omega
 unfold NoHold at hn
 generalize hall : w.Stem ++ w.Loop = all at *
 rcases kinds k1 k7 with k | k | k | k | k | k | k
 · rw [if_pos k] at hn
   rw [k, all_no hn]; rfl
 · rw [if_neg (by omega), if_pos k] at hn
   obtain ⟨i, x, y, a1, a2, a3, a4⟩ := hn
   have hi := (List.getElem?_eq_some_iff.1 a2).1
   have hstep : ∀ (j : Nat) (u : Int), all[j]? = some u → ∃ b, s_l24Next_b0 c all (w.Stem.length : Int) (j : Int) () = some (if b then .inr (.inr ()) else .inl false) ∧ (j = i → b = false) := fun j u hu => by
    have hj := (List.getElem?_eq_some_iff.1 hu).1
    unfold s_l24Next_b0
    have hq : (bif decide (IntKind.i64.wrap ((j : Int) + 1) < (all.length : Int)) then some (IntKind.i64.wrap ((j : Int) + 1)) else some (w.Stem.length : Int)) = some (if j + 1 < all.length then ((j + 1 : Nat) : Int) else (w.Stem.length : Int)) := by
     rw [wr' (by omega) (by omega)]
     by_cases h : j + 1 < all.length
     · have : (j : Int) + 1 < (all.length : Int) := by omega
       simp [h, this]
     · have : ¬ (j : Int) + 1 < (all.length : Int) := by omega
       simp [h, this]
    have hsl : w.Stem.length < all.length := by rw [← hall, List.length_append]; omega
    obtain ⟨v, hv⟩ : ∃ v, idx all (if j + 1 < all.length then ((j + 1 : Nat) : Int) else (w.Stem.length : Int)) = some v := by
     by_cases h : j + 1 < all.length
     · rw [if_pos h]
       exact idx_some (by omega) (by omega)
     · rw [if_neg h]
       exact idx_some (by omega) (by omega)
    rw [hq, Option.bind_some, idx_nat, hu, Option.bind_some, s_l1Has_eq, Option.bind_some, hv]
    simp only [Option.bind_some, s_l1Has_eq]
    refine ⟨!decide (u ∈ c.A) || decide (v ∈ c.B), ?_, fun e => ?_⟩
    · cases decide (u ∈ c.A) <;> cases decide (v ∈ c.B) <;> rfl
    · subst e
      rw [a1] at hu
      cases hu
      rw [if_pos (by omega), idx_nat, a2] at hv
      cases hv
      rw [decide_eq_true a3, decide_eq_false a4]; rfl
   have hnx : s_l24Next c all (w.Stem.length : Int) = some false := by
    unfold s_l24Next
    obtain ⟨o, o1, o2⟩ := cnt_esc (f := s_l24Next_b0 c all (w.Stem.length : Int)) (fun j (_ : Unit) => j ≤ i) (fun r => r = false) all.length (fun j s hj hji => by
     obtain ⟨u, hu⟩ : ∃ u, all[j]? = some u := ⟨_, List.getElem?_eq_getElem hj⟩
     obtain ⟨b, b1, b2⟩ := hstep j u hu
     cases b with
     | false => exact ⟨_, b1, rfl⟩
     | true =>
      refine ⟨_, b1, ?_⟩
      by_cases e : j = i
      · exact absurd (b2 e) (by simp)
      · show j + 1 ≤ i
        omega) all.length 0 () (by omega) (Nat.zero_le _)
    rw [show ((0 : Nat) : Int) = 0 from rfl] at o1
    rw [o1, Option.bind_some]
    match o, o2 with
    | .inl r, o2 =>
     have o2 : r = false := o2
     rw [o2]; rfl
    | .inr s, o2 =>
     have o2 : all.length ≤ i := o2
     omega
   rw [k]
   show Option.bind (s_l24Next c all (w.Stem.length : Int)) _ = _
   rw [hnx]; rfl
 · rw [if_neg (by omega), if_neg (by omega), if_pos k] at hn
   obtain ⟨hB, i, x, a1, a2, a3⟩ := hn
   have hi := (List.getElem?_eq_some_iff.1 a1).1
   have han : s_l24Answer c w all = some false := by
    unfold s_l24Answer
    rw [s_some, any_no hB, Option.bind_some, cond_false]
    obtain ⟨o, o1, o2⟩ := cnt_esc (f := s_l24Answer_b0 c all) (fun j (_ : Unit) => j ≤ i) (fun r => r = false) all.length (fun j s hj hji => by
     obtain ⟨u, hu⟩ : ∃ u, all[j]? = some u := ⟨_, List.getElem?_eq_getElem hj⟩
     have hsub : subS all (j : Int) (all.length : Int) = some (all.drop j) := by
      unfold subS
      rw [if_pos (by omega), Int.toNat_natCast, Int.toNat_natCast, List.take_length]
     unfold s_l24Answer_b0
     rw [idx_nat, hu, Option.bind_some, s_l1Has_eq, Option.bind_some, hsub]
     simp only [Option.bind_some, s_some]
     by_cases e : j = i
     · subst e
       rw [a1] at hu
       cases hu
       rw [decide_eq_true a2, any_no a3]
       exact ⟨_, rfl, rfl⟩
     · cases decide (u ∈ c.A) <;> cases ((all.drop j).any fun y => decide (y ∈ c.B))
       · exact ⟨_, rfl, by show j + 1 ≤ i; omega⟩
       · exact ⟨_, rfl, by show j + 1 ≤ i; omega⟩
       · exact ⟨_, rfl, rfl⟩
       · exact ⟨_, rfl, by show j + 1 ≤ i; omega⟩) all.length 0 () (by omega) (Nat.zero_le _)
    rw [show ((0 : Nat) : Int) = 0 from rfl] at o1
    rw [o1, Option.bind_some]
    match o, o2 with
    | .inl r, o2 =>
     have o2 : r = false := o2
     rw [o2]; rfl
    | .inr s, o2 =>
     have o2 : all.length ≤ i := o2
     omega
   rw [k]
   show Option.bind (s_l24Answer c w all) _ = _
   rw [han]; rfl
 · rw [if_neg (by omega), if_neg (by omega), if_neg (by omega), if_pos k] at hn
   rw [k, any_no hn]; rfl
 · rw [if_neg (by omega), if_neg (by omega), if_neg (by omega), if_neg (by omega), if_pos k] at hn
   rw [k, all_no hn]; rfl
 · rw [if_neg (by omega), if_neg (by omega), if_neg (by omega), if_neg (by omega), if_neg (by omega), if_pos k] at hn
   rw [k, any_no hn]; rfl
 · rw [if_neg (by omega), if_neg (by omega), if_neg (by omega), if_neg (by omega), if_neg (by omega), if_neg (by omega)] at hn
   have hA : (w.Loop.any fun x => decide (x ∈ c.A)) = true := by
    rw [List.any_eq_true]
    obtain ⟨x, hx, ha⟩ := hn.1
    exact ⟨x, hx, by simpa using ha⟩
   rw [k, hA, any_no hn.2]; rfl
end Go.Proofs.YtcmamhmpoinmnaaGreat
set_option linter.unusedVariables false
set_option linter.unusedSimpArgs false
namespace Go.Proofs.YtcmamhmpoinmnaaGreat
open Go Go.Wk Go.Proofs
theorem s_l1Place_eq (xs : List Int) (v : Int) : s_l1Place xs v = some (placeOf xs v) := by
 unfold s_l1Place placeOf
 rw [cnt_find0 (f := s_l1Place_b0 xs v) (fun x => v == x) (fun i => (i : Int)) (xs := xs) (fun i x hx => by
  unfold s_l1Place_b0
  rw [idx_nat, hx, Option.bind_some, show (x == v) = (v == x) from BEq.comm]
  cases v == x <;> rfl), Option.bind_some]
 cases xs.findIdx? (fun x => v == x) <;> rfl
end Go.Proofs.YtcmamhmpoinmnaaGreat
set_option linter.unusedVariables false
set_option linter.unusedSimpArgs false
namespace Go.Proofs.YtcmamhmpoinmnaaGreat
open Go Go.Wk Go.Proofs
theorem all_inR {xs : List Int} {n : Int} (h : ∀ x ∈ xs, 0 ≤ x ∧ x < n) : xs.all (inR n) = true := List.all_eq_true.2 fun x hx => inR_iff.2 (h x hx)
theorem s_inputs {p : Sig} (hs : sigOk p = true) {R : List Int} (hl : R.length ≤ 600) (h : ∀ x ∈ R, 0 ≤ x ∧ x < pw p.In) : s_l29Inputs p R = some true := by
 obtain ⟨hi, _⟩ := sigOk_in hs
 have pI := pw_le p.In
 unfold s_l29Inputs s_l29Ins
 rw [decide_eq_true (by omega), cond_true, s_l23Power_eq hi, Option.bind_some, Option.bind_some, s_l23Below_eq _ (by omega) (by omega), all_inR h]
 rfl
theorem s_run {p : Sig} {m : Machine} (hs : sigOk p = true) (hm : machOk p m = true) {R Q A B : List Int} {q : Int} (hR : R.length ≤ 300) (hQ : Q.length ≤ 300) (hne : Q ≠ []) (iR : ∀ x ∈ R, 0 ≤ x ∧ x < pw p.In) (iQ : ∀ x ∈ Q, 0 ≤ x ∧ x < pw p.In)
 (h1 : s_l29Behind m 0 R = some q) (h2 : s_l29Behind m q Q = some q) (h3 : s_l29Letters p m 0 R = some A) (h4 : s_l29Letters p m q Q = some B) (hA : A.length ≤ 300) (hB : B.length ≤ 300) : s_RunWord p m ⟨R, Q⟩ = some ⟨A, B⟩ := by
 have hq0 : 0 < Q.length := List.length_pos_iff.2 hne
 have hQl : ((Q.length : Int) == 0) = false := by rw [beq_eq_false_iff_ne]; omega
 have p0 : placeOf [] q = -1 := rfl
 have p1 : placeOf [q] q = 0 := by unfold placeOf; simp
 have hw : whileM (s_RunWord_b0 m ⟨R, Q⟩) (2 ^ 64) ([], q) = some (.inr ([q], q)) := by
  have hp : 2 ≤ (2 : Nat) ^ 64 := by omega
  revert hp
  generalize (2 : Nat) ^ 64 = z
  intro hp
  obtain ⟨z, rfl⟩ : ∃ z', z = z' + 1 + 1 := ⟨z - 2, by omega⟩
  show Option.bind (s_RunWord_b0 m ⟨R, Q⟩ ([], q)) (lpK (whileM (s_RunWord_b0 m ⟨R, Q⟩) (z + 1))) = _
  have e1 : s_RunWord_b0 m ⟨R, Q⟩ ([], q) = some (.inr (.inr ([q], q))) := by
   unfold s_RunWord_b0
   dsimp only
   rw [s_l1Place_eq, Option.bind_some, p0, decide_eq_true (by omega), cond_true, app1 (by simp) rfl, Option.bind_some, h2]
   rfl
  have e2 : s_RunWord_b0 m ⟨R, Q⟩ ([q], q) = some (.inr (.inl ([q], q))) := by
   unfold s_RunWord_b0
   dsimp only
   rw [s_l1Place_eq, Option.bind_some, p1, decide_eq_false (by omega), cond_false]
  rw [e1, Option.bind_some]
  show Option.bind (s_RunWord_b0 m ⟨R, Q⟩ ([q], q)) (lpK (whileM (s_RunWord_b0 m ⟨R, Q⟩) z)) = _
  rw [e2]; rfl
 have hb2 : s_RunWord_b2 p m ⟨R, Q⟩ ([q], q) 0 0 (A, []) = some (.inr (.inr (A, B))) := by
  unfold s_RunWord_b2
  dsimp only
  rw [show idx [q] (0 : Int) = some q from rfl, Option.bind_some, h4, Option.bind_some, decide_eq_false (Int.lt_irrefl _), cond_false, appL (by rw [List.length_nil]; omega) rfl]
  rfl
 have hc : cntM (s_RunWord_b2 p m ⟨R, Q⟩ ([q], q) 0) 1 0 (A, []) = some (.inr (A, B)) := by
  show Option.bind (s_RunWord_b2 p m ⟨R, Q⟩ ([q], q) 0 0 (A, [])) _ = _
  rw [hb2]; rfl
 unfold s_RunWord
 rw [s_MachineOk_eq, hs, hm]
 simp only [Bool.true_and, Option.bind_some, Bool.not_true, cond_false, s_inputs hs (by omega) iR, s_inputs hs (by omega) iQ, hQl]
 rw [h1, Option.bind_some, hw, Option.bind_some, aft_inr]
 dsimp only
 rw [s_l1Place_eq, Option.bind_some, p1, h3, Option.bind_some]
 show Option.bind (cntM (s_RunWord_b2 p m ⟨R, Q⟩ ([q], q) 0) 1 0 (A, [])) _ = _
 rw [hc, Option.bind_some, aft_inr]
 dsimp only
 rw [decide_eq_false (by omega), cond_false, decide_eq_false (by omega)]
 rfl
theorem s_same_refl {w : Word} (hw : wordOk w 16 = true) : s_SameWord w w = some true := by
 obtain ⟨w1, w2, w3, w4, w5⟩ := wordOk_spec hw
 unfold s_SameWord s_l23Fine
 rw [s_l23Word_eq w (by omega) (by omega), hw]
 simp only [Option.bind_some, Bool.not_true, cond_false]
 have hmax : s_l1Max (w.Stem.length : Int) (w.Stem.length : Int) = some (w.Stem.length : Int) := by
  unfold s_l1Max
  simp
 rw [hmax, Option.bind_some, wr' (z := (w.Stem.length : Int) + (w.Loop.length : Int)) (by omega) (by omega), wr' (by omega) (by omega)]
 have hr : rng ((w.Stem.length : Int) + (w.Loop.length : Int) + (w.Loop.length : Int)) = some () := by unfold rng; rw [if_pos (by omega)]
 rw [hr, Option.bind_some]
 obtain ⟨o, o1, o2⟩ := cnt_inv (f := s_SameWord_b0 w w) (fun _ (_ : Unit) => True) (Int.toNat ((w.Stem.length : Int) + (w.Loop.length : Int) + (w.Loop.length : Int) - 0)) (s := ()) trivial (fun j s hj _ => by
  have hat : ∃ v, s_l23At w (j : Int) = some v := by
   unfold s_l23At
   by_cases hlt : (j : Int) < (w.Stem.length : Int)
   · rw [decide_eq_true hlt, cond_true, idx_nat]
     have : w.Stem[j]? = some (w.Stem[j]'(by omega)) := List.getElem?_eq_getElem (by omega)
     rw [this]
     exact ⟨_, rfl⟩
   · rw [decide_eq_false hlt, cond_false]
     have hnz : nz (w.Loop.length : Int) = some () := by unfold nz; rw [if_neg (by omega)]
     rw [hnz, Option.bind_some, wr' (by omega) (by omega), Int.tmod_eq_emod_of_nonneg (by omega)]
     obtain ⟨v, hv⟩ := idx_some (xs := w.Loop) (i := ((j : Int) - (w.Stem.length : Int)) % (w.Loop.length : Int)) (Int.emod_nonneg _ (by omega)) (Int.emod_lt_of_pos _ (by omega))
     rw [hv]
     exact ⟨_, rfl⟩
  obtain ⟨v, hv⟩ := hat
  unfold s_SameWord_b0
  rw [hv, Option.bind_some, Option.bind_some, bne_self_eq_false, cond_false]
  exact ⟨_, rfl, trivial⟩)
 rw [o1]; rfl
theorem s_in {p : Sig} (hs : sigOk p = true) {x : Int} (x0 : 0 ≤ x) (x1 : x < ltr p) : s_InOf p x = some (x % pw p.In) := by
 obtain ⟨hi, _⟩ := sigOk_in hs
 have pI := pw_le p.In
 have hl := ltr_in hs
 have hnz : nz (pw p.In) = some () := by unfold nz; rw [if_neg (by omega)]
 unfold s_InOf
 rw [s_LettersOf_eq hs, Option.bind_some, wr' (z := ltr p - 1) (by omega) (by omega), s_l1In_eq, inR_one, Option.bind_some, inR_iff.2 ⟨x0, x1⟩, s_l23Power_eq hi]
 simp only [Bool.not_true, cond_false, Option.bind_some, hnz, Int.tmod_eq_emod_of_nonneg x0]
end Go.Proofs.YtcmamhmpoinmnaaGreat
set_option linter.unusedVariables false
set_option linter.unusedSimpArgs false
namespace Go.Proofs.YtcmamhmpoinmnaaGreat
open Go Go.Wk Go.Proofs
theorem wr_u {z : Int} (h0 : 0 ≤ z) (h1 : z < 18446744073709551616) : IntKind.u64.wrap z = z := by
 simp [IntKind.wrap, IntKind.bits, IntKind.signed]
 omega
theorem below_ok {d : dice} (hb : ∀ x ∈ d.b, U8 x) (hl : d.b.length ≤ 4096) (i0 : 0 ≤ d.i) (i1 : d.i ≤ 4096) {k : Int} (hk : 1 ≤ k) : ∃ x i h, l_dice_below d k = some (x, i, h) ∧ 0 ≤ x ∧ x < k ∧ 0 ≤ i ∧ i ≤ 4096 := by
 unfold l_dice_below
 have hnz : nz k = some () := by unfold nz; rw [if_neg (by omega)]
 generalize hA : (BitVec.ofInt (IntKind.bits IntKind.u64) (Int.fdiv (IntKind.u64.wrap (IntKind.u64.wrap (d.h * 6364136223846793005) + 1442695040888963407)) (2 ^ (min (Int.toNat 33) (IntKind.bits IntKind.u64))))) = A
 have hy : (BitVec.toNat (A &&& BitVec.ofInt (IntKind.bits IntKind.u64) 16777215)) ≤ 16777215 := by
  rw [BitVec.toNat_and]
  refine Nat.le_trans Nat.and_le_right ?_
  decide
 generalize (BitVec.toNat (A &&& BitVec.ofInt (IntKind.bits IntKind.u64) 16777215)) = y at hy
 rw [wr_u (by omega) (by omega), wr' (z := (y : Int)) (by omega) (by omega)]
 by_cases hlt : d.i < (d.b.length : Int)
 · obtain ⟨x, hx, hm⟩ := get_el (xs := d.b) i0 hlt
   have hx8 := hb x hm
   unfold U8 at hx8
   simp only [hlt, decide_true, cond_true, hx, Option.bind_some, hnz]
   rw [wr' (z := x) (by omega) (by omega), wr' (z := (y : Int) + x) (by omega) (by omega), wr' (by omega) (by omega), Int.tmod_eq_emod_of_nonneg (by omega)]
   exact ⟨_, _, _, rfl, Int.emod_nonneg _ (by omega), Int.emod_lt_of_pos _ (by omega), by omega, by omega⟩
 · simp only [hlt, decide_false, cond_false, Option.bind_some, hnz]
   rw [Int.tmod_eq_emod_of_nonneg (by omega)]
   exact ⟨_, _, _, rfl, Int.emod_nonneg _ (by omega), Int.emod_lt_of_pos _ (by omega), by omega, by omega⟩
theorem roll_ok (b : List Int) (k : Int) : ∃ h, l_roll b k = some ⟨b, 0, h⟩ := by
 unfold l_roll
 obtain ⟨s, h1, _⟩ := cnt_inv (f := l_roll_b0 b) (fun _ _ => True) b.length (s := (IntKind.u64.wrap ((IntKind.u64.wrap (k * 7919)) + (IntKind.u64.wrap (b.length : Int))))) trivial (fun j s hj _ => by
  have hx : b[j]? = some b[j] := by simp [hj]
  unfold l_roll_b0
  rw [idx_nat, hx]
  exact ⟨_, rfl, trivial⟩)
 rw [h1]
 exact ⟨s, rfl⟩
theorem machOk_of {p : Sig} {m : Machine} (h1 : 1 ≤ m.Next.length) (h2 : m.Next.length ≤ 48) (h3 : m.Out.length = m.Next.length) (h4 : ∀ row ∈ m.Next, RowIn m.Next.length (pw p.In) row) (h5 : ∀ row ∈ m.Out, RowIn (pw p.Out) (pw p.In) row) : machOk p m = true := by
 unfold machOk
 rw [h3]
 simp only [Bool.and_eq_true, decide_eq_true_eq, beq_self_eq_true, and_true, List.all_eq_true]
 refine ⟨by omega, fun x hx => ?_⟩
 obtain ⟨row, i⟩ := x
 rw [List.mem_zipIdx_iff_getElem?] at hx
 have hx : m.Next[i]? = some row := hx
 have hlt := (List.getElem?_eq_some_iff.1 hx).1
 have ho : m.Out[i]? = some (m.Out[i]'(by omega)) := List.getElem?_eq_getElem (by omega)
 have hom := h5 _ (List.getElem_mem (by omega : i < m.Out.length))
 obtain ⟨a1, a2⟩ := h4 row (List.mem_of_getElem? hx)
 unfold rowOk
 rw [ho]
 simp only [Bool.and_eq_true, beq_iff_eq, List.all_eq_true, inR_iff]
 exact ⟨⟨⟨a1, by rw [a1]; exact hom.1⟩, a2⟩, hom.2⟩
section
variable {b : List Int} (hb : ∀ x ∈ b, U8 x) (hl : b.length ≤ 4096)
include hb hl
theorem mach_okN {most : Int} (hm1 : 1 ≤ most) (hm2 : most ≤ 40) {p : Sig} (hs : sigOk p = true) {i h : Int} (i0 : 0 ≤ i) (i1 : i ≤ 4096) : ∃ m i' h', l_w9Machine ⟨b, i, h⟩ p most = some (m, i', h') ∧ machOk p m = true ∧ 0 ≤ i' ∧ i' ≤ 4096 := by
 obtain ⟨x, i2, h2, a1, a2, a3, a4, a5⟩ := below_ok (d := ⟨b, i, h⟩) hb hl i0 i1 (k := most) (by omega)
 obtain ⟨hi, ho⟩ := sigOk_in hs
 have q1 : (bif (p.In == 2) then some (4 : Int) else some 2) = some (pw p.In) := by rcases hi with e | e <;> rw [e] <;> decide
 have q2 : (bif (p.Out == 2) then some (4 : Int) else some 2) = some (pw p.Out) := by rcases ho with e | e <;> rw [e] <;> decide
 have pI := pw_le p.In
 have pO := pw_le p.Out
 obtain ⟨w, hw⟩ := ex_nat (z := pw p.In) (by omega)
 obtain ⟨n, hn⟩ := ex_nat (z := 1 + x) (by omega)
 have hx1 : IntKind.i64.wrap (1 + x) = (n : Int) := by rw [wr' (by omega) (by omega)]; exact hn
 unfold l_w9Machine
 rw [a1, Option.bind_some, q1, Option.bind_some, q2, Option.bind_some]
 dsimp only
 have hr1 : rng (n : Int) = some () := by unfold rng; rw [if_pos (by omega)]
 have hr2 : rng (w : Int) = some () := by unfold rng; rw [if_pos (by omega)]
 rw [hx1, hr1, Option.bind_some, Int.sub_zero, Int.toNat_natCast, hw]
 obtain ⟨s, k1, k2, k3, k4, k5, k6, k7⟩ := cnt_inv (f := l_w9Machine_b0 ⟨b, i, h⟩ (x, i2, h2) (w : Int) (pw p.Out)) (fun j (s : Int × Int × List (List Int) × List (List Int)) => 0 ≤ s.1 ∧ s.1 ≤ 4096 ∧ s.2.2.1.length = j ∧ s.2.2.2.length = j ∧ (∀ row ∈ s.2.2.1, RowIn n w row) ∧ ∀ row ∈ s.2.2.2, RowIn (pw p.Out) w row) n (s := (i2, h2, [], [])) ⟨a4, a5, rfl, rfl, by simp, by simp⟩ (fun j s hj ⟨c1, c2, c3, c4, c5, c6⟩ => by
  obtain ⟨t, e1, e2, e3, e4, e5, e6, e7⟩ := cnt_inv (f := l_w9Machine_b2 ⟨b, i, h⟩ (x, i2, h2) (pw p.Out)) (fun j (t : List Int × List Int × Int × Int) => 0 ≤ t.2.2.1 ∧ t.2.2.1 ≤ 4096 ∧ t.1.length = j ∧ t.2.1.length = j ∧ (∀ y ∈ t.1, 0 ≤ y ∧ y < n) ∧ ∀ y ∈ t.2.1, 0 ≤ y ∧ y < pw p.Out) w (s := ([], [], s.1, s.2.1)) ⟨c1, c2, rfl, rfl, by simp, by simp⟩ (fun j t hj ⟨f1, f2, f3, f4, f5, f6⟩ => by
   obtain ⟨y, i3, h3, g1, g2, g3, g4, g5⟩ := below_ok (d := ⟨b, t.2.2.1, t.2.2.2⟩) hb hl f1 f2 (k := (n : Int)) (by omega)
   obtain ⟨z, i4, h4, m1, m2, m3, m4, m5⟩ := below_ok (d := ⟨b, i3, h3⟩) hb hl g4 g5 (k := pw p.Out) (by omega)
   unfold l_w9Machine_b2
   dsimp only
   rw [hx1, g1, Option.bind_some, app1 (by omega) rfl, Option.bind_some, m1, Option.bind_some, app1 (by omega) rfl]
   refine ⟨_, rfl, m4, m5, by dsimp only; rw [List.length_append, f3]; rfl, by dsimp only; rw [List.length_append, f4]; rfl, fun v hv => ?_, fun v hv => ?_⟩
   · dsimp only at hv
     rw [List.mem_append, List.mem_singleton] at hv
     rcases hv with hv | rfl
     · exact f5 v hv
     · exact ⟨g2, g3⟩
   · dsimp only at hv
     rw [List.mem_append, List.mem_singleton] at hv
     rcases hv with hv | rfl
     · exact f6 v hv
     · exact ⟨m2, m3⟩)
  unfold l_w9Machine_b0
  rw [hr2, Option.bind_some, Int.sub_zero, Int.toNat_natCast, e1, Option.bind_some, aft_inr, app1 (by omega) rfl, Option.bind_some, app1 (by omega) rfl]
  refine ⟨_, rfl, e2, e3, by dsimp only; rw [List.length_append, c3]; rfl, by dsimp only; rw [List.length_append, c4]; rfl, fun v hv => ?_, fun v hv => ?_⟩
  · dsimp only at hv
    rw [List.mem_append, List.mem_singleton] at hv
    rcases hv with hv | rfl
    · exact c5 v hv
    · exact ⟨by omega, e6⟩
  · dsimp only at hv
    rw [List.mem_append, List.mem_singleton] at hv
    rcases hv with hv | rfl
    · exact c6 v hv
    · exact ⟨by omega, e7⟩)
 rw [k1]
 refine ⟨⟨s.2.2.1, s.2.2.2⟩, s.1, s.2.1, rfl, machOk_of (by dsimp only; omega) (by dsimp only; omega) (by dsimp only; omega) (by dsimp only; rw [k4, hw]; exact k6) (by dsimp only; rw [hw]; exact k7), k2, k3⟩
end
end Go.Proofs.YtcmamhmpoinmnaaGreat
set_option linter.unusedVariables false
set_option linter.unusedSimpArgs false
namespace Go.Proofs.YtcmamhmpoinmnaaGreat
open Go Go.Wk Go.Proofs
section
variable {b : List Int} (hb : ∀ x ∈ b, U8 x) (hl : b.length ≤ 4096)
include hb hl
theorem clauses_ok {i h : Int} (i0 : 0 ≤ i) (i1 : i ≤ 4096) : ∃ cs i' h', l_w9Clauses ⟨b, i, h⟩ 2 = some (cs, i', h') ∧ ∀ c ∈ cs, c.A.length ≤ 4 ∧ c.B.length ≤ 4 := by
 obtain ⟨x, i2, h2, a1, a2, a3, a4, a5⟩ := below_ok (d := ⟨b, i, h⟩) hb hl i0 i1 (k := 3) (by omega)
 obtain ⟨o, w1, w2⟩ := while_out (f := l_w9Clauses_b0 ⟨b, i, h⟩) (fun j (s : List Clause × Int × Int × Int) => s.2.1 = x - (j : Int) ∧ (j : Int) ≤ x ∧ 0 ≤ s.2.2.1 ∧ s.2.2.1 ≤ 4096 ∧ s.1.length = j ∧ ∀ c ∈ s.1, c.A.length ≤ 4 ∧ c.B.length ≤ 4) (fun _ => False) (fun s => ∀ c ∈ s.1, c.A.length ≤ 4 ∧ c.B.length ≤ 4) 3 (fun j s ⟨b1, b2, b3, b4, b5, b6⟩ => by
  obtain ⟨cs, k, i', h'⟩ := s
  dsimp only at b1 b3 b4 b5 b6
  unfold l_w9Clauses_b0
  dsimp only
  by_cases hlt : 0 < k
  · obtain ⟨y, i3, h3, c1, c2, c3, c4, c5⟩ := below_ok (d := ⟨b, i', h'⟩) hb hl b3 b4 (k := 7) (by omega)
    obtain ⟨t, d1, d2, d3, d4, d5⟩ := cnt_inv (f := l_w9Clauses_b2 ⟨b, i, h⟩ (y, i3, h3)) (fun q (t : Int × Int × List Int × List Int) => 0 ≤ t.1 ∧ t.1 ≤ 4096 ∧ t.2.2.1.length ≤ q ∧ t.2.2.2.length ≤ q) 4 (s := (i3, h3, [], [])) ⟨c4, c5, Nat.le_refl _, Nat.le_refl _⟩ (fun q t hq ⟨e1, e2, e3, e4⟩ => by
     obtain ⟨ti, th, A, B⟩ := t
     dsimp only at e1 e2 e3 e4
     obtain ⟨u, i4, h4, f1, f2, f3, f4, f5⟩ := below_ok (d := ⟨b, ti, th⟩) hb hl e1 e2 (k := 2) (by omega)
     obtain ⟨v, i5, h5, g1, g2, g3, g4, g5⟩ := below_ok (d := ⟨b, i4, h4⟩) hb hl f4 f5 (k := 2) (by omega)
     unfold l_w9Clauses_b2
     dsimp only
     rw [f1, Option.bind_some]
     obtain ⟨A', hA, hA'⟩ : ∃ A', (bif (u == 0) then Option.bind (appS 8 A [(q : Int)]) fun x33 => some x33 else some A) = some A' ∧ A'.length ≤ q + 1 := by
      cases u == 0 with
      | true => exact ⟨A ++ [(q : Int)], by rw [cond_true, app1 (by omega) rfl]; rfl, by simp; omega⟩
      | false => exact ⟨A, rfl, by omega⟩
     rw [hA, Option.bind_some, g1, Option.bind_some]
     have hP : ∃ pb, (bif (v == 0) then Option.bind (bif (IntKind.i64.wrap (1 + y) == 2) then some true else some (IntKind.i64.wrap (1 + y) == 3)) fun p46 => Option.bind (bif p46 then some true else some (IntKind.i64.wrap (1 + y) == 7)) fun p51 => some p51 else some false) = some pb := by
      cases v == 0 with
      | false => exact ⟨_, rfl⟩
      | true =>
       cases IntKind.i64.wrap (1 + y) == 2 <;> cases IntKind.i64.wrap (1 + y) == 3 <;> exact ⟨_, rfl⟩
     obtain ⟨pb, hpb⟩ := hP
     rw [hpb, Option.bind_some]
     obtain ⟨B', hB, hB'⟩ : ∃ B', (bif pb then Option.bind (appS 8 B [(q : Int)]) fun x57 => some x57 else some B) = some B' ∧ B'.length ≤ q + 1 := by
      cases pb with
      | true => exact ⟨B ++ [(q : Int)], by rw [cond_true, app1 (by omega) rfl]; rfl, by simp; omega⟩
      | false => exact ⟨B, rfl, by omega⟩
     rw [hB, Option.bind_some]
     exact ⟨_, rfl, g4, g5, hA', hB'⟩)
    rw [decide_eq_true hlt, cond_true, c1, Option.bind_some]
    have e4 : Int.toNat (4 - 0) = 4 := rfl
    rw [e4, d1, Option.bind_some, aft_inr, app1 (by omega) rfl, Option.bind_some]
    refine ⟨_, rfl, by omega, by dsimp only; rw [wr' (by omega) (by omega)]; omega, by omega, d2, d3, by dsimp only; simp [b5], fun c hc => ?_⟩
    rcases List.mem_append.1 hc with hc | hc
    · exact b6 c hc
    · rw [List.mem_singleton.1 hc]
      exact ⟨d4, d5⟩
  · rw [decide_eq_false hlt, cond_false]
    exact ⟨_, rfl, b6⟩) (2 ^ 64) 0 ([], x, i2, h2) (by omega) ⟨by dsimp only; omega, by omega, a4, a5, rfl, by simp⟩ (by omega)
 unfold l_w9Clauses
 rw [wr' (by omega) (by omega), show (2 : Int) + 1 = 3 from rfl, a1, Option.bind_some]
 dsimp only
 match o, w2 with
 | .inr s, w2 =>
  rw [w1, Option.bind_some, aft_inr]
  exact ⟨_, _, _, rfl, w2⟩
end
end Go.Proofs.YtcmamhmpoinmnaaGreat
set_option linter.unusedVariables false
set_option linter.unusedSimpArgs false
namespace Go.Proofs.YtcmamhmpoinmnaaGreat
open Go Go.Wk Go.Proofs
theorem ins_back {ρ : Type} {f : Int → List Int → Option (ρ ⊕ (List Int ⊕ List Int))} {p : Sig} (hs : sigOk p = true) {xs : List Int} (hl : xs.length ≤ 300) (hx : ∀ x ∈ xs, 0 ≤ x ∧ x < ltr p) (hf : ∀ (j : Nat) (s : List Int), f (j : Int) s = Option.bind (idx xs (j : Int)) fun x => Option.bind (s_InOf p x) fun y => Option.bind (appS 8 s [y]) fun z => some (.inr (.inr z))) :
 cntM f xs.length 0 [] = some (.inr (xs.map fun x => x % pw p.In)) := by
 obtain ⟨s, h1, h2⟩ := cnt_inv (f := f) (fun j (s : List Int) => s = (xs.take j).map fun x => x % pw p.In) xs.length (s := []) rfl (fun j s hj hs' => by
  subst hs'
  have he : xs[j]? = some xs[j] := List.getElem?_eq_getElem hj
  generalize xs[j] = x at he
  obtain ⟨x0, x1⟩ := hx x (List.mem_of_getElem? he)
  rw [hf, idx_nat, he, Option.bind_some, s_in hs x0 x1, Option.bind_some, app1 (by rw [List.length_map, List.length_take]; omega) rfl, Option.bind_some]
  exact ⟨_, rfl, by rw [List.take_add_one, he, List.map_append]; rfl⟩)
 rw [h1, h2, List.take_length]
theorem FnBreaks_law {p0 : List Int} (ok0 : okS U8 p0) : l_FnBreaks p0 = some true := by
 unfold l_FnBreaks l_big
 rw [Option.bind_some]
 by_cases hbig : 4096 < (p0.length : Int)
 · rw [decide_eq_true hbig, cond_true]
 · rw [decide_eq_false hbig, cond_false]
   have hb := ok0.1
   have hl : p0.length ≤ 4096 := by omega
   have hs : sigOk ⟨1, 1⟩ = true := by decide
   obtain ⟨h, hr⟩ := roll_ok p0 931
   rw [hr, Option.bind_some]
   obtain ⟨m, i1, h1, a1, a2, a3, a4⟩ := mach_okN hb hl (most := 4) (by omega) (by omega) hs (i := 0) (h := h) (by omega) (by omega)
   rw [a1, Option.bind_some]
   dsimp only
   obtain ⟨cs, i2, h2, b1, b2⟩ := clauses_ok hb hl (h := h1) a3 a4
   rw [b1, Option.bind_some]
   dsimp only
   have hbd : ∀ c ∈ cs, Clause.bd c := fun c hc => by
    obtain ⟨q1, q2⟩ := b2 c hc
    unfold Clause.bd
    exact ⟨trivial, ⟨by omega, fun _ _ => trivial⟩, ⟨by omega, fun _ _ => trivial⟩⟩
   rcases BreakOf_way ⟨1, 1⟩ m hbd with ⟨c1, _, c3⟩ | ⟨n, k, D, K, w, hA, i, l, pr, s, R, Q, c1, c2, c3, c4, c5, c6, c7, c8, _, c9⟩
   · rw [c3, c1]; rfl
   · have hA' := hA
     obtain ⟨c, e1, e2, e3⟩ := break_no hA c2 c3 c4 c5 c7
     rw [c9, Option.bind_some, c1, Option.bind_some]
     dsimp only
     have hnl : (((((i : Int) :: l) : List Int).length : Int) == 0) = false := by
      rw [beq_eq_false_iff_ne]
      simp only [List.length_cons]
      omega
     have h0 : (0 : Int) < K.length := by
      have := (List.getElem?_eq_some_iff.1 hA.wk.prod.zero).1
      omega
     obtain ⟨f1, f2, f3⟩ := wk_letters hA.wk hA.hm hA.kn hA.ln (Int.le_refl _) h0 c5
     obtain ⟨g1, g2, g3⟩ := wk_letters hA.wk hA.hm hA.kn hA.ln c4.1 c4.2 c7.2.1
     have hK0 : K[(0 : Int).toNat]? = some (0, 0) := hA.wk.prod.zero
     obtain ⟨t1, z, t2, t3⟩ := wk_word hA.wk hA.hs hA.hm hA.kn c5 (by omega) hK0
     obtain ⟨u1, z', u2, u3⟩ := wk_word hA.wk hA.hs hA.hm hA.kn c7.2.1 (by omega) t2
     have hzz : z' = z := by
      rw [t2] at u2
      exact (Option.some.inj u2).symm
     subst hzz
     have lA := letP_len w.next w.letters R 0
     have lB := letP_len w.next w.letters Q s
     have hQ0 : 0 < Q.length := List.length_pos_iff.2 c7.1
     have hln : ltr (⟨1, 1⟩ : Sig) = (n : Int) := hA.ln
     have hn4 : ltr (⟨1, 1⟩ : Sig) = 4 := by decide
     generalize hWA : letP w.next w.letters 0 R = A at *
     generalize hWB : letP w.next w.letters s Q = B at *
     have hwo : wordOk ⟨A, B⟩ (ltr ⟨1, 1⟩) = true := by
      unfold wordOk
      simp only [Bool.and_eq_true, decide_eq_true_eq]
      exact ⟨⟨⟨⟨by omega, by omega⟩, by omega⟩, all_inR fun x hx => by have := f1 x hx; omega⟩, all_inR fun x hx => by have := g1 x hx; omega⟩
     have hwo16 : wordOk ⟨A, B⟩ 16 = true := by
      unfold wordOk
      simp only [Bool.and_eq_true, decide_eq_true_eq]
      exact ⟨⟨⟨⟨by omega, by omega⟩, by omega⟩, all_inR fun x hx => by have := f1 x hx; omega⟩, all_inR fun x hx => by have := g1 x hx; omega⟩
     have hW : s_WordOk ⟨1, 1⟩ ⟨A, B⟩ = some true := by
      unfold s_WordOk
      rw [s_SigOk_eq, hs, s_LettersOf_eq hs]
      simp only [Option.bind_some, cond_true]
      rw [s_l23Word_eq _ (by omega) (by omega), hwo]; rfl
     have hci : idx cs (i : Int) = some c := by rw [idx_nat]; exact e1
     have hH := s_holds_no hs (hbd c (List.mem_of_getElem? e1)) e2 hwo e3
     have hS := ins_back (f := l_FnBreaks_b0 (⟨A, B⟩, true)) hs (xs := A) (by omega) (fun x hx => by have := f1 x hx; omega) (fun j s => rfl)
     have hT := ins_back (f := l_FnBreaks_b2 (⟨A, B⟩, true)) hs (xs := B) (by omega) (fun x hx => by have := g1 x hx; omega) (fun j s => rfl)
     rw [f2] at hS
     rw [g2] at hT
     have hrun := s_run hs hA.hm (R := R) (Q := Q) (A := A) (B := B) (q := z'.1) c6 c8 c7.1 f3 g3 t3 u3 t1 u1 (by omega) (by omega)
     simp only [Bool.not_true, cond_false, hnl, hW, Option.bind_some]
     rw [show idx ((i : Int) :: l) 0 = some (i : Int) from rfl, Option.bind_some, hci, Option.bind_some, hH, Option.bind_some, Option.bind_some, cond_false, hS, Option.bind_some, aft_inr, hT, Option.bind_some, aft_inr, hrun, Option.bind_some, s_same_refl hwo16]
     rfl
end Go.Proofs.YtcmamhmpoinmnaaGreat
