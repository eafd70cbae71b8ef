/- Drawn arenas: a draw comes to an end, and what is drawn is small. -/
import Derived.Test.YtcmamhmpoinmnaaL1FF
set_option linter.unusedVariables false
set_option linter.unusedSimpArgs false
namespace Go.Proofs.Ytcmamhmpoinmnaa
open Go Go.Wk Go.Proofs
theorem into_d {xs : List Int} (hx : xs.length ≤ 1000) (v : Int) : ∃ ys, s_l1Into xs v = some ys ∧ ys.length ≤ xs.length + 1 := by
 unfold s_l1Into
 obtain ⟨o, w1, w2⟩ := while_out (f := s_l1Into_b0 xs v) (fun j (s : Int) => s = (j : Int) ∧ j ≤ xs.length) (fun _ => False) (fun s => ∃ j : Nat, s = (j : Int) ∧ j ≤ xs.length) xs.length (fun j s ⟨hs, hj⟩ => by
  subst hs
  unfold s_l1Into_b0
  by_cases hlt : (j : Int) < (xs.length : Int)
  · obtain ⟨y, hy⟩ : ∃ y, xs[j]? = some y := ⟨_, List.getElem?_eq_getElem (by omega)⟩
    simp only [hlt, decide_true, cond_true, idx_nat, hy, Option.bind_some]
    cases decide (y < v) with
    | true =>
     refine ⟨_, rfl, by omega, ?_, by omega⟩
     rw [wr' (by omega) (by omega)]; omega
    | false => exact ⟨_, rfl, j, rfl, hj⟩
  · simp only [hlt, decide_false, cond_false, Option.bind_some]
    exact ⟨_, rfl, j, rfl, hj⟩) (2 ^ 64) 0 0 (by omega) ⟨rfl, by omega⟩ (by omega)
 match o, w2 with
 | .inr s, ⟨j, hs, hj⟩ =>
  subst hs
  rw [w1, Option.bind_some, aft_inr]
  have h1 : ∃ c, (bif decide ((j : Int) < (xs.length : Int)) then Option.bind (idx xs (j : Int)) fun x28 => some (x28 == v) else some false) = some c := by
   by_cases hlt : (j : Int) < (xs.length : Int)
   · obtain ⟨y, hy⟩ : ∃ y, xs[j]? = some y := ⟨_, List.getElem?_eq_getElem (by omega)⟩
     simp only [hlt, decide_true, cond_true, idx_nat, hy, Option.bind_some]
     exact ⟨_, rfl⟩
   · simp only [hlt, decide_false, cond_false]
     exact ⟨_, rfl⟩
  obtain ⟨c, hc⟩ := h1
  rw [hc, Option.bind_some]
  cases c with
  | true => exact ⟨xs, rfl, by omega⟩
  | false =>
   have s1 : subS xs 0 (j : Int) = some (xs.take j) := by
    unfold subS
    rw [if_pos ⟨by omega, by omega, by omega⟩]
    simp
   have s2 : subS xs (j : Int) (xs.length : Int) = some (xs.drop j) := by
    unfold subS
    rw [if_pos ⟨by omega, by omega, by omega⟩]
    simp
   have l1 : (xs.take j).length ≤ 1000 := by rw [List.length_take]; omega
   have l2 : (xs.drop j).length ≤ 1000 := by rw [List.length_drop]; omega
   have c1 : s_l1Copy (xs.take j) = some (xs.take j) := by
    unfold s_l1Copy
    rw [appL (by simp only [List.length_nil]; omega) rfl]; rfl
   simp only [cond_false, s1, c1, s2, Option.bind_some]
   rw [app1 (by omega) rfl, Option.bind_some, appL (by simp only [List.length_append, List.length_cons, List.length_nil]; omega) rfl]
   refine ⟨_, rfl, ?_⟩
   simp only [List.length_append, List.length_take, List.length_drop, List.length_cons, List.length_nil]
   omega
theorem into_o {xs : List Int} (hx : xs.length ≤ 1000) (v : Int) : ∃ ys, s_l1Into__own0 xs v = some ys ∧ ys.length ≤ xs.length + 1 := into_d hx v
def ArB (a : Arena) : Prop := a.Owner.length ≤ 300 ∧ a.Next.length ≤ 300 ∧ ∀ r ∈ a.Next, r.length ≤ 20
def ArOk (a : Arena) : Prop := 1 ≤ a.Owner.length ∧ a.Owner.length ≤ 8 ∧ a.Next.length = a.Owner.length ∧ ∀ r ∈ a.Next, r.length ≤ 10
section
variable {b : List Int} (hl : b.length ≤ 4096)
include hl
theorem from_d {i h : Int} (hi : Cur i) (k m : Int) : ∃ x i' h', s_l1From ⟨b, i, h⟩ k m = some (x, i', h') ∧ Cur i' := by
 obtain ⟨x, i', h', e, _, _, c⟩ := below_d hl (h := h) hi (IntKind.i64.wrap (IntKind.i64.wrap (m - k) + 1))
 unfold s_l1From
 rw [e]
 exact ⟨_, _, _, rfl, c⟩
theorem draw1_d {i h : Int} (hi : Cur i) : ∃ a i' h', s_l1Draw ⟨b, i, h⟩ = some (a, i', h') ∧ Cur i' ∧ ArOk a := by
 obtain ⟨x1, i1, h1, e1, a0, a1, c1⟩ := below_d hl (h := h) hi 8
 have a1 := a1 (by omega)
 unfold s_l1Draw
 rw [e1, Option.bind_some]
 dsimp only
 obtain ⟨n, hn⟩ : ∃ n : Nat, 1 + x1 = (n : Int) := ex_nat (by omega)
 have hr : rng (n : Int) = some () := by unfold rng; rw [if_pos (by omega)]
 rw [wr' (z := 1 + x1) (by omega) (by omega), hn, hr, Option.bind_some, Int.sub_zero, Int.toNat_natCast]
 obtain ⟨s, k1, k2, k3, k4, k5⟩ := cnt_inv (f := s_l1Draw_b0 ⟨b, i, h⟩ (x1, i1, h1)) (fun j (s : Int × Int × List Int × List (List Int)) => Cur s.1 ∧ s.2.2.1.length = j ∧ s.2.2.2.length = j ∧ ∀ r ∈ s.2.2.2, r.length ≤ 10) n (s := (i1, h1, [], [])) ⟨c1, rfl, rfl, by simp⟩ (fun j s hj ⟨g1, g2, g3, g4⟩ => by
  obtain ⟨x2, i2, h2, e2, b0, b1, c2⟩ := below_d hl (h := s.2.1) g1 3
  have b1 := b1 (by omega)
  unfold s_l1Draw_b0
  rw [e2, Option.bind_some]
  dsimp only
  rw [wr' (z := 1 + x2) (by omega) (by omega)]
  obtain ⟨o, u1, u2⟩ := while_out (f := s_l1Draw_b2 ⟨b, i, h⟩ (x1, i1, h1)) (fun j (t : List Int × Int × Int × Int) => t.2.1 = 1 + x2 - (j : Int) ∧ 0 ≤ t.2.1 ∧ Cur t.2.2.1 ∧ t.1.length ≤ j) (fun _ => False) (fun t => Cur t.2.2.1 ∧ t.1.length ≤ 10) 3 (fun j t ⟨m1, m2, m3, m4⟩ => by
   unfold s_l1Draw_b2
   by_cases hlt : 0 < t.2.1
   · obtain ⟨x3, i3, h3, e3, _, _, c3⟩ := below_d hl (h := t.2.2.2) m3 (IntKind.i64.wrap (1 + x1))
     obtain ⟨ys, f1, f2⟩ := into_o (xs := t.1) (by omega) x3
     simp only [hlt, decide_true, cond_true, e3, f1, Option.bind_some]
     refine ⟨_, rfl, by omega, ?_, ?_, c3, by dsimp only; omega⟩
     · dsimp only; rw [wr' (by omega) (by omega)]; omega
     · dsimp only; rw [wr' (by omega) (by omega)]; omega
   · simp only [hlt, decide_false, cond_false]
     exact ⟨_, rfl, m3, by dsimp only; omega⟩) (2 ^ 64) 0 ([], 1 + x2, i2, h2) (by omega) ⟨by simp, by dsimp only; omega, c2, by simp⟩ (by omega)
  match o, u2 with
  | .inr t, ⟨t1, t2⟩ =>
   rw [u1]
   simp only [Option.bind_some, aft_inr]
   obtain ⟨x4, i4, h4, e4, _, _, c4⟩ := below_d hl (h := t.2.2.2) t1 2
   rw [e4, Option.bind_some, app1 (by omega) rfl, Option.bind_some, app1 (by omega) rfl]
   refine ⟨_, rfl, c4, by dsimp only; rw [List.length_append, g2]; rfl, by dsimp only; rw [List.length_append, g3]; rfl, fun r hr => ?_⟩
   rcases List.mem_append.1 hr with hr | hr
   · exact g4 r hr
   · rw [List.mem_singleton.1 hr]; exact t2)
 rw [k1]
 exact ⟨_, _, _, rfl, k2, by dsimp only; omega, by dsimp only; omega, by dsimp only; omega, k5⟩
theorem drawAny1_b {i h : Int} (hi : Cur i) : ∃ a i' h', s_l1DrawAny ⟨b, i, h⟩ = some (a, i', h') ∧ Cur i' ∧ ArB a := by
 obtain ⟨a, i1, h1, e1, c1, a1, a2, a3, a4⟩ := draw1_d hl (h := h) hi
 obtain ⟨q, i2, h2, e2, c2⟩ := once_d hl (h := h1) c1 6
 unfold s_l1DrawAny
 simp only [e1, e2, Option.bind_some]
 cases q with
 | false => exact ⟨_, _, _, rfl, c2, by dsimp only; omega, by dsimp only; omega, fun r hr => by have := a4 r hr; omega⟩
 | true =>
  obtain ⟨v, i3, h3, e3, v0, v1, c3⟩ := below_d hl (h := h2) c2 (a.Owner.length : Int)
  have v1 := v1 (by omega)
  obtain ⟨k, i4, h4, e4, _, _, c4⟩ := below_d hl (h := h3) c3 6
  obtain ⟨vn, rfl⟩ := ex_nat v0
  have hvo : vn < a.Owner.length := by omega
  have hvn : vn < a.Next.length := by omega
  obtain ⟨o, ho⟩ : ∃ y, a.Owner[vn]? = some y := ⟨_, List.getElem?_eq_getElem hvo⟩
  obtain ⟨r, hr⟩ : ∃ y, a.Next[vn]? = some y := ⟨_, List.getElem?_eq_getElem hvn⟩
  have hrl := a4 r (List.mem_of_getElem? hr)
  simp only [cond_true, e3, e4, Option.bind_some, idx_nat, ho, hr]
  obtain ⟨x5, i5, h5, e5, c5⟩ := from_d hl (h := h4) c4 (-1) 2
  obtain ⟨x6, i6, h6, e6, c6⟩ := num_d hl (h := h4) c4 256
  have hw : ∃ s : Int × Int × Int × List Int × List (List Int), whileM (s_l1DrawAny_b1 ⟨b, i, h⟩) (2 ^ 64) (0, i4, h4, [], []) = some (.inr s) ∧ Cur s.2.1 ∧ s.2.2.2.1.length ≤ 300 ∧ s.2.2.2.2.length ≤ 300 ∧ ∀ r ∈ s.2.2.2.2, r.length ≤ 20 := by
   obtain ⟨o, u1, u2⟩ := while_out (f := s_l1DrawAny_b1 ⟨b, i, h⟩) (fun j (s : Int × Int × Int × List Int × List (List Int)) => s.1 = (j : Int) ∧ j ≤ 300 ∧ Cur s.2.1 ∧ s.2.2.2.1.length = j ∧ s.2.2.2.2.length = j ∧ ∀ r ∈ s.2.2.2.2, r.length ≤ 20) (fun _ => False) (fun s => Cur s.2.1 ∧ s.2.2.2.1.length ≤ 300 ∧ s.2.2.2.2.length ≤ 300 ∧ ∀ r ∈ s.2.2.2.2, r.length ≤ 20) 300 (fun j s ⟨m1, m0, m2, m3, m4, m5⟩ => by
    obtain ⟨x7, i7, h7, e7, y0, y1, c7⟩ := below_d hl (h := s.2.2.1) m2 2
    have y1 := y1 (by omega)
    unfold s_l1DrawAny_b1
    simp only [e7, Option.bind_some]
    rw [wr' (z := 256 + x7) (by omega) (by omega)]
    by_cases hlt : s.1 < 256 + x7
    · simp only [hlt, decide_true, cond_true]
      rw [app1 (by omega) rfl, Option.bind_some, app1 (by omega) rfl]
      refine ⟨_, rfl, by omega, ?_, by omega, c7, by dsimp only; rw [List.length_append, m3]; rfl, by dsimp only; rw [List.length_append, m4]; rfl, fun r hr => by
       rcases List.mem_append.1 hr with hr | hr
       · exact m5 r hr
       · rw [List.mem_singleton.1 hr]; simp⟩
      dsimp only; rw [wr' (by omega) (by omega)]; omega
    · simp only [hlt, decide_false, cond_false]
      exact ⟨_, rfl, c7, by dsimp only; omega, by dsimp only; omega, m5⟩) (2 ^ 64) 0 (0, i4, h4, [], []) (by omega) ⟨by simp, by omega, c4, rfl, rfl, by simp⟩ (by omega)
   match o, u2 with
   | .inr s, u2 => exact ⟨s, u1, u2⟩
  obtain ⟨s, u1, u2⟩ := hw
  have t1 : ∀ y : Int, setI a.Owner (vn : Int) y = some (a.Owner.set vn y) := fun y => setI_nat hvo
  have t2 : ∀ y : List Int, setI a.Next (vn : Int) y = some (a.Next.set vn y) := fun y => setI_nat hvn
  have t3 : appS 8 r [x6] = some (r ++ [x6]) := app1 (by omega) rfl
  have t4 : appS 8 a.Owner [0] = some (a.Owner ++ [0]) := app1 (by omega) rfl
  have t5 : mkS 8 17 (0 : Int) = some (List.replicate 17 0) := mkS_nat (m := 17) (by omega) rfl
  have q1 : ∀ y : List Int, y.length ≤ 20 → ∀ r ∈ a.Next.set vn y, r.length ≤ 20 := fun y hy r hr => by
   rcases List.mem_or_eq_of_mem_set hr with h | h
   · have := a4 r h; omega
   · rw [h]; exact hy
  have q2 : ∀ r ∈ a.Next, r.length ≤ 20 := fun r hr => by have := a4 r hr; omega
  cases k == 0 with
  | true => simp only [cond_true, e5, t1, Option.bind_some]; exact ⟨_, _, _, rfl, c5, by simp; omega, by dsimp only; omega, q2⟩
  | false =>
   cases k == 1 with
   | true => simp only [cond_true, cond_false, e6, t2, t3, Option.bind_some]; exact ⟨_, _, _, rfl, c6, by dsimp only; omega, by simp; omega, q1 _ (by simp; omega)⟩
   | false =>
    cases k == 2 with
    | true => simp only [cond_true, cond_false, t2, Option.bind_some]; exact ⟨_, _, _, rfl, c4, by dsimp only; omega, by simp; omega, q1 _ (by simp)⟩
    | false =>
     cases k == 3 with
     | true => simp only [cond_true, cond_false, t4, Option.bind_some]; exact ⟨_, _, _, rfl, c4, by simp; omega, by dsimp only; omega, q2⟩
     | false =>
      cases k == 4 with
      | true => simp only [cond_true, cond_false, u1, aft_inr, Option.bind_some]; exact ⟨_, _, _, rfl, u2.1, u2.2.1, u2.2.2.1, u2.2.2.2⟩
      | false =>
       cases k == 5 with
       | true => simp only [cond_true, cond_false, t5, t2, Option.bind_some]; exact ⟨_, _, _, rfl, c4, by dsimp only; omega, by simp; omega, q1 _ (by simp)⟩
       | false => simp only [cond_false, Option.bind_some]; exact ⟨_, _, _, rfl, c4, by dsimp only; omega, by dsimp only; omega, q2⟩
end
theorem new_d {b : List Int} : ∃ h, s_l1New b = some ⟨b, 0, h⟩ := by
 obtain ⟨s, h1, _⟩ := cnt_inv (f := s_l1New_b0 b) (fun _ _ => True) b.length (s := IntKind.i64.wrap (560017 + (b.length : Int))) trivial (fun j s hj _ => by
  have hx : b[j]? = some b[j] := List.getElem?_eq_getElem hj
  unfold s_l1New_b0
  rw [idx_nat, hx, Option.bind_some]
  exact ⟨_, rfl, trivial⟩)
 unfold s_l1New
 rw [h1]
 exact ⟨s, rfl⟩
end Go.Proofs.Ytcmamhmpoinmnaa
set_option linter.unusedVariables false
set_option linter.unusedSimpArgs false
namespace Go.Proofs.Ytcmamhmpoinmnaa
open Go Go.Wk Go.Proofs
open Classical
theorem AllOf_eq {n : Nat} (hn : n ≤ 1000) : ∃ A, s_AllOf (n : Int) = some A ∧ A.length ≤ 300 ∧ (n ≤ 256 → A = (List.range n).map Int.ofNat) := by
 unfold s_AllOf
 by_cases h : n ≤ 256
 · obtain ⟨o, w1, w2⟩ := while_out (f := s_AllOf_b0 (n : Int)) (fun j (s : List Int × Int) => j ≤ n ∧ s.2 = (j : Int) ∧ s.1 = (List.range j).map Int.ofNat) (fun _ => False) (fun s => s.1 = (List.range n).map Int.ofNat) n (fun j s ⟨a1, a2, a3⟩ => by
    obtain ⟨xs, i⟩ := s
    dsimp only at a2 a3
    subst a2
    unfold s_AllOf_b0
    dsimp only
    by_cases hlt : j < n
    · rw [decide_eq_true (show (j : Int) < (n : Int) by omega), cond_true, Option.bind_some, decide_eq_true (show (n : Int) ≤ 256 by omega), cond_true, app1 (by rw [a3]; simp; omega) rfl, Option.bind_some]
      refine ⟨_, rfl, hlt, by omega, ?_, ?_⟩
      · dsimp only; rw [wr' (by omega) (by omega)]; omega
      · dsimp only; rw [a3, List.range_succ, List.map_append]; rfl
    · have : j = n := by omega
      subst this
      rw [decide_eq_false (Int.lt_irrefl _), cond_false, Option.bind_some, cond_false]
      exact ⟨_, rfl, a3⟩) (2 ^ 64) 0 ([], 0) (by omega) ⟨by omega, rfl, rfl⟩ (by omega)
   match o, w2 with
   | .inr s, w2 =>
    rw [w1]
    refine ⟨s.1, rfl, ?_, fun _ => w2⟩
    have w2 : s.1 = (List.range n).map Int.ofNat := w2
    rw [w2]; simp; omega
 · have hd : s_AllOf_b0 (n : Int) ([], 0) = some (.inr (.inl ([], 0))) := by
    unfold s_AllOf_b0
    dsimp only
    rw [decide_eq_true (show (0 : Int) < (n : Int) by omega), cond_true, Option.bind_some, decide_eq_false (by omega), cond_false]
   have : whileM (s_AllOf_b0 (n : Int)) (2 ^ 64) ([], 0) = some (.inr ([], 0)) := by
    show Option.bind (s_AllOf_b0 (n : Int) ([], 0)) _ = _
    rw [hd]; rfl
   rw [this]
   exact ⟨[], rfl, by simp, fun h' => absurd h' h⟩
section
variable {b : List Int} (hl : b.length ≤ 4096)
include hl
theorem set24_d {i h : Int} (hi : Cur i) {n : Nat} (hn : n ≤ 300) : ∃ s i' h', s_l24DrawSet ⟨b, i, h⟩ (n : Int) = some (s, i', h') ∧ Cur i' ∧ s.length ≤ 300 := by
 have hr : rng (n : Int) = some () := by unfold rng; rw [if_pos (by omega)]
 unfold s_l24DrawSet
 rw [hr, Option.bind_some, Int.sub_zero, Int.toNat_natCast]
 obtain ⟨s, k1, k2, k3⟩ := cnt_inv (f := s_l24DrawSet_b0 ⟨b, i, h⟩) (fun j (s : List Int × Int × Int) => Cur s.2.1 ∧ s.1.length ≤ j) n (s := ([], i, h)) ⟨hi, by simp⟩ (fun j s hj ⟨g1, g2⟩ => by
  obtain ⟨q, i2, h2, e2, c2⟩ := once_d hl (h := s.2.2) g1 2
  unfold s_l24DrawSet_b0
  rw [e2, Option.bind_some]
  cases q with
  | true =>
   simp only [cond_true]
   rw [app1 (by omega) rfl]
   exact ⟨_, rfl, c2, by simp; omega⟩
  | false => exact ⟨_, rfl, c2, by dsimp only; omega⟩)
 rw [k1]
 exact ⟨s.1, s.2.1, s.2.2, rfl, k2, by omega⟩
theorem set1_d {i h : Int} (hi : Cur i) {n : Nat} (hn : n ≤ 300) : ∃ s i' h', s_l1DrawSet ⟨b, i, h⟩ (n : Int) = some (s, i', h') ∧ Cur i' ∧ s.length ≤ 301 := by
 have hr : rng (n : Int) = some () := by unfold rng; rw [if_pos (by omega)]
 unfold s_l1DrawSet
 rw [hr, Option.bind_some, Int.sub_zero, Int.toNat_natCast]
 obtain ⟨s, k1, k2, k3⟩ := cnt_inv (f := s_l1DrawSet_b0 ⟨b, i, h⟩) (fun j (s : List Int × Int × Int) => Cur s.2.1 ∧ s.1.length ≤ j) n (s := ([], i, h)) ⟨hi, by simp⟩ (fun j s hj ⟨g1, g2⟩ => by
  obtain ⟨q, i2, h2, e2, c2⟩ := once_d hl (h := s.2.2) g1 2
  unfold s_l1DrawSet_b0
  rw [e2, Option.bind_some]
  cases q with
  | true =>
   simp only [cond_true]
   rw [app1 (by omega) rfl]
   exact ⟨_, rfl, c2, by simp; omega⟩
  | false => exact ⟨_, rfl, c2, by dsimp only; omega⟩)
 rw [k1, Option.bind_some, aft_inr]
 obtain ⟨q, i2, h2, e2, c2⟩ := once_d hl (h := s.2.2) k2 12
 obtain ⟨x, i3, h3, e3, c3⟩ := num_d hl (h := h2) c2 (n : Int)
 rw [e2, Option.bind_some]
 cases q with
 | true =>
  simp only [cond_true, e3, Option.bind_some]
  rw [app1 (by omega) rfl]
  exact ⟨_, _, _, rfl, c3, by simp; omega⟩
 | false => exact ⟨_, _, _, rfl, c2, by dsimp only; omega⟩
theorem drawFair : ∃ N pairs S, s_DrawFairIn b = some (N, pairs, S) ∧ N.length ≤ 300 ∧ (∀ r ∈ N, r.length ≤ 20) ∧ (∀ p ∈ pairs, p.Ask.length ≤ 300 ∧ p.Give.length ≤ 300) ∧ S.length ≤ 301 := by
 obtain ⟨h0, e0⟩ := new_d (b := b)
 obtain ⟨a, i1, h1, e1, c1, a1, a2, a3⟩ := drawAny1_b hl (h := h0) (show Cur 0 from ⟨by omega, by omega⟩)
 obtain ⟨x, i2, h2, e2, x0, x1, c2⟩ := below_d hl (h := h1) c1 3
 have x1 := x1 (by omega)
 unfold s_DrawFairIn
 rw [e0, Option.bind_some, e1, Option.bind_some, e2, Option.bind_some]
 obtain ⟨o, w1, w2⟩ := while_out (f := s_DrawFairIn_b0 ⟨b, 0, h0⟩ (a, i1, h1)) (fun j (s : List Pair × Int × Int × Int) => s.2.1 = x - (j : Int) ∧ 0 ≤ s.2.1 ∧ Cur s.2.2.1 ∧ s.1.length ≤ j ∧ ∀ p ∈ s.1, p.Ask.length ≤ 300 ∧ p.Give.length ≤ 300) (fun _ => False) (fun s => Cur s.2.2.1 ∧ ∀ p ∈ s.1, p.Ask.length ≤ 300 ∧ p.Give.length ≤ 300) 3 (fun j s ⟨g1, g2, g3, g4, g5⟩ => by
  unfold s_DrawFairIn_b0
  by_cases hlt : 0 < s.2.1
  · obtain ⟨s1, i3, h3, e3, c3, l3⟩ := set24_d hl (h := s.2.2.2) g3 (n := a.Owner.length) a1
    obtain ⟨s2, i4, h4, e4, c4, l4⟩ := set24_d hl (h := h3) c3 (n := a.Owner.length) a1
    simp only [hlt, decide_true, cond_true, e3, e4, Option.bind_some]
    rw [app1 (by omega) rfl, Option.bind_some]
    refine ⟨_, rfl, by omega, ?_, ?_, c4, by simp; omega, fun p hp => ?_⟩
    · dsimp only; rw [wr' (by omega) (by omega)]; omega
    · dsimp only; rw [wr' (by omega) (by omega)]; omega
    · rcases List.mem_append.1 hp with hp | hp
      · exact g5 p hp
      · rw [List.mem_singleton.1 hp]; exact ⟨l3, l4⟩
  · simp only [hlt, decide_false, cond_false]
    exact ⟨_, rfl, g3, g5⟩) (2 ^ 64) 0 ([], x, i2, h2) (by omega) ⟨by simp, x0, c2, by simp, by simp⟩ (by omega)
 match o, w2 with
 | .inr s, ⟨t1, t2⟩ =>
  rw [w1, Option.bind_some, aft_inr]
  obtain ⟨q, i5, h5, e5, c5⟩ := once_d hl (h := s.2.2.2) t1 2
  obtain ⟨A, A1, A2, _⟩ := AllOf_eq (n := a.Owner.length) (by omega)
  obtain ⟨S, i6, h6, e6, c6, l6⟩ := set1_d hl (h := h5) c5 (n := a.Owner.length) a1
  rw [e5, Option.bind_some]
  cases q with
  | true =>
   simp only [cond_true, A1, Option.bind_some]
   exact ⟨_, _, _, rfl, a2, a3, t2, by omega⟩
  | false =>
   simp only [cond_false, e6, Option.bind_some]
   exact ⟨_, _, _, rfl, a2, a3, t2, l6⟩
end
theorem FnFair_law {p0 : List Int} (ok0 : okS U8 p0) : l_FnFair p0 = some true := by
 unfold l_FnFair l_big
 rw [Option.bind_some]
 by_cases hb : p0.length ≤ 4096
 · rw [decide_eq_false (by omega), cond_false]
   obtain ⟨N, pairs, S, e0, n1, n2, n3, n4⟩ := drawFair hb
   rw [e0, Option.bind_some]
   dsimp only
   have hNb : ∀ r ∈ N, r.length ≤ 1000000000 := fun r hr => by have := n2 r hr; omega
   have hpb : ∀ x ∈ pairs, x.Ask.length ≤ 1000000000 ∧ x.Give.length ≤ 1000000000 := fun x hx => by have := n3 x hx; omega
   obtain ⟨b, b1, b2, b3⟩ := FairIn_same (N := N) (pairs := pairs) (S := S) hNb hpb (by omega)
   obtain ⟨c, c1, c2, c3⟩ := FairIn_same (N := N) (pairs := []) (S := S) hNb (by simp) (by omega)
   obtain ⟨d, d1, d2, d3⟩ := FairIn_same (N := N) (pairs := [⟨[], []⟩]) (S := S) hNb (by simp) (by omega)
   obtain ⟨A, A1, A2, A3⟩ := AllOf_eq (n := N.length) (by omega)
   obtain ⟨e, e1, e2, e3⟩ := FairIn_same (N := N) (pairs := pairs) (S := A) hNb hpb (by omega)
   have hp0 : pairsOk [] (N.length : Int) = true := rfl
   have hp1 : pairsOk [⟨[], []⟩] (N.length : Int) = true := by
    unfold pairsOk pairOk setOk
    simp
   have fbc : b = true → c = true := fun h => by
    obtain ⟨⟨k1, _, k3, k4⟩, C, k5, k6⟩ := b3.1 h
    exact c3.2 ⟨⟨k1, hp0, k3, k4⟩, C, k5, k6.ne, k6.con, fun p hp => by cases hp⟩
   have fbe : b = true → e = true := fun h => by
    obtain ⟨⟨k1, k2, k3, k4⟩, C, k5, k6⟩ := b3.1 h
    have hA := A3 k1
    refine e3.2 ⟨⟨k1, k2, ?_, k4⟩, C, fun x hx => ?_, k6⟩
    · rw [hA]
      refine setOk_iff.2 ⟨fun x hx => ?_, ?_⟩
      · obtain ⟨i, hi, rfl⟩ := List.mem_map.1 hx
        have := List.mem_range.1 hi
        show (0 : Int) ≤ (i : Int) ∧ (i : Int) < _
        omega
      · rw [Asc, List.pairwise_map]
        exact List.pairwise_lt_range.imp fun h => Int.ofNat_lt.2 h
    · obtain ⟨x0, x1⟩ := (setOk_iff.1 k3).1 x (k5 x hx)
      obtain ⟨i, hi⟩ := ex_nat x0
      subst hi
      rw [hA]
      exact List.mem_map.2 ⟨i, List.mem_range.2 (by omega), rfl⟩
   have fcd : c = true → d = true := fun h => by
    obtain ⟨⟨k1, _, k3, k4⟩, C, k5, k6⟩ := c3.1 h
    refine d3.2 ⟨⟨k1, hp1, k3, k4⟩, C, k5, k6.ne, k6.con, fun p hp => ?_⟩
    rw [List.mem_singleton] at hp
    subst hp
    rintro ⟨⟨x, _, hx⟩, _⟩
    cases hx
   rw [b2, Option.bind_some, b1, Option.bind_some, bne_self_eq_false, cond_false, A1, Option.bind_some, c1, c2, d2, e2]
   cases b with
   | true =>
    have hc := fbc rfl
    have he := fbe rfl
    have hd := fcd hc
    rw [hc, he, hd]
    rfl
   | false =>
    cases c with
    | true =>
     rw [fcd rfl]
     rfl
    | false => rfl
 · rw [decide_eq_true (by omega), cond_true]
end Go.Proofs.Ytcmamhmpoinmnaa
