/- Drawn edits: a draw comes to an end. -/
import Derived.Test.YtnpmbkaoeihdmaaDoorDrawMF
set_option linter.unusedVariables false
set_option linter.unusedSimpArgs false
namespace Go.Proofs.YtnpmbkaoeihdmaaDoor
open Go Go.Wk Go.Proofs

theorem into_d {xs : List Int} (hx : xs.length ≤ 1000) (v : Int) : ∃ ys, s_l1Into xs v = some ys ∧ ys.length ≤ xs.length + 1 := by
  unfold s_l1Into
  obtain ⟨o, w1, w2⟩ := while_out (f := s_l1Into_b0 xs v) (fun j (s : Int) => s = (j : Int) ∧ j ≤ xs.length) (fun _ => False) (fun s => ∃ j : Nat, s = (j : Int) ∧ j ≤ xs.length) xs.length (fun j s ⟨hs, hj⟩ => by
    subst hs
    unfold s_l1Into_b0
    by_cases hlt : (j : Int) < (xs.length : Int)
    · obtain ⟨y, hy⟩ : ∃ y, xs[j]? = some y := ⟨_, List.getElem?_eq_getElem (by omega)⟩
      simp only [hlt, decide_true, cond_true, idx_nat, hy, Option.bind_some]
      cases decide (y < v) with
      | true =>
        refine ⟨_, rfl, by omega, ?_, by omega⟩
        rw [wr' (by omega) (by omega)]; omega
      | false => exact ⟨_, rfl, j, rfl, hj⟩
    · simp only [hlt, decide_false, cond_false, Option.bind_some]
      exact ⟨_, rfl, j, rfl, hj⟩) (2 ^ 64) 0 0 (by omega) ⟨rfl, by omega⟩ (by omega)
  match o, w2 with
  | .inr s, ⟨j, hs, hj⟩ =>
    subst hs
    rw [w1, Option.bind_some, aft_inr]
    have h1 : ∃ c, (bif decide ((j : Int) < (xs.length : Int)) then Option.bind (idx xs (j : Int)) fun x28 => some (x28 == v) else some false) = some c := by
      by_cases hlt : (j : Int) < (xs.length : Int)
      · obtain ⟨y, hy⟩ : ∃ y, xs[j]? = some y := ⟨_, List.getElem?_eq_getElem (by omega)⟩
        simp only [hlt, decide_true, cond_true, idx_nat, hy, Option.bind_some]
        exact ⟨_, rfl⟩
      · simp only [hlt, decide_false, cond_false]
        exact ⟨_, rfl⟩
    obtain ⟨c, hc⟩ := h1
    rw [hc, Option.bind_some]
    cases c with
    | true => exact ⟨xs, rfl, by omega⟩
    | false =>
      have s1 : subS xs 0 (j : Int) = some (xs.take j) := by
        unfold subS
        rw [if_pos ⟨by omega, by omega, by omega⟩]
        simp
      have s2 : subS xs (j : Int) (xs.length : Int) = some (xs.drop j) := by
        unfold subS
        rw [if_pos ⟨by omega, by omega, by omega⟩]
        simp
      have l1 : (xs.take j).length ≤ 1000 := by rw [List.length_take]; omega
      have l2 : (xs.drop j).length ≤ 1000 := by rw [List.length_drop]; omega
      have c1 : s_l1Copy (xs.take j) = some (xs.take j) := by
        unfold s_l1Copy
        rw [appL (by simp only [List.length_nil]; omega) rfl]; rfl
      simp only [cond_false, s1, c1, s2, Option.bind_some]
      rw [app1 (by omega) rfl, Option.bind_some, appL (by simp only [List.length_append, List.length_cons, List.length_nil]; omega) rfl]
      refine ⟨_, rfl, ?_⟩
      simp only [List.length_append, List.length_take, List.length_drop, List.length_cons, List.length_nil]
      omega
def ArOk (a : Arena) : Prop := 1 ≤ a.Owner.length ∧ a.Owner.length ≤ 8 ∧ a.Next.length = a.Owner.length ∧ ∀ r ∈ a.Next, r.length ≤ 10
section
variable {b : List Int} (hl : b.length ≤ 4096)
include hl
theorem from_d {i h : Int} (hi : Cur i) (k m : Int) : ∃ x i' h', s_l1From ⟨b, i, h⟩ k m = some (x, i', h') ∧ Cur i' := by
  obtain ⟨x, i', h', e, _, _, c⟩ := below_d hl (h := h) hi (IntKind.i64.wrap (IntKind.i64.wrap (m - k) + 1))
  unfold s_l1From
  rw [e]
  exact ⟨_, _, _, rfl, c⟩
theorem draw1_d {i h : Int} (hi : Cur i) : ∃ a i' h', s_l1Draw ⟨b, i, h⟩ = some (a, i', h') ∧ Cur i' ∧ ArOk a := by
  obtain ⟨x1, i1, h1, e1, a0, a1, c1⟩ := below_d hl (h := h) hi 8
  have a1 := a1 (by omega)
  unfold s_l1Draw
  rw [e1, Option.bind_some]
  dsimp only
  obtain ⟨n, hn⟩ : ∃ n : Nat, 1 + x1 = (n : Int) := ex_nat (by omega)
  have hr : rng (n : Int) = some () := by unfold rng; rw [if_pos (by omega)]
  rw [wr' (z := 1 + x1) (by omega) (by omega), hn, hr, Option.bind_some, Int.sub_zero, Int.toNat_natCast]
  obtain ⟨s, k1, k2, k3, k4, k5⟩ := cnt_inv (f := s_l1Draw_b0 ⟨b, i, h⟩ (x1, i1, h1)) (fun j (s : Int × Int × List Int × List (List Int)) => Cur s.1 ∧ s.2.2.1.length = j ∧ s.2.2.2.length = j ∧ ∀ r ∈ s.2.2.2, r.length ≤ 10) n (s := (i1, h1, [], [])) ⟨c1, rfl, rfl, by simp⟩ (fun j s hj ⟨g1, g2, g3, g4⟩ => by
    obtain ⟨x2, i2, h2, e2, b0, b1, c2⟩ := below_d hl (h := s.2.1) g1 3
    have b1 := b1 (by omega)
    unfold s_l1Draw_b0
    rw [e2, Option.bind_some]
    dsimp only
    rw [wr' (z := 1 + x2) (by omega) (by omega)]
    obtain ⟨o, u1, u2⟩ := while_out (f := s_l1Draw_b2 ⟨b, i, h⟩ (x1, i1, h1)) (fun j (t : List Int × Int × Int × Int) => t.2.1 = 1 + x2 - (j : Int) ∧ 0 ≤ t.2.1 ∧ Cur t.2.2.1 ∧ t.1.length ≤ j) (fun _ => False) (fun t => Cur t.2.2.1 ∧ t.1.length ≤ 10) 3 (fun j t ⟨m1, m2, m3, m4⟩ => by
      unfold s_l1Draw_b2
      by_cases hlt : 0 < t.2.1
      · obtain ⟨x3, i3, h3, e3, _, _, c3⟩ := below_d hl (h := t.2.2.2) m3 (IntKind.i64.wrap (1 + x1))
        obtain ⟨ys, f1, f2⟩ := into_d (xs := t.1) (by omega) x3
        simp only [hlt, decide_true, cond_true, e3, f1, Option.bind_some]
        refine ⟨_, rfl, by omega, ?_, ?_, c3, by dsimp only; omega⟩
        · dsimp only; rw [wr' (by omega) (by omega)]; omega
        · dsimp only; rw [wr' (by omega) (by omega)]; omega
      · simp only [hlt, decide_false, cond_false]
        exact ⟨_, rfl, m3, by dsimp only; omega⟩) (2 ^ 64) 0 ([], 1 + x2, i2, h2) (by omega) ⟨by simp, by dsimp only; omega, c2, by simp⟩ (by omega)
    match o, u2 with
    | .inr t, ⟨t1, t2⟩ =>
      rw [u1]
      simp only [Option.bind_some, aft_inr]
      obtain ⟨x4, i4, h4, e4, _, _, c4⟩ := below_d hl (h := t.2.2.2) t1 2
      rw [e4, Option.bind_some, app1 (by omega) rfl, Option.bind_some, app1 (by omega) rfl]
      refine ⟨_, rfl, c4, by dsimp only; rw [List.length_append, g2]; rfl, by dsimp only; rw [List.length_append, g3]; rfl, fun r hr => ?_⟩
      rcases List.mem_append.1 hr with hr | hr
      · exact g4 r hr
      · rw [List.mem_singleton.1 hr]; exact t2)
  rw [k1]
  exact ⟨_, _, _, rfl, k2, by dsimp only; omega, by dsimp only; omega, by dsimp only; omega, k5⟩
theorem drawAny1_d {i h : Int} (hi : Cur i) : ∃ a i' h', s_l1DrawAny ⟨b, i, h⟩ = some (a, i', h') ∧ Cur i' := by
  obtain ⟨a, i1, h1, e1, c1, a1, a2, a3, a4⟩ := draw1_d hl (h := h) hi
  obtain ⟨q, i2, h2, e2, c2⟩ := once_d hl (h := h1) c1 6
  unfold s_l1DrawAny
  simp only [e1, e2, Option.bind_some]
  cases q with
  | false => exact ⟨_, _, _, rfl, c2⟩
  | true =>
    obtain ⟨v, i3, h3, e3, v0, v1, c3⟩ := below_d hl (h := h2) c2 (a.Owner.length : Int)
    have v1 := v1 (by omega)
    obtain ⟨k, i4, h4, e4, _, _, c4⟩ := below_d hl (h := h3) c3 6
    obtain ⟨vn, rfl⟩ := ex_nat v0
    have hvo : vn < a.Owner.length := by omega
    have hvn : vn < a.Next.length := by omega
    obtain ⟨o, ho⟩ : ∃ y, a.Owner[vn]? = some y := ⟨_, List.getElem?_eq_getElem hvo⟩
    obtain ⟨r, hr⟩ : ∃ y, a.Next[vn]? = some y := ⟨_, List.getElem?_eq_getElem hvn⟩
    have hrl := a4 r (List.mem_of_getElem? hr)
    simp only [cond_true, e3, e4, Option.bind_some, idx_nat, ho, hr]
    obtain ⟨x5, i5, h5, e5, c5⟩ := from_d hl (h := h4) c4 (-1) 2
    obtain ⟨x6, i6, h6, e6, c6⟩ := num_d hl (h := h4) c4 256
    have hw : ∃ s : Int × Int × Int × List Int × List (List Int), whileM (s_l1DrawAny_b1 ⟨b, i, h⟩) (2 ^ 64) (0, i4, h4, [], []) = some (.inr s) ∧ Cur s.2.1 := by
      obtain ⟨o, u1, u2⟩ := while_out (f := s_l1DrawAny_b1 ⟨b, i, h⟩) (fun j (s : Int × Int × Int × List Int × List (List Int)) => s.1 = (j : Int) ∧ j ≤ 300 ∧ Cur s.2.1 ∧ s.2.2.2.1.length = j ∧ s.2.2.2.2.length = j) (fun _ => False) (fun s => Cur s.2.1) 300 (fun j s ⟨m1, m0, m2, m3, m4⟩ => by
        obtain ⟨x7, i7, h7, e7, y0, y1, c7⟩ := below_d hl (h := s.2.2.1) m2 2
        have y1 := y1 (by omega)
        unfold s_l1DrawAny_b1
        simp only [e7, Option.bind_some]
        rw [wr' (z := 256 + x7) (by omega) (by omega)]
        by_cases hlt : s.1 < 256 + x7
        · simp only [hlt, decide_true, cond_true]
          rw [app1 (by omega) rfl, Option.bind_some, app1 (by omega) rfl]
          refine ⟨_, rfl, by omega, ?_, by omega, c7, by dsimp only; rw [List.length_append, m3]; rfl, by dsimp only; rw [List.length_append, m4]; rfl⟩
          dsimp only; rw [wr' (by omega) (by omega)]; omega
        · simp only [hlt, decide_false, cond_false]
          exact ⟨_, rfl, c7⟩) (2 ^ 64) 0 (0, i4, h4, [], []) (by omega) ⟨by simp, by omega, c4, rfl, rfl⟩ (by omega)
      match o, u2 with
      | .inr s, u2 => exact ⟨s, u1, u2⟩
    obtain ⟨s, u1, u2⟩ := hw
    have t1 : ∀ y : Int, setI a.Owner (vn : Int) y = some (a.Owner.set vn y) := fun y => setI_nat hvo
    have t2 : ∀ y : List Int, setI a.Next (vn : Int) y = some (a.Next.set vn y) := fun y => setI_nat hvn
    have t3 : appS 8 r [x6] = some (r ++ [x6]) := app1 (by omega) rfl
    have t4 : appS 8 a.Owner [0] = some (a.Owner ++ [0]) := app1 (by omega) rfl
    have t5 : mkS 8 17 (0 : Int) = some (List.replicate 17 0) := mkS_nat (m := 17) (by omega) rfl
    cases k == 0 with
    | true => simp only [cond_true, e5, t1, Option.bind_some]; exact ⟨_, _, _, rfl, c5⟩
    | false =>
      cases k == 1 with
      | true => simp only [cond_true, cond_false, e6, t2, t3, Option.bind_some]; exact ⟨_, _, _, rfl, c6⟩
      | false =>
        cases k == 2 with
        | true => simp only [cond_true, cond_false, t2, Option.bind_some]; exact ⟨_, _, _, rfl, c4⟩
        | false =>
          cases k == 3 with
          | true => simp only [cond_true, cond_false, t4, Option.bind_some]; exact ⟨_, _, _, rfl, c4⟩
          | false =>
            cases k == 4 with
            | true => simp only [cond_true, cond_false, u1, aft_inr, Option.bind_some]; exact ⟨_, _, _, rfl, u2⟩
            | false =>
              cases k == 5 with
              | true => simp only [cond_true, cond_false, t5, t2, Option.bind_some]; exact ⟨_, _, _, rfl, c4⟩
              | false => simp only [cond_false, Option.bind_some]; exact ⟨_, _, _, rfl, c4⟩
theorem draw4_d {i h : Int} (hi : Cur i) : ∃ g i' h', s_l4Draw ⟨b, i, h⟩ = some (g, i', h') ∧ Cur i' ∧ ArOk g.Arena ∧ g.Prio.length = g.Arena.Owner.length := by
  obtain ⟨a, i1, h1, e1, c1, a1⟩ := draw1_d hl (h := h) hi
  obtain ⟨x2, i2, h2, e2, _, _, c2⟩ := below_d hl (h := h1) c1 4
  unfold s_l4Draw
  simp only [e1, e2, Option.bind_some]
  obtain ⟨s, k1, k2, k3⟩ := cnt_inv (f := s_l4Draw_b0 ⟨b, i, h⟩ (x2, i2, h2)) (fun j (s : Int × Int × List Int) => Cur s.1 ∧ s.2.2.length = j) a.Owner.length (s := (i2, h2, [])) ⟨c2, rfl⟩ (fun j s hj ⟨g1, g2⟩ => by
    obtain ⟨x3, i3, h3, e3, _, _, c3⟩ := below_d hl (h := s.2.1) g1 (IntKind.i64.wrap (3 + x2))
    unfold s_l4Draw_b0
    have := a1.2.1
    rw [e3, Option.bind_some, app1 (by omega) rfl]
    exact ⟨_, rfl, c3, by dsimp only; rw [List.length_append, g2]; rfl⟩)
  rw [k1]
  exact ⟨_, _, _, rfl, k2, a1, k3⟩
theorem drawAny4_d {i h : Int} (hi : Cur i) : ∃ g i' h', s_l4DrawAny ⟨b, i, h⟩ = some (g, i', h') ∧ Cur i' := by
  obtain ⟨g, i1, h1, e1, c1, a1, a2⟩ := draw4_d hl (h := h) hi
  obtain ⟨q, i2, h2, e2, c2⟩ := once_d hl (h := h1) c1 8
  unfold s_l4DrawAny
  simp only [e1, e2, Option.bind_some]
  cases q with
  | false => exact ⟨_, _, _, rfl, c2⟩
  | true =>
    obtain ⟨k, i3, h3, e3, _, _, c3⟩ := below_d hl (h := h2) c2 3
    obtain ⟨x4, i4, h4, e4, c4⟩ := num_d hl (h := h3) c3 40
    obtain ⟨x5, i5, h5, e5, c5⟩ := drawAny1_d hl (h := h3) c3
    have hp : 0 < g.Prio.length := by have := a1.1; omega
    have hp2 : g.Prio.length ≤ 8 := by have := a1.2.1; omega
    obtain ⟨o, ho⟩ : ∃ y, g.Prio[0]? = some y := ⟨_, List.getElem?_eq_getElem hp⟩
    have ho' : idx g.Prio 0 = some o := by
      have := idx_nat g.Prio 0
      rw [ho] at this; exact this
    have t1 : ∀ y : Int, setI g.Prio 0 y = some (g.Prio.set 0 y) := fun y => setI_nat (i := 0) hp
    have t4 : appS 8 g.Prio [1] = some (g.Prio ++ [1]) := app1 (by omega) rfl
    simp only [cond_true, e3, Option.bind_some]
    cases k == 0 with
    | true => simp only [cond_true, e4, ho', t1, Option.bind_some]; exact ⟨_, _, _, rfl, c4⟩
    | false =>
      cases k == 1 with
      | true => simp only [cond_true, cond_false, t4, Option.bind_some]; exact ⟨_, _, _, rfl, c3⟩
      | false =>
        cases k == 2 with
        | true => simp only [cond_true, cond_false, e5, Option.bind_some]; exact ⟨_, _, _, rfl, c5⟩
        | false => simp only [cond_false, Option.bind_some]; exact ⟨_, _, _, rfl, c3⟩
theorem draw32_d {i h : Int} (hi : Cur i) (g : Parity) : ∃ e i' h', s_l32Draw ⟨b, i, h⟩ g = some (e, i', h') ∧ Cur i' := by
  obtain ⟨x1, i1, h1, e1, _, _, c1⟩ := below_d hl (h := h) hi 4
  obtain ⟨v, i2, h2, e2, v0, _, c2⟩ := below_d hl (h := h1) c1 (g.Prio.length : Int)
  unfold s_l32Draw
  simp only [e1, e2, Option.bind_some]
  have hq : ∃ n i3 h3, Cur i3 ∧ (bif ((IntKind.i64.wrap (1 + x1)) == 1) then
      Option.bind (s_l1Below (⟨b, i2, h2⟩ : l1Cur) 6) fun x22 => some ((x22.2.1 : Int), (x22.2.2 : Int), (x22.1 : Int))
    else Option.bind (bif ((IntKind.i64.wrap (1 + x1)) == 2) then
        Option.bind (s_l1Below (⟨b, i2, h2⟩ : l1Cur) 2) fun x27 => some ((x27.2.1 : Int), (x27.2.2 : Int), (x27.1 : Int))
      else Option.bind (bif ((IntKind.i64.wrap (1 + x1)) == 3) then
          Option.bind (s_l1Below (⟨b, i2, h2⟩ : l1Cur) (g.Prio.length : Int)) fun x33 => some ((x33.2.1 : Int), (x33.2.2 : Int), (x33.1 : Int))
        else Option.bind (bif ((IntKind.i64.wrap (1 + x1)) == 4) then
            Option.bind (s_l1Below (⟨b, i2, h2⟩ : l1Cur) (g.Prio.length : Int)) fun x39 =>
            Option.bind (bif decide (v < (g.Arena.Next.length : Int)) then
            Option.bind (idx g.Arena.Next v) fun x54 => some (decide (0 < (x54.length : Int)))
            else some false) fun p58 =>
            Option.bind (bif p58 then
              Option.bind (idx g.Arena.Next v) fun x64 =>
              Option.bind (idx g.Arena.Next v) fun x72 =>
              Option.bind (s_l1Below (⟨b, x39.2.1, x39.2.2⟩ : l1Cur) (x72.length : Int)) fun x75 =>
              Option.bind (idx x64 x75.1) fun x76 => some ((x75.2.1 : Int), (x75.2.2 : Int), (x76 : Int))
            else some ((x39.2.1 : Int), (x39.2.2 : Int), (x39.1 : Int))) fun q5 => some ((q5.1 : Int), (q5.2.1 : Int), (q5.2.2 : Int))
          else some ((i2 : Int), (h2 : Int), (0 : Int))) fun q4 => some ((q4.1 : Int), (q4.2.1 : Int), (q4.2.2 : Int))) fun q3 => some ((q3.1 : Int), (q3.2.1 : Int), (q3.2.2 : Int))) fun q2 =>
      some ((q2.1 : Int), (q2.2.1 : Int), (q2.2.2 : Int))) = some (i3, h3, n) := by
    obtain ⟨y1, j1, k1, f1, _, _, d1⟩ := below_d hl (h := h2) c2 6
    obtain ⟨y2, j2, k2, f2, _, _, d2⟩ := below_d hl (h := h2) c2 2
    obtain ⟨y3, j3, k3, f3, _, _, d3⟩ := below_d hl (h := h2) c2 (g.Prio.length : Int)
    cases IntKind.i64.wrap (1 + x1) == 1 with
    | true => simp only [cond_true, f1, Option.bind_some]; exact ⟨_, _, _, d1, rfl⟩
    | false =>
      cases IntKind.i64.wrap (1 + x1) == 2 with
      | true => simp only [cond_true, cond_false, f2, Option.bind_some]; exact ⟨_, _, _, d2, rfl⟩
      | false =>
        cases IntKind.i64.wrap (1 + x1) == 3 with
        | true => simp only [cond_true, cond_false, f3, Option.bind_some]; exact ⟨_, _, _, d3, rfl⟩
        | false =>
          cases IntKind.i64.wrap (1 + x1) == 4 with
          | true =>
            simp only [cond_true, cond_false, f3, Option.bind_some]
            by_cases hlt : v < (g.Arena.Next.length : Int)
            · obtain ⟨r, hr, _⟩ := get_el (xs := g.Arena.Next) v0 hlt
              simp only [hlt, decide_true, cond_true, hr, Option.bind_some]
              by_cases h0 : (0 : Int) < (r.length : Int)
              · obtain ⟨y4, j4, k4, f4, z0, z1, d4⟩ := below_d hl (h := k3) d3 (r.length : Int)
                obtain ⟨y5, f5, _⟩ := get_el (xs := r) z0 (z1 (by omega))
                simp only [h0, decide_true, cond_true, f4, f5, Option.bind_some]
                exact ⟨_, _, _, d4, rfl⟩
              · simp only [h0, decide_false, cond_false, Option.bind_some]
                exact ⟨_, _, _, d3, rfl⟩
            · simp only [hlt, decide_false, cond_false, Option.bind_some]
              exact ⟨_, _, _, d3, rfl⟩
          | false => simp only [cond_false, Option.bind_some]; exact ⟨_, _, _, c2, rfl⟩
  obtain ⟨n, i3, h3, c3, hq⟩ := hq
  rw [hq, Option.bind_some]
  obtain ⟨q, i4, h4, e4, c4⟩ := once_d hl (h := h3) c3 10
  dsimp only
  rw [e4, Option.bind_some]
  cases q with
  | false => exact ⟨_, _, _, rfl, c4⟩
  | true =>
    obtain ⟨k, i5, h5, e5, _, _, c5⟩ := below_d hl (h := h4) c4 3
    obtain ⟨y1, j1, k1, f1, d1⟩ := from_d hl (h := h5) c5 0 5
    obtain ⟨y2, j2, k2, f2, d2⟩ := num_d hl (h := h5) c5 (g.Prio.length : Int)
    obtain ⟨y3, j3, k3, f3, d3⟩ := num_d hl (h := h5) c5 40
    simp only [cond_true, e5, Option.bind_some]
    cases k == 0 with
    | true => simp only [cond_true, f1, Option.bind_some]; exact ⟨_, _, _, rfl, d1⟩
    | false =>
      cases k == 1 with
      | true => simp only [cond_true, cond_false, f2, Option.bind_some]; exact ⟨_, _, _, rfl, d2⟩
      | false =>
        cases k == 2 with
        | true => simp only [cond_true, cond_false, f3, Option.bind_some]; exact ⟨_, _, _, rfl, d3⟩
        | false => simp only [cond_false, Option.bind_some]; exact ⟨_, _, _, rfl, c5⟩
omit hl in
theorem new_e : ∃ h, s_l1New b = some ⟨b, 0, h⟩ := by
  unfold s_l1New
  obtain ⟨s, k1, _⟩ := cnt_inv (f := s_l1New_b0 b) (fun _ _ => True) b.length (s := IntKind.i64.wrap (560017 + (b.length : Int))) trivial (fun j s hj _ => by
    have hx : b[j]? = some b[j] := by simp [hj]
    unfold s_l1New_b0
    rw [idx_nat, hx]
    exact ⟨_, rfl, trivial⟩)
  rw [k1]
  exact ⟨s, rfl⟩
theorem drawEdit_d : ∃ e, s_DrawEditText b = some e := by
  obtain ⟨h, e0⟩ := new_e (b := b)
  obtain ⟨g, i1, h1, e1, c1⟩ := drawAny4_d hl (i := 0) (h := h) (by unfold Cur; omega)
  obtain ⟨e, i2, h2, e2, c2⟩ := draw32_d hl (h := h1) c1 g
  obtain ⟨q, i3, h3, e3, c3⟩ := once_d hl (h := h2) c2 6
  unfold s_DrawEditText s_l32DrawPair
  simp only [e0, e1, e2, e3, Option.bind_some]
  cases q with
  | false => exact ⟨_, rfl⟩
  | true =>
    obtain ⟨k, i4, h4, e4, k0, k1, c4⟩ := below_d hl (h := h3) c3 2
    obtain ⟨y, hy, _⟩ := get_el (xs := ([255, 256] : List Int)) k0 (by have := k1 (by omega); simp; omega)
    simp only [cond_true, e4, hy, Option.bind_some]
    exact ⟨_, rfl⟩
end
end Go.Proofs.YtnpmbkaoeihdmaaDoor
