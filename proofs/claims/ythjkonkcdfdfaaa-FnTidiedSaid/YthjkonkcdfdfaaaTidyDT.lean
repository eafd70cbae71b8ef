/- The depth of a circuit, by both sides. -/
import Derived.Test.YthjkonkcdfdfaaaTidyIT
set_option linter.unusedVariables false
set_option linter.unusedSimpArgs false
namespace Go.Proofs.Ythjkonkcdfdfaaa
open Go Go.Wk Go.Proofs

theorem s_l1Max_eq (a b : Int) : s_l1Max a b = some (mx2 a b) := by
  unfold s_l1Max mx2
  by_cases h : a < b <;> by_cases h' : b < a <;> simp [h, h'] <;> omega
theorem dep_get {D : List Int} {x : Int} (x0 : 0 ≤ x) (x1 : x < 2 * (D.length : Int)) (hl : D.length ≤ 100000) : idx D (IntKind.i64.wrap (Int.tdiv x 2)) = some (dep D x) := by
  obtain ⟨y, hy, _⟩ := get_el (xs := D) (z := x / 2) (by omega) (by omega)
  rw [tdiv_pos x0, wr' (z := x / 2) (by omega) (by omega), hy]
  rw [idx_int (by omega)] at hy
  unfold dep
  rw [List.getD_eq_getElem?_getD, hy, Option.getD_some]
theorem dG_le : ∀ (G : List Gate) (D : List Int) (m : Int), 0 ≤ m → (∀ x ∈ D, x ≤ m) → ∀ x ∈ dG D G, x ≤ m + G.length
  | [], _, m, _, h, x, hx => by have := h x hx; simp only [List.length_nil]; omega
  | g :: G, D, m, m0, h, x, hx => by
    have hd : ∀ y : Int, dep D y ≤ m := fun y => by
      unfold dep
      rw [List.getD_eq_getElem?_getD]
      cases e : D[(y / 2).toNat]? with
      | none => exact m0
      | some z => exact h z (List.mem_of_getElem? e)
    have := dG_le G _ (m + 1) (by omega) (fun y hy => by
      rcases List.mem_append.1 hy with hy | hy
      · have := h y hy; omega
      · have e := List.mem_singleton.1 hy
        have h1 := hd g.A
        have h2 := hd g.B
        subst e
        unfold mx2
        split <;> omega) x hx
    simp only [List.length_cons]
    omega
theorem dep_le {D : List Int} {m : Int} (m0 : 0 ≤ m) (h : ∀ x ∈ D, x ≤ m) (y : Int) : dep D y ≤ m := by
  unfold dep
  rw [List.getD_eq_getElem?_getD]
  cases e : D[(y / 2).toNat]? with
  | none => exact m0
  | some z => exact h z (List.mem_of_getElem? e)
theorem d0_in {b : Nat} (G : List Gate) (y : Int) : 0 ≤ dep (dG (List.replicate b 0) G) y ∧ dep (dG (List.replicate b 0) G) y ≤ G.length := by
  refine ⟨dep_nn (dG_nn G _ fun x hx => by rw [List.eq_of_mem_replicate hx]; exact Int.le_refl 0) y, ?_⟩
  have := dG_le G (List.replicate b 0) 0 (Int.le_refl 0) (fun x hx => by rw [List.eq_of_mem_replicate hx]; exact Int.le_refl 0)
  exact dep_le (by omega) (fun x hx => by have := this x hx; omega) y
/-- the depth -/
def dOf (b : Nat) (G : List Gate) (R : List Int) : Int := R.foldl (fun s x => mx2 s (dep (dG (List.replicate b 0) G) x)) 0
theorem dOf_le {D E : List Int} {f : Int → Int} : ∀ (R : List Int) (s t : Int), s ≤ t → (∀ x ∈ R, dep D (f x) ≤ dep E x) → (R.map f).foldl (fun s x => mx2 s (dep D x)) s ≤ R.foldl (fun s x => mx2 s (dep E x)) t
  | [], _, _, h, _ => h
  | x :: R, s, t, h, hR => by
    refine dOf_le R _ _ ?_ (fun y hy => hR y (List.mem_cons_of_mem _ hy))
    have := hR x (List.mem_cons_self ..)
    show mx2 s (dep D (f x)) ≤ mx2 t (dep E x)
    unfold mx2
    split <;> split <;> omega
section
variable {c : Circuit} (hc : circOk c = true) {b : Nat} (hb : base c = (b : Int))
include hc hb
theorem s_depth : s_DepthOf c = some (dOf b c.Gates (c.Next ++ c.Outs)) := by
  have h := circHead_in (circOk_spec hc).1
  obtain ⟨_, _, hnx, hot⟩ := circOk_spec hc
  obtain ⟨b1, b2, b3, b4⟩ := tidy_b hc hb
  have hg := gok_of hc
  rw [hb] at hg
  have hsg : sigs c = (b : Int) + c.Gates.length := by rw [← hb]; rfl
  rw [List.all_eq_true] at hnx hot
  unfold s_DepthOf
  rw [s_CircuitOk_eq, hc]
  simp only [Option.bind_some, Bool.not_true, cond_false, b3]
  have hmk : mkS 8 (b : Int) (0 : Int) = some (List.replicate b 0) := by
    unfold mkS
    rw [if_pos (by omega), Int.toNat_natCast]
  obtain ⟨D, h1, h2⟩ := cnt_inv (f := s_DepthOf_b0 c) (fun j s => s = dG (List.replicate b 0) (c.Gates.take j)) c.Gates.length (s := List.replicate b 0) rfl fun j s hj hs => by
    subst hs
    have hx : c.Gates[j]? = some c.Gates[j] := by simp [hj]
    obtain ⟨a0, a1, c0, c1⟩ := hg j _ hx
    generalize c.Gates[j] = g at hx a0 a1 c0 c1
    have hl : (dG (List.replicate b 0) (c.Gates.take j)).length = b + j := by rw [dG_len, List.length_replicate, List.length_take]; omega
    have e1 := dep_get (D := dG (List.replicate b 0) (c.Gates.take j)) a0 (by omega) (by omega)
    have e2 := dep_get (D := dG (List.replicate b 0) (c.Gates.take j)) c0 (by omega) (by omega)
    have d1 := d0_in (b := b) (c.Gates.take j) g.A
    have d2 := d0_in (b := b) (c.Gates.take j) g.B
    have htl : (c.Gates.take j).length = j := by rw [List.length_take]; omega
    have hst : dG (List.replicate b 0) (c.Gates.take (j + 1)) = dG (List.replicate b 0) (c.Gates.take j) ++ [1 + mx2 (dep (dG (List.replicate b 0) (c.Gates.take j)) g.A) (dep (dG (List.replicate b 0) (c.Gates.take j)) g.B)] := by
      rw [List.take_add_one, hx, dG_append]; rfl
    unfold s_DepthOf_b0
    simp only [idx_nat, hx, Option.bind_some, e1, e2, s_l1Max_eq]
    rw [wr' (by unfold mx2; split <;> omega) (by unfold mx2; split <;> omega), app1 (by omega) rfl, hst]
    exact ⟨_, rfl, rfl⟩
  rw [List.take_length] at h2
  subst h2
  rw [hmk, Option.bind_some, h1, Option.bind_some, aft_inr]
  have hl : (dG (List.replicate b 0) c.Gates).length = b + c.Gates.length := by rw [dG_len, List.length_replicate]
  have f1 := cnt_fold (f := s_DepthOf_b2 c (dG (List.replicate b 0) c.Gates)) (fun s x => mx2 s (dep (dG (List.replicate b 0) c.Gates) x)) (xs := c.Next) (fun i x s hx => by
    have hi := inR_iff.1 (hnx x (List.mem_of_getElem? hx))
    unfold s_DepthOf_b2
    simp only [idx_nat, hx, Option.bind_some, dep_get (D := dG (List.replicate b 0) c.Gates) hi.1 (by omega) (by omega), s_l1Max_eq]) 0
  rw [f1, Option.bind_some, aft_inr]
  have f2 := cnt_fold (f := s_DepthOf_b4 c (dG (List.replicate b 0) c.Gates)) (fun s x => mx2 s (dep (dG (List.replicate b 0) c.Gates) x)) (xs := c.Outs) (fun i x s hx => by
    have hi := inR_iff.1 (hot x (List.mem_of_getElem? hx))
    unfold s_DepthOf_b4
    simp only [idx_nat, hx, Option.bind_some, dep_get (D := dG (List.replicate b 0) c.Gates) hi.1 (by omega) (by omega), s_l1Max_eq]) (c.Next.foldl (fun s x => mx2 s (dep (dG (List.replicate b 0) c.Gates) x)) 0)
  rw [f2, Option.bind_some, aft_inr]
  unfold dOf
  rw [List.foldl_append]
theorem i_depth : i_DepthOf c = some (dOf b c.Gates (c.Next ++ c.Outs)) := by
  have h := circHead_in (circOk_spec hc).1
  obtain ⟨_, _, hnx, hot⟩ := circOk_spec hc
  obtain ⟨b1, b2, b3, b4⟩ := tidy_b hc hb
  have hg := gok_of hc
  rw [hb] at hg
  have hsg : sigs c = (b : Int) + c.Gates.length := by rw [← hb]; rfl
  rw [List.all_eq_true] at hnx hot
  unfold i_DepthOf
  rw [i_isCircuit_eq, hc]
  simp only [Option.bind_some, Bool.not_true, cond_false, i_signalsOf_eq (circOk_spec hc).1, hsg]
  have hmk : mkS 8 ((b : Int) + c.Gates.length) (0 : Int) = some (List.replicate (b + c.Gates.length) 0) := by
    unfold mkS
    rw [if_pos (by omega)]
    congr 2
  obtain ⟨D, h1, h2, h3⟩ := cnt_inv (f := i_DepthOf_b0 c ((b : Int) + c.Gates.length)) (fun j s => s.length = b + c.Gates.length ∧ s.take (b + j) = dG (List.replicate b 0) (c.Gates.take j)) c.Gates.length (s := List.replicate (b + c.Gates.length) 0) ⟨by simp, by
      rw [List.take_replicate]
      show _ = List.replicate b 0
      congr 1; omega⟩ fun j s hj ⟨hs1, hs2⟩ => by
    have hx : c.Gates[j]? = some c.Gates[j] := by simp [hj]
    obtain ⟨a0, a1, c0, c1⟩ := hg j _ hx
    generalize c.Gates[j] = g at hx a0 a1 c0 c1
    have htl : (c.Gates.take j).length = j := by rw [List.length_take]; omega
    have hget : ∀ x : Int, 0 ≤ x → x < 2 * ((b : Int) + j) → dep s x = dep (dG (List.replicate b 0) (c.Gates.take j)) x := fun x x0 x1 => by
      rw [← hs2]
      unfold dep
      simp only [List.getD, List.getElem?_take]
      rw [if_pos (by omega)]
    have e1 := dep_get (D := s) a0 (by omega) (by omega)
    have e2 := dep_get (D := s) c0 (by omega) (by omega)
    rw [hget _ a0 a1] at e1
    rw [hget _ c0 c1] at e2
    have d1 := d0_in (b := b) (c.Gates.take j) g.A
    have d2 := d0_in (b := b) (c.Gates.take j) g.B
    have hst : dG (List.replicate b 0) (c.Gates.take (j + 1)) = dG (List.replicate b 0) (c.Gates.take j) ++ [1 + mx2 (dep (dG (List.replicate b 0) (c.Gates.take j)) g.A) (dep (dG (List.replicate b 0) (c.Gates.take j)) g.B)] := by
      rw [List.take_add_one, hx, dG_append]; rfl
    have hlt : b + j < s.length := by omega
    have hp : (b : Int) + c.Gates.length - c.Gates.length + j = ((b + j : Nat) : Int) := by omega
    have hxx : s[b + j]? = some s[b + j] := by simp [hlt]
    have hset : ∀ v : Int, setI s ((b + j : Nat) : Int) v = some (s.set (b + j) v) := fun v => by
      unfold setI
      rw [if_pos (by omega), Int.toNat_natCast]
    unfold i_DepthOf_b0
    rw [wr' (z := (b : Int) + c.Gates.length - c.Gates.length) (by omega) (by omega), wr' (z := (b : Int) + c.Gates.length - c.Gates.length + j) (by omega) (by omega), hp]
    simp only [idx_nat, hx, Option.bind_some, e1, e2, hxx, hset]
    rw [show (if dep (dG (List.replicate b 0) (c.Gates.take j)) g.A < dep (dG (List.replicate b 0) (c.Gates.take j)) g.B then dep (dG (List.replicate b 0) (c.Gates.take j)) g.B else dep (dG (List.replicate b 0) (c.Gates.take j)) g.A) = mx2 (dep (dG (List.replicate b 0) (c.Gates.take j)) g.A) (dep (dG (List.replicate b 0) (c.Gates.take j)) g.B) from rfl]
    rw [wr' (by unfold mx2; split <;> omega) (by unfold mx2; split <;> omega)]
    refine ⟨_, rfl, by simpa using hs1, ?_⟩
    rw [← Nat.add_assoc, List.take_add_one, List.take_set_of_le (Nat.le_refl _), hs2, List.getElem?_set_self (by omega), hst]
    rfl
  rw [List.take_length] at h3
  rw [List.take_of_length_le (by omega)] at h3
  subst h3
  rw [hmk, Option.bind_some, h1, Option.bind_some, aft_inr]
  have hl : (dG (List.replicate b 0) c.Gates).length = b + c.Gates.length := by rw [dG_len, List.length_replicate]
  rw [appL (by rw [List.length_nil]; omega) rfl, Option.bind_some, appL (by rw [List.nil_append]; omega) rfl, Option.bind_some, List.nil_append]
  have f1 := cnt_fold (f := i_DepthOf_b2 (dG (List.replicate b 0) c.Gates) (c.Next ++ c.Outs)) (fun s x => mx2 s (dep (dG (List.replicate b 0) c.Gates) x)) (xs := c.Next ++ c.Outs) (fun i x s hx => by
    have hi : inR (2 * sigs c) x = true := (List.mem_append.1 (List.mem_of_getElem? hx)).elim (hnx x) (hot x)
    have hi := inR_iff.1 hi
    unfold i_DepthOf_b2
    simp only [idx_nat, hx, Option.bind_some, dep_get (D := dG (List.replicate b 0) c.Gates) hi.1 (by omega) (by omega)]
    rfl) 0
  rw [f1, Option.bind_some, aft_inr]
  rfl
end
end Go.Proofs.Ythjkonkcdfdfaaa
