/- LeastOf: names of states. -/
import Derived.Test.YtfmkhnlnomkcfaaPlaceIC12
import Derived.Test.YtfmkhnlnomkcfaaLeastOfC12
import Derived.Test.YtfmkhnlnomkcfaaNamesC12
set_option linter.unusedVariables false
set_option linter.unusedSimpArgs false
namespace Go.Proofs.Ytfmkhnlnomkcfaa
open Go Go.Wk Go.Proofs

def stepN (L : List Int) (s : List Int × List Int) (x : Int) : List Int × List Int := (addN s.1 (atL L x), s.2 ++ [placeOf (addN s.1 (atL L x)) (atL L x)])
theorem fold_names {n : Nat} {L : List Int} (hL : Low L) (hl : L.length = n) (hn : n ≤ 48) : ∀ (row : List Int) (s : List Int × List Int), (∀ x ∈ row, 0 ≤ x ∧ x < n) → Names n s.1 →
    Names n (row.foldl (stepN L) s).1 ∧ (row.foldl (stepN L) s).2.length = s.2.length + row.length ∧ ∀ (k : Nat) v, s.1[k]? = some v → (row.foldl (stepN L) s).1[k]? = some v
  | [], s, _, h => ⟨h, rfl, fun _ _ h => h⟩
  | x :: row, s, hr, h => by
    obtain ⟨x0, x1⟩ := hr x (List.mem_cons_self ..)
    have hx := hL x.toNat (by omega)
    rw [show ((x.toNat : Nat) : Int) = x from by omega] at hx
    obtain ⟨a1, a2⟩ := h.add (u := atL L x) hx.1 (by omega)
    obtain ⟨b1, b2, b3⟩ := fold_names hL hl hn row (stepN L s x) (fun y hy => hr y (List.mem_cons_of_mem _ hy)) a1
    rw [List.foldl_cons]
    refine ⟨b1, ?_, fun k v hk => b3 k v (a2 k v hk)⟩
    rw [b2]
    simp [stepN]; omega
section
variable {l : Int} {n : Nat} {m : Machine} (hm : Mok l n m) {L : List Int} (hL : Low L) (hl : L.length = n)
include hm hL hl
omit hm in
theorem low_in {x : Int} (x0 : 0 ≤ x) (x1 : x < n) : 0 ≤ atL L x ∧ atL L x < n := by
  have hx := hL x.toNat (by omega)
  rw [show ((x.toNat : Nat) : Int) = x from by omega] at hx
  omega
theorem i_row {names : List Int} (hN : Names n names) {row : List Int} (hr : ∀ x ∈ row, 0 ≤ x ∧ x < n) (hlen : row.length ≤ 4) : cntM (i_LeastOf_b2 L row) row.length 0 (names, []) = some (.inr (row.foldl (stepN L) (names, []))) := by
  obtain ⟨n0, n1⟩ := hm.hn
  refine (cnt_foldI (f := i_LeastOf_b2 L row) (stepN L) (fun j s => Names n s.1 ∧ s.2.length = j) (fun j x s hj ⟨h1, h2⟩ => ?_) ⟨hN, rfl⟩).1
  obtain ⟨x0, x1⟩ := hr x (List.mem_of_getElem? hj)
  obtain ⟨u0, u1⟩ := low_in hL hl x0 x1
  have hlt := (List.getElem?_eq_some_iff.1 hj).1
  have hlen := h1.len
  obtain ⟨a1, a2⟩ := h1.add u0 u1
  unfold i_LeastOf_b2
  rw [idx_nat, hj, Option.bind_some, atL_get x0 (by omega), Option.bind_some, index_place, Option.bind_some, place_lt]
  by_cases hu : atL L x ∈ s.1
  · simp only [hu, decide_true, Bool.not_true, cond_false, Option.bind_some]
    rw [app1 (by omega) rfl]
    refine ⟨?_, a1, by simp [stepN]; omega⟩
    simp [stepN, addN, hu]
  · simp only [hu, decide_false, Bool.not_false, cond_true, Option.bind_some]
    rw [app1 (by omega) rfl, Option.bind_some, Option.bind_some]
    dsimp only
    rw [app1 (by omega) rfl]
    refine ⟨?_, a1, by simp [stepN]; omega⟩
    simp [stepN, addN, hu, place_new hu]
end
end Go.Proofs.Ytfmkhnlnomkcfaa
