/- slices.Compare at []int64, walked. Filled by program: YtldlmopdhmaceaaGreatDoor the seat, Tryz its alias, 271 slices.Compare, 293 cmp.Compare, 284 cmp.isNaN. -/
import Derived.Test.YtldlmopdhmaceaaGreatDoorProg
import Derived.WalkKit
import Derived.Deep.LoopGhost
import Derived.Deep.Draws
import Derived.Lib.Small
import Derived.Lib.Walk
set_option linter.unusedVariables false
set_option linter.unusedSimpArgs false
namespace Go.Wk
def lexI : List Int → List Int → Int
 | [], [] => 0
 | [], _ :: _ => -1
 | _ :: _, [] => 1
 | x :: xs, y :: ys => if Go.Lib.compareInt x y = 0 then lexI xs ys else Go.Lib.compareInt x y
theorem lexI_drop {xs ys : List Int} {k : Nat} (hx : k < xs.length) (hy : k < ys.length) : lexI (xs.drop k) (ys.drop k) = if Go.Lib.compareInt xs[k]! ys[k]! = 0 then lexI (xs.drop (k + 1)) (ys.drop (k + 1)) else Go.Lib.compareInt xs[k]! ys[k]! := by
 rw [List.drop_eq_getElem_cons hx, List.drop_eq_getElem_cons hy, getElem!_pos xs k hx, getElem!_pos ys k hy, lexI]
def leI (x y : List Int) : Bool := decide (lexI x y ≤ 0)
-- the order of words
theorem cmpI_neg (x y : Int) : Go.Lib.compareInt y x = - Go.Lib.compareInt x y := by
 unfold Go.Lib.compareInt
 split <;> split <;> (try split) <;> (try split) <;> omega
theorem cmpI_lt {x y : Int} : Go.Lib.compareInt x y < 0 ↔ x < y := by
 unfold Go.Lib.compareInt
 split <;> (try split) <;> omega
theorem cmpI_eq {x y : Int} : Go.Lib.compareInt x y = 0 ↔ x = y := by
 unfold Go.Lib.compareInt
 split <;> (try split) <;> omega
theorem lexI_neg : ∀ xs ys : List Int, lexI ys xs = - lexI xs ys
 | [], [] => rfl
 | [], _ :: _ => rfl
 | _ :: _, [] => rfl
 | x :: xs, y :: ys => by
  have h := cmpI_neg x y
  have ih := lexI_neg xs ys
  simp only [lexI]
  by_cases e : Go.Lib.compareInt x y = 0
  · rw [if_pos e, if_pos (by omega), ih]
  · rw [if_neg e, if_neg (by omega), h]
theorem lexI_zero : ∀ {xs ys : List Int}, lexI xs ys = 0 ↔ xs = ys
 | [], [] => by simp [lexI]
 | [], _ :: _ => by simp [lexI]
 | _ :: _, [] => by simp [lexI]
 | x :: xs, y :: ys => by
  simp only [lexI, List.cons.injEq]
  by_cases e : Go.Lib.compareInt x y = 0
  · rw [if_pos e, lexI_zero]
    exact ⟨fun h => ⟨cmpI_eq.1 e, h⟩, fun h => h.2⟩
  · rw [if_neg e]
    exact ⟨fun h => absurd h e, fun h => absurd (cmpI_eq.2 h.1) e⟩
theorem lexI_trans : ∀ {xs ys zs : List Int}, lexI xs ys < 0 → lexI ys zs < 0 → lexI xs zs < 0
 | [], [], _, h, _ => by simp [lexI] at h
 | _ :: _, [], _, h, _ => by simp [lexI] at h
 | _, _ :: _, [], _, h => by simp [lexI] at h
 | [], _ :: _, _ :: _, _, _ => by simp [lexI]
 | x :: xs, y :: ys, z :: zs, h1, h2 => by
  simp only [lexI] at h1 h2 ⊢
  by_cases e1 : Go.Lib.compareInt x y = 0
  · rw [if_pos e1] at h1
    have e1' := cmpI_eq.1 e1
    subst e1'
    by_cases e2 : Go.Lib.compareInt x z = 0
    · rw [if_pos e2] at h2 ⊢
      exact lexI_trans h1 h2
    · rw [if_neg e2] at h2 ⊢
      exact h2
  · rw [if_neg e1] at h1
    have l1 := cmpI_lt.1 h1
    by_cases e2 : Go.Lib.compareInt y z = 0
    · have e2' := cmpI_eq.1 e2
      subst e2'
      rw [if_neg e1]; exact h1
    · rw [if_neg e2] at h2
      have l2 := cmpI_lt.1 h2
      have l3 : Go.Lib.compareInt x z < 0 := cmpI_lt.2 (by omega)
      rw [if_neg (by omega)]; exact l3
theorem leI_trans (x y z : List Int) (h1 : leI x y = true) (h2 : leI y z = true) : leI x z = true := by
 unfold leI at *
 simp only [decide_eq_true_eq] at *
 by_cases e1 : lexI x y = 0
 · rw [lexI_zero.1 e1]; exact h2
 · by_cases e2 : lexI y z = 0
   · rw [← lexI_zero.1 e2]; exact h1
   · have := lexI_trans (xs := x) (ys := y) (zs := z) (by omega) (by omega)
     omega
theorem leI_total (x y : List Int) : (leI x y || leI y x) = true := by
 unfold leI
 have := lexI_neg x y
 simp only [Bool.or_eq_true, decide_eq_true_eq]
 omega
theorem leI_anti {x y : List Int} (h1 : leI x y = true) (h2 : leI y x = true) : x = y := by
 unfold leI at *
 have := lexI_neg x y
 simp only [decide_eq_true_eq] at *
 exact lexI_zero.1 (by omega)
end Go.Wk
namespace Go.Proofs
open Go.Wk Go.RowKit Go.Lib
theorem Tryz.cmp_isNaN (x : Int) (w : World) : Calls Tryz.prog 284 #[.int .i64 x] w fun e w' => e = .returned (.bool false) ∧ w' = w := by
 go_enter Tryz.func284, Tryz.ntmps284
 go_wp2
 go_ret
 exact ⟨by simp, rfl⟩
set_option maxHeartbeats 1000000 in
theorem Tryz.cmp_Compare (x y : Int) (w : World) : Calls Tryz.prog 293 #[.int .i64 x, .int .i64 y] w fun e w' => e = .returned (.int .i64 (Lib.compareInt x y)) ∧ w' = w := by
 go_enter Tryz.func293, Tryz.ntmps293
 go_wp2_with (go_at_call 284; refine (Tryz.cmp_isNaN _ _).mono ?_; rintro e w' ⟨rfl, rfl⟩)
 all_goals (go_ret; refine ⟨?_, rfl⟩; unfold Lib.compareInt; (repeat' split) <;> first | rfl | (exfalso; omega))
set_option maxHeartbeats 2000000 in
set_option maxRecDepth 100000 in
theorem Tryz.slices_Compare (b1 o1 n c b2 o2 m d : Nat) (xs ys : List Int) (w : World) (hx : xs.length = n) (hy : ys.length = m) (hbig : n ≤ 9223372036854775807) (hbig2 : m ≤ 9223372036854775807) (hc1 : ∀ j, j < n → w.cell? ⟨b1, o1 + j, none⟩ = some (.int .i64 xs[j]!)) (hc2 : ∀ j, j < m → w.cell? ⟨b2, o2 + j, none⟩ = some (.int .i64 ys[j]!)) :
 Calls Tryz.prog 271 #[.slice (some ⟨b1, o1, none⟩) n c, .slice (some ⟨b2, o2, none⟩) m d] w fun e w' => e = .returned (.int .i64 (lexI xs ys)) ∧ w' = w := by
 go_enter Tryz.func271, Tryz.ntmps271
 go_wp2
 go_loopg [11] n (fun g s13 wr => ∃ k : Nat, k ≤ n ∧ k ≤ m ∧ n - k ≤ g ∧ s13 = .int .i64 k ∧ wr = w ∧ Aside (lexI (xs.drop k) (ys.drop k) = lexI xs ys))
 case atStart => exact ⟨0, Nat.zero_le _, Nat.zero_le _, by omega, rfl, rfl, rfl⟩
 case round =>
  obtain ⟨k, hk, hkm, hg, rfl, rfl, A⟩ := hrel
  by_cases hlt : k < n
  · by_cases hlm : k < m
    · have g1 := hc1 k hlt
      have g2 := hc2 k hlm
      have hd := lexI_drop (xs := xs) (ys := ys) (k := k) (by omega) (by omega)
      clear hc1 hc2
      generalize xs[k]! = x at g1 hd
      generalize ys[k]! = y at g2 hd
      have hB : Aside (lexI (xs.drop k) (ys.drop k) = if Lib.compareInt x y = 0 then lexI (xs.drop (k + 1)) (ys.drop (k + 1)) else Lib.compareInt x y) := hd
      clear hd
      have hcon := fun w => Tryz.cmp_Compare x y w
      generalize Lib.compareInt x y = r at hcon hB
      by_cases hr : r = 0
      · have A2 : Aside (lexI (xs.drop (k + 1)) (ys.drop (k + 1)) = lexI xs ys) := by
         show _ = _
         rw [← A.out, hB.out, if_pos hr]
        clear hB A
        subst hr
        go_wp2_with (go_at_call 293; refine (hcon _).mono ?_; rintro e w' ⟨rfl, rfl⟩)
        go_roundg (n - (k + 1))
        case measure => omega
        case rel => exact ⟨k + 1, by omega, by omega, by omega, by go_num, rfl, A2⟩
      · have A2 : Aside (r = lexI xs ys) := by
         show _ = _
         rw [← A.out, hB.out, if_neg hr]
        clear hB A
        have hrb : (r != 0) = true := by simpa using hr
        go_wp2_with (go_at_call 293; refine (hcon _).mono ?_; rintro e w' ⟨rfl, rfl⟩)
        go_ret
        exact ⟨by have h := A2.out; subst h; rfl, rfl⟩
    · have hge : m ≤ k := by omega
      have hgez : (m : Int) ≤ (k : Int) := by omega
      have A2 : Aside (1 = lexI xs ys) := by
       show _ = _
       rw [← A.out, List.drop_eq_getElem_cons (l := xs) (by omega), show ys.drop k = [] from List.drop_eq_nil_of_le (by omega)]
       rfl
      have g1 := hc1 k hlt
      clear hc1 hc2 A
      generalize xs[k]! = x at g1
      go_wp2
      go_ret
      exact ⟨by have h := A2.out; rw [← h]; rfl, rfl⟩
  · have : k = n := by omega
    subst this
    clear hc1 hc2
    by_cases hnm : k < m
    · have A2 : Aside (-1 = lexI xs ys) := by
       show _ = _
       rw [← A.out, List.drop_eq_getElem_cons (l := ys) (by omega), show xs.drop k = [] from List.drop_eq_nil_of_le (by omega)]
       rfl
      clear A
      go_wp2
      go_ret
      exact ⟨by have h := A2.out; rw [← h]; rfl, rfl⟩
    · have A2 : Aside (0 = lexI xs ys) := by
       show _ = _
       rw [← A.out, List.drop_eq_nil_of_le (by omega), List.drop_eq_nil_of_le (by omega)]
       rfl
      clear A
      go_wp2
      go_ret
      exact ⟨by have h := A2.out; rw [← h]; rfl, rfl⟩
end Go.Proofs
