/- FnMachineWords: the law. -/
import Derived.Test.YtnpmbkaoeihdmaaDoorMWordsW
import Derived.Test.YtnpmbkaoeihdmaaDoorDiceW
set_option linter.unusedVariables false
set_option linter.unusedSimpArgs false
namespace Go.Proofs.YtnpmbkaoeihdmaaDoor
open Go Go.Wk Go.Proofs

theorem FnMachineWords_law {p0 : List Int} (ok0 : okS U8 p0) : l_FnMachineWords p0 = some true := by
  unfold l_FnMachineWords l_big
  rw [Option.bind_some]
  by_cases hbig : 4096 < (p0.length : Int)
  · simp only [hbig, decide_true, cond_true]
  · simp only [hbig, decide_false, cond_false]
    have hb := ok0.1
    have hl : p0.length ≤ 4096 := by omega
    obtain ⟨h, hr⟩ := roll_ok p0 929
    rw [hr, Option.bind_some]
    obtain ⟨x, i1, h1, a1, a2, a3, a4, a5⟩ := below_ok (d := ⟨p0, 0, h⟩) hb hl (by show (0 : Int) ≤ 0; omega) (by show (0 : Int) ≤ 4096; omega) (k := 2) (by omega)
    rw [a1, Option.bind_some]
    dsimp only
    obtain ⟨y, i2, h2, b1, b2, b3, b4, b5⟩ := below_ok (d := ⟨p0, i1, h1⟩) hb hl a4 a5 (k := 2) (by omega)
    rw [b1, Option.bind_some, wr' (z := 1 + x) (by omega) (by omega), wr' (z := 1 + y) (by omega) (by omega)]
    dsimp only
    have hs : sigOk ⟨1 + x, 1 + y⟩ = true := by
      simp only [sigOk, Bool.and_eq_true, decide_eq_true_eq]
      omega
    obtain ⟨m, i3, h3, c1, c2, c3, c4⟩ := mach_ok hb hl hs (h := h2) b4 b5
    rw [c1, Option.bind_some]
    dsimp only
    obtain ⟨r, _, e2, e3⟩ := MachineText_eq ⟨1 + x, 1 + y⟩ m
    rw [hs, c2] at e3
    simp only [Bool.and_self, if_true] at e3
    subst e3
    rw [e2, Option.bind_some, read_text c2 hs, Option.bind_some]
    obtain ⟨ls, f1, f2⟩ := lines_text c2
    obtain ⟨z, g1⟩ := read_more c2
    have hcat : catB (ofL (textM m)) (ByteArray.mk #[48, 47, 48]) = some (ofL (textM m ++ [48, 47, 48])) := by
      have := text_len c2
      exact catB_ofL (b := [48, 47, 48]) (by simp only [List.length_cons, List.length_nil]; omega)
    obtain ⟨m1, m2, m3, m4, m5⟩ := machOk_spec c2
    have hn : ∀ n : Nat, ((n : Int) != (n : Int)) = false := fun n => by simp
    have f3 : ((ls.length : Int) != (m.Next.length : Int)) = false := by rw [f2]; exact hn _
    dsimp only
    simp only [Bool.not_true, cond_false, Option.bind_some, hn, f1, f3]
    rw [cnt_all0 (f := l_FnMachineWords_b0 (m, i3, h3) (m, true)) (r := false) (fun _ => true) (xs := m.Next) rfl (fun i row hrow => by
      have hi := (List.getElem?_eq_some_iff.1 hrow).1
      obtain ⟨o, ho⟩ : ∃ o, m.Out[i]? = some o := ⟨_, List.getElem?_eq_getElem (by omega)⟩
      unfold l_FnMachineWords_b0
      dsimp only
      rw [idx_nat, hrow, Option.bind_some, Option.bind_some, like_refl2, Option.bind_some]
      simp only [Bool.not_true, cond_false]
      rw [idx_nat, ho, Option.bind_some, Option.bind_some, like_refl2]
      rfl)]
    simp [aft, hcat, g1]
end Go.Proofs.YtnpmbkaoeihdmaaDoor
