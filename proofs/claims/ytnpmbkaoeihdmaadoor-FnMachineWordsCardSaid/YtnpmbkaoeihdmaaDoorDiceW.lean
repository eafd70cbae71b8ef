/- Throws: numbers and machines out of bytes. -/
import Derived.Test.YtnpmbkaoeihdmaaDoorMachW
set_option linter.unusedVariables false
set_option linter.unusedSimpArgs false
namespace Go.Proofs.YtnpmbkaoeihdmaaDoor
open Go Go.Wk Go.Proofs

theorem wr_u {z : Int} (h0 : 0 ≤ z) (h1 : z < 18446744073709551616) : IntKind.u64.wrap z = z := by
  simp [IntKind.wrap, IntKind.bits, IntKind.signed]
  omega
/-- a throw -/
theorem below_ok {d : dice} (hb : ∀ x ∈ d.b, U8 x) (hl : d.b.length ≤ 4096) (i0 : 0 ≤ d.i) (i1 : d.i ≤ 4096) {k : Int} (hk : 1 ≤ k) : ∃ x i h, l_dice_below d k = some (x, i, h) ∧ 0 ≤ x ∧ x < k ∧ 0 ≤ i ∧ i ≤ 4096 := by
  unfold l_dice_below
  have hnz : nz k = some () := by unfold nz; rw [if_neg (by omega)]
  generalize hA : (BitVec.ofInt (IntKind.bits IntKind.u64) (Int.fdiv (IntKind.u64.wrap (IntKind.u64.wrap (d.h * 6364136223846793005) + 1442695040888963407)) (2 ^ (min (Int.toNat 33) (IntKind.bits IntKind.u64))))) = A
  have hy : (BitVec.toNat (A &&& BitVec.ofInt (IntKind.bits IntKind.u64) 16777215)) ≤ 16777215 := by
    rw [BitVec.toNat_and]
    refine Nat.le_trans Nat.and_le_right ?_
    decide
  generalize (BitVec.toNat (A &&& BitVec.ofInt (IntKind.bits IntKind.u64) 16777215)) = y at hy
  rw [wr_u (by omega) (by omega), wr' (z := (y : Int)) (by omega) (by omega)]
  by_cases hlt : d.i < (d.b.length : Int)
  · obtain ⟨x, hx, hm⟩ := get_el (xs := d.b) i0 hlt
    have hx8 := hb x hm
    unfold U8 at hx8
    simp only [hlt, decide_true, cond_true, hx, Option.bind_some, hnz]
    rw [wr' (z := x) (by omega) (by omega), wr' (z := (y : Int) + x) (by omega) (by omega), wr' (by omega) (by omega), Int.tmod_eq_emod_of_nonneg (by omega)]
    exact ⟨_, _, _, rfl, Int.emod_nonneg _ (by omega), Int.emod_lt_of_pos _ (by omega), by omega, by omega⟩
  · simp only [hlt, decide_false, cond_false, Option.bind_some, hnz]
    rw [Int.tmod_eq_emod_of_nonneg (by omega)]
    exact ⟨_, _, _, rfl, Int.emod_nonneg _ (by omega), Int.emod_lt_of_pos _ (by omega), by omega, by omega⟩
theorem roll_ok (b : List Int) (k : Int) : ∃ h, l_roll b k = some ⟨b, 0, h⟩ := by
  unfold l_roll
  obtain ⟨s, h1, _⟩ := cnt_inv (f := l_roll_b0 b) (fun _ _ => True) b.length (s := (IntKind.u64.wrap ((IntKind.u64.wrap (k * 7919)) + (IntKind.u64.wrap (b.length : Int))))) trivial (fun j s hj _ => by
    have hx : b[j]? = some b[j] := by simp [hj]
    unfold l_roll_b0
    rw [idx_nat, hx]
    exact ⟨_, rfl, trivial⟩)
  rw [h1]
  exact ⟨s, rfl⟩
theorem machOk_of {p : Sig} {m : Machine} (h1 : 1 ≤ m.Next.length) (h2 : m.Next.length ≤ 48) (h3 : m.Out.length = m.Next.length) (h4 : ∀ row ∈ m.Next, RowIn m.Next.length (pw p.In) row) (h5 : ∀ row ∈ m.Out, RowIn (pw p.Out) (pw p.In) row) : machOk p m = true := by
  unfold machOk
  rw [h3]
  simp only [Bool.and_eq_true, decide_eq_true_eq, beq_self_eq_true, and_true, List.all_eq_true]
  refine ⟨by omega, fun x hx => ?_⟩
  obtain ⟨row, i⟩ := x
  rw [List.mem_zipIdx_iff_getElem?] at hx
  have hx : m.Next[i]? = some row := hx
  have hlt := (List.getElem?_eq_some_iff.1 hx).1
  have ho : m.Out[i]? = some (m.Out[i]'(by omega)) := List.getElem?_eq_getElem (by omega)
  have hom := h5 _ (List.getElem_mem (by omega : i < m.Out.length))
  obtain ⟨a1, a2⟩ := h4 row (List.mem_of_getElem? hx)
  unfold rowOk
  rw [ho]
  simp only [Bool.and_eq_true, beq_iff_eq, List.all_eq_true, inR_iff]
  exact ⟨⟨⟨a1, by rw [a1]; exact hom.1⟩, a2⟩, hom.2⟩
section
variable {b : List Int} (hb : ∀ x ∈ b, U8 x) (hl : b.length ≤ 4096)
include hb hl
/-- a machine that is thrown -/
theorem mach_ok {p : Sig} (hs : sigOk p = true) {i h : Int} (i0 : 0 ≤ i) (i1 : i ≤ 4096) : ∃ m i' h', l_w9Machine ⟨b, i, h⟩ p 6 = some (m, i', h') ∧ machOk p m = true ∧ 0 ≤ i' ∧ i' ≤ 4096 := by
  obtain ⟨x, i2, h2, a1, a2, a3, a4, a5⟩ := below_ok (d := ⟨b, i, h⟩) hb hl i0 i1 (k := 6) (by omega)
  obtain ⟨hi, ho⟩ := sigOk_in hs
  have q1 : (bif (p.In == 2) then some (4 : Int) else some 2) = some (pw p.In) := by rcases hi with e | e <;> rw [e] <;> decide
  have q2 : (bif (p.Out == 2) then some (4 : Int) else some 2) = some (pw p.Out) := by rcases ho with e | e <;> rw [e] <;> decide
  have pI := pw_le p.In
  have pO := pw_le p.Out
  obtain ⟨w, hw⟩ := ex_nat (z := pw p.In) (by omega)
  obtain ⟨n, hn⟩ := ex_nat (z := 1 + x) (by omega)
  have hx1 : IntKind.i64.wrap (1 + x) = (n : Int) := by rw [wr' (by omega) (by omega)]; exact hn
  unfold l_w9Machine
  rw [a1, Option.bind_some, q1, Option.bind_some, q2, Option.bind_some]
  dsimp only
  have hr1 : rng (n : Int) = some () := by unfold rng; rw [if_pos (by omega)]
  have hr2 : rng (w : Int) = some () := by unfold rng; rw [if_pos (by omega)]
  rw [hx1, hr1, Option.bind_some, Int.sub_zero, Int.toNat_natCast, hw]
  obtain ⟨s, k1, k2, k3, k4, k5, k6, k7⟩ := cnt_inv (f := l_w9Machine_b0 ⟨b, i, h⟩ (x, i2, h2) (w : Int) (pw p.Out)) (fun j (s : Int × Int × List (List Int) × List (List Int)) => 0 ≤ s.1 ∧ s.1 ≤ 4096 ∧ s.2.2.1.length = j ∧ s.2.2.2.length = j ∧ (∀ row ∈ s.2.2.1, RowIn n w row) ∧ ∀ row ∈ s.2.2.2, RowIn (pw p.Out) w row) n (s := (i2, h2, [], [])) ⟨a4, a5, rfl, rfl, by simp, by simp⟩ (fun j s hj ⟨c1, c2, c3, c4, c5, c6⟩ => by
    obtain ⟨t, e1, e2, e3, e4, e5, e6, e7⟩ := cnt_inv (f := l_w9Machine_b2 ⟨b, i, h⟩ (x, i2, h2) (pw p.Out)) (fun j (t : List Int × List Int × Int × Int) => 0 ≤ t.2.2.1 ∧ t.2.2.1 ≤ 4096 ∧ t.1.length = j ∧ t.2.1.length = j ∧ (∀ y ∈ t.1, 0 ≤ y ∧ y < n) ∧ ∀ y ∈ t.2.1, 0 ≤ y ∧ y < pw p.Out) w (s := ([], [], s.1, s.2.1)) ⟨c1, c2, rfl, rfl, by simp, by simp⟩ (fun j t hj ⟨f1, f2, f3, f4, f5, f6⟩ => by
      obtain ⟨y, i3, h3, g1, g2, g3, g4, g5⟩ := below_ok (d := ⟨b, t.2.2.1, t.2.2.2⟩) hb hl f1 f2 (k := (n : Int)) (by omega)
      obtain ⟨z, i4, h4, m1, m2, m3, m4, m5⟩ := below_ok (d := ⟨b, i3, h3⟩) hb hl g4 g5 (k := pw p.Out) (by omega)
      unfold l_w9Machine_b2
      dsimp only
      rw [hx1, g1, Option.bind_some, app1 (by omega) rfl, Option.bind_some, m1, Option.bind_some, app1 (by omega) rfl]
      refine ⟨_, rfl, m4, m5, by dsimp only; rw [List.length_append, f3]; rfl, by dsimp only; rw [List.length_append, f4]; rfl, fun v hv => ?_, fun v hv => ?_⟩
      · dsimp only at hv
        rw [List.mem_append, List.mem_singleton] at hv
        rcases hv with hv | rfl
        · exact f5 v hv
        · exact ⟨g2, g3⟩
      · dsimp only at hv
        rw [List.mem_append, List.mem_singleton] at hv
        rcases hv with hv | rfl
        · exact f6 v hv
        · exact ⟨m2, m3⟩)
    unfold l_w9Machine_b0
    rw [hr2, Option.bind_some, Int.sub_zero, Int.toNat_natCast, e1, Option.bind_some, aft_inr, app1 (by omega) rfl, Option.bind_some, app1 (by omega) rfl]
    refine ⟨_, rfl, e2, e3, by dsimp only; rw [List.length_append, c3]; rfl, by dsimp only; rw [List.length_append, c4]; rfl, fun v hv => ?_, fun v hv => ?_⟩
    · dsimp only at hv
      rw [List.mem_append, List.mem_singleton] at hv
      rcases hv with hv | rfl
      · exact c5 v hv
      · exact ⟨by omega, e6⟩
    · dsimp only at hv
      rw [List.mem_append, List.mem_singleton] at hv
      rcases hv with hv | rfl
      · exact c6 v hv
      · exact ⟨by omega, e7⟩)
  rw [k1]
  refine ⟨⟨s.2.2.1, s.2.2.2⟩, s.1, s.2.1, rfl, machOk_of (by dsimp only; omega) (by dsimp only; omega) (by dsimp only; omega) (by dsimp only; rw [k4, hw]; exact k6) (by dsimp only; rw [hw]; exact k7), k2, k3⟩
end
theorem like_refl2 (x : List Int) : l_likeInts x x = some true := by
  unfold l_likeInts
  have hm := cnt_all0 (f := l_likeInts_b0 x x) (r := false) (fun _ => true) (xs := x) rfl (fun i y hy => by
    unfold l_likeInts_b0
    simp [idx_nat, hy])
  simp [hm, aft]
end Go.Proofs.YtnpmbkaoeihdmaaDoor
