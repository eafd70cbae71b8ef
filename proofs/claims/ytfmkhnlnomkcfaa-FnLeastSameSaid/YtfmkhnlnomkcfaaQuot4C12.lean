/- In the machine of the kinds no two states are alike. -/
import Derived.Test.YtfmkhnlnomkcfaaQuot3C12
set_option linter.unusedVariables false
set_option linter.unusedSimpArgs false
namespace Go.Proofs.Ytfmkhnlnomkcfaa
open Go Go.Wk Go.Proofs

section
variable {p : Sig} {m : Machine} (hmo : machOk p m = true) {L : List Int} (hL : Low L) (hl : L.length = m.Next.length) (hf : part1 m L = L) {N : List Int} {r : Machine} (hK : Kinds m.Next.length m L N r)
  (hC : ∀ E, Stable m m.Next.length E → ∀ a b, a < m.Next.length → b < m.Next.length → E a b → atL L a = atL L b)
include hmo hL hl hf hK hC
omit hL in
theorem alike_ident : s_l29Alike r = some (upto N.length) := by
  obtain ⟨n1, n2, n3, n4, n5⟩ := machOk_spec hmo
  have pI := pw_le p.In
  have hro := kinds_ok hmo hK
  have hrn := hK.nx
  obtain ⟨L', h1, _, h3, h4, h5, _⟩ := alike_full (Mok.of hro)
  rw [hrn] at h4
  have rowD : ∀ {t : List (List Int)} {q : Int} {row : List Int}, 0 ≤ q → idx t q = some row → t.getD q.toNat [] = row := fun q0 h => by
    rw [idx_int q0] at h
    rw [List.getD_eq_getElem?_getD, h]; rfl
  have hSt : Stable m m.Next.length (fun a b => a = b ∨ ∃ i j : Nat, N[i]? = some (atL L a) ∧ N[j]? = some (atL L b) ∧ atL L' i = atL L' j) := by
    intro a b ha hb hE
    rcases hE with rfl | ⟨i, j, hi, hj, he⟩
    · exact ⟨rfl, fun t x y hx hy => by rw [hx] at hy; cases hy; exact .inl rfl⟩
    · have hil := (List.getElem?_eq_some_iff.1 hi).1
      have hjl := (List.getElem?_eq_some_iff.1 hj).1
      have Ra : Rel m.Next.length L N i (a : Int) := ⟨by omega, by omega, hi⟩
      have Rb : Rel m.Next.length L N j (b : Int) := ⟨by omega, by omega, hj⟩
      obtain ⟨p1, e1, _, k1⟩ := fixed_near h5 (by omega : i < L'.length)
      obtain ⟨p2, e2, _, k2⟩ := fixed_near h5 (by omega : j < L'.length)
      have : p1 = p2 := by omega
      subst this
      simp only [near, Bool.and_eq_true, decide_eq_true_eq] at k1 k2
      obtain ⟨_, ka, kb⟩ := k1
      obtain ⟨_, kc, kd⟩ := k2
      have hout : r.Out.getD i [] = r.Out.getD j [] := ka.symm.trans kc
      have hnext : (r.Next.getD i []).map (atL L') = (r.Next.getD j []).map (atL L') := kb.symm.trans kd
      obtain ⟨_, _, o1, _, _, a2, a3, _⟩ := rel_row hmo hl hf hK Ra (x := 0) (by omega) (by omega)
      obtain ⟨_, _, o2, _, _, b2, b3, _⟩ := rel_row hmo hl hf hK Rb (x := 0) (by omega) (by omega)
      have g1 := rowD (by omega) a2
      have g2 := rowD (by omega) b2
      have g3 := rowD (by omega) a3
      have g4 := rowD (by omega) b3
      rw [Int.toNat_natCast] at g1 g2 g3 g4
      refine ⟨by rw [g3, g4, ← g1, ← g2, hout], fun t x y hx hy => ?_⟩
      have htl : (t : Int) < pw p.In := by
        have ha' : m.Next.getD a [] = m.Next[a] := by simp [ha]
        rw [ha'] at hx
        have := (n4 _ (List.getElem_mem ha)).1
        have := (List.getElem?_eq_some_iff.1 hx).1
        omega
      obtain ⟨ra, ma, _, i', c1, _, _, c4, c5, c6, _, ⟨c8, c9, c10⟩, _⟩ := rel_row hmo hl hf hK Ra (x := (t : Int)) (by omega) htl
      obtain ⟨rb, mb, _, j', d1, _, _, d4, d5, d6, _, ⟨d8, d9, d10⟩, _⟩ := rel_row hmo hl hf hK Rb (x := (t : Int)) (by omega) htl
      have f1 := rowD (by omega) c1
      have f2 := rowD (by omega) d1
      have f3 := rowD (by omega) c4
      have f4 := rowD (by omega) d4
      rw [Int.toNat_natCast] at f1 f2 f3 f4
      rw [f3] at hx
      rw [f4] at hy
      rw [idx_nat] at c5 c6 d5 d6
      rw [hx] at c6
      rw [hy] at d6
      have c6 := Option.some.inj c6
      have d6 := Option.some.inj d6
      refine .inr ⟨i', j', ?_, ?_, ?_⟩
      · rw [show ((x.toNat : Nat) : Int) = tab m.Next a t from by omega]; exact c10
      · rw [show ((y.toNat : Nat) : Int) = tab m.Next b t from by omega]; exact d10
      · rw [f1, f2] at hnext
        have := congrArg (fun z => z[t]?) hnext
        simp only [List.getElem?_map, c5, d5, Option.map_some, Option.some.injEq] at this
        exact this
  have hinj : ∀ i j : Nat, i < N.length → j < N.length → atL L' i = atL L' j → i = j := fun i j hi hj he => by
    have ei : N[i]? = some N[i] := List.getElem?_eq_getElem hi
    have ej : N[j]? = some N[j] := List.getElem?_eq_getElem hj
    have ri := hK.rep _ (List.getElem_mem hi)
    have rj := hK.rep _ (List.getElem_mem hj)
    obtain ⟨u0, u1⟩ := hK.names.2 _ (List.getElem_mem hi)
    obtain ⟨v0, v1⟩ := hK.names.2 _ (List.getElem_mem hj)
    generalize N[i] = u at *
    generalize N[j] = v at *
    have cu : ((u.toNat : Nat) : Int) = u := by omega
    have cv : ((v.toNat : Nat) : Int) = v := by omega
    have := hC _ hSt u.toNat v.toNat (by omega) (by omega) (.inr ⟨i, j, by rw [cu, ri]; exact ei, by rw [cv, rj]; exact ej, he⟩)
    rw [cu, cv, ri, rj] at this
    rw [this] at ei
    exact nodup_inj hK.names.1 ei ej
  have hid : ∀ i : Nat, i < N.length → atL L' i = (i : Int) := fun i hi => by
    obtain ⟨p1, e1, le, k1⟩ := fixed_near h5 (by omega : i < L'.length)
    have := hinj p1 i (by omega) hi (near_out k1).1
    rw [e1, this]
  rw [h1]
  congr 1
  apply List.ext_getElem?
  intro i
  by_cases hi : i < N.length
  · have e := List.getElem?_eq_getElem (by omega : i < L'.length)
    have := atL_eq e
    rw [hid i hi] at this
    rw [e, ← this, upto_get hi]
  · rw [List.getElem?_eq_none (by omega), List.getElem?_eq_none (by rw [upto_len]; omega)]
end
end Go.Proofs.Ytfmkhnlnomkcfaa
