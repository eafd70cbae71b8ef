/- The machine of the states' kinds. -/
import Derived.Test.YtfmkhnlnomkcfaaLeastNC12
import Derived.Test.YtfmkhnlnomkcfaaPlaceSC12
import Derived.Test.YtfmkhnlnomkcfaaCoarseC12
set_option linter.unusedVariables false
set_option linter.unusedSimpArgs false
namespace Go.Proofs.Ytfmkhnlnomkcfaa
open Go Go.Wk Go.Proofs

def upto (n : Nat) : List Int := (List.range n).map fun i : Nat => (i : Int)
theorem upto_len (n : Nat) : (upto n).length = n := by simp [upto]
theorem upto_succ (n : Nat) : upto (n + 1) = upto n ++ [(n : Int)] := by simp [upto, List.range_succ]
theorem upto_get {n i : Nat} (h : i < n) : (upto n)[i]? = some (i : Int) := by
  unfold upto
  rw [List.getElem?_map, List.getElem?_range h]; rfl
theorem upto_mem {n : Nat} {z : Int} : z ∈ upto n ↔ 0 ≤ z ∧ z < n := by
  unfold upto
  rw [List.mem_map]
  constructor
  · rintro ⟨i, hi, rfl⟩
    rw [List.mem_range] at hi
    omega
  · rintro ⟨h0, h1⟩
    exact ⟨z.toNat, by rw [List.mem_range]; omega, by omega⟩
/-- a row that goes on as another -/
def Ext (A B : List Int) : Prop := ∀ (k : Nat) v, A[k]? = some v → B[k]? = some v
theorem Ext.trans {A B C : List Int} (h1 : Ext A B) (h2 : Ext B C) : Ext A C := fun k v h => h2 k v (h1 k v h)
theorem nodup_inj {N : List Int} (h : N.Nodup) {i j : Nat} {u : Int} (hi : N[i]? = some u) (hj : N[j]? = some u) : i = j := by
  have h1 := (List.getElem?_eq_some_iff.1 hi)
  have h2 := (List.getElem?_eq_some_iff.1 hj)
  obtain ⟨a1, a2⟩ := h1
  obtain ⟨b1, b2⟩ := h2
  exact (List.getElem_inj h).1 (by rw [a2, b2])
theorem place_nodup {N : List Int} (h : N.Nodup) {i : Nat} {u : Int} (hi : N[i]? = some u) : placeOf N u = (i : Int) :=
  place_first hi fun j hj e => by have := nodup_inj h hi e; omega
theorem add_mem (A : List Int) (u : Int) : u ∈ addN A u := by
  unfold addN
  split
  · assumption
  · simp
section
variable {l : Int} {n : Nat} {m : Machine} (hm : Mok l n m) {L : List Int} (hL : Low L) (hl : L.length = n)
include hm hL hl
theorem fold_ext {row : List Int} (hr : ∀ x ∈ row, 0 ≤ x ∧ x < n) {s : List Int × List Int} (hs : Names n s.1) : Names n (row.foldl (stepN L) s).1 ∧ Ext s.1 (row.foldl (stepN L) s).1 := by
  obtain ⟨h1, _, h3⟩ := fold_names hL hl hm.hn.2 row s hr hs
  exact ⟨h1, h3⟩
theorem fold_map {N : List Int} (hN : N.Nodup) : ∀ (row : List Int) (s : List Int × List Int), (∀ x ∈ row, 0 ≤ x ∧ x < n) → Names n s.1 → Ext (row.foldl (stepN L) s).1 N →
    (row.foldl (stepN L) s).2 = s.2 ++ row.map (fun x => placeOf N (atL L x)) ∧ (∀ x ∈ row, atL L x ∈ N)
  | [], s, _, _, _ => by simp
  | x :: row, s, hr, hs, he => by
    obtain ⟨x0, x1⟩ := hr x (List.mem_cons_self ..)
    obtain ⟨u0, u1⟩ := low_in hL hl x0 x1
    obtain ⟨a1, a2⟩ := hs.add u0 u1
    have hr' : ∀ y ∈ row, 0 ≤ y ∧ y < n := fun y hy => hr y (List.mem_cons_of_mem _ hy)
    rw [List.foldl_cons] at he ⊢
    obtain ⟨b1, b2⟩ := fold_ext hm hL hl hr' (s := stepN L s x) a1
    obtain ⟨c1, c2⟩ := fold_map hN row (stepN L s x) hr' a1 he
    obtain ⟨i, hi⟩ := List.mem_iff_getElem?.1 (add_mem s.1 (atL L x))
    have hNi := he i _ (b2 i _ hi)
    have hp : placeOf (addN s.1 (atL L x)) (atL L x) = placeOf N (atL L x) := by rw [place_nodup a1.1 hi, place_nodup hN hNi]
    refine ⟨?_, fun y hy => ?_⟩
    · rw [c1]
      simp [stepN, hp]
    · rcases List.mem_cons.1 hy with rfl | hy
      · exact List.mem_of_getElem? hNi
      · exact c2 y hy
/-- a round -/
abbrev RSt := List Int × Int × List (List Int) × List (List Int)
def rowN (m : Machine) (s : RSt) : List Int := m.Next.getD (s.1.getD s.2.1.toNat 0).toNat []
def roundL (m : Machine) (L : List Int) (s : RSt) : RSt :=
  (((rowN m s).foldl (stepN L) (s.1, [])).1, s.2.1 + 1, s.2.2.1 ++ [((rowN m s).foldl (stepN L) (s.1, [])).2], s.2.2.2 ++ [m.Out.getD (s.1.getD s.2.1.toNat 0).toNat []])
def red (m : Machine) (L : List Int) : Nat → RSt
  | 0 => ([0], 0, [], [])
  | k + 1 => roundL m L (red m L k)
/-- what holds after some rounds -/
structure RI (n : Nat) (m : Machine) (L : List Int) (k : Nat) : Prop where
  names : Names n (red m L k).1
  rep : ∀ v ∈ (red m L k).1, atL L v = v
  at_ : (red m L k).2.1 = (k : Int)
  zero : (red m L k).1[0]? = some 0
  lx : (red m L k).2.2.1.length = k
  lo : (red m L k).2.2.2.length = k
  rows : ∀ N : List Int, N.Nodup → Ext (red m L k).1 N → ∀ (j : Nat) v, j < k → (red m L k).1[j]? = some v → (red m L k).2.2.1[j]? = some ((m.Next.getD v.toNat []).map (fun x => placeOf N (atL L x))) ∧ (red m L k).2.2.2[j]? = some (m.Out.getD v.toNat []) ∧ ∀ x ∈ m.Next.getD v.toNat [], atL L x ∈ N
variable (hfix : ∀ q : Nat, q < n → atL L (atL L q) = atL L q)
include hfix
omit hfix in
theorem ri0 : RI n m L 0 := by
  obtain ⟨n0, n1⟩ := hm.hn
  have h0 := hL 0 (by omega)
  have hn : Names n (red m L 0).1 := by
    refine ⟨by show [(0 : Int)].Nodup; simp, fun x hx => ?_⟩
    have : x = 0 := by simpa [red] using hx
    omega
  refine ⟨hn, fun v hv => ?_, rfl, rfl, rfl, rfl, fun N _ _ j v hj => absurd hj (Nat.not_lt_zero j)⟩
  have : v = 0 := by simpa [red] using hv
  subst this
  have h0' := h0.1
  have h0'' := h0.2
  simp only [Int.natCast_zero] at h0' h0''
  omega
omit hm hL hl hfix in
theorem row_at {k : Nat} (h : RI n m L k) {q : Int} (hq : (red m L k).1[k]? = some q) : 0 ≤ q ∧ q < n ∧ rowN m (red m L k) = m.Next.getD q.toNat [] ∧ (red m L k).1.getD (red m L k).2.1.toNat 0 = q := by
  obtain ⟨q0, q1⟩ := h.names.2 q (List.mem_of_getElem? hq)
  have e : (red m L k).1.getD (red m L k).2.1.toNat 0 = q := by
    rw [h.at_, Int.toNat_natCast, List.getD_eq_getElem?_getD, hq]; rfl
  exact ⟨q0, q1, by unfold rowN; rw [e], e⟩
theorem ri_step {k : Nat} (h : RI n m L k) (hk : k < (red m L k).1.length) : RI n m L (k + 1) ∧ Ext (red m L k).1 (red m L (k + 1)).1 := by
  have hq : (red m L k).1[k]? = some ((red m L k).1[k]'hk) := List.getElem?_eq_getElem hk
  generalize (red m L k).1[k]'hk = q at hq
  obtain ⟨q0, q1, e1, e2⟩ := row_at h hq
  obtain ⟨row, r1, r2, r3, r4⟩ := hm.nx q.toNat (by omega)
  have hrow : ∀ x ∈ rowN m (red m L k), 0 ≤ x ∧ x < n := by rw [e1, r2]; exact r4
  obtain ⟨a1, a2⟩ := fold_ext hm hL hl hrow (s := ((red m L k).1, [])) h.names
  have a2 : Ext (red m L k).1 (red m L (k + 1)).1 := a2
  refine ⟨⟨a1, fun v hv => ?_, ?_, a2 0 _ h.zero, ?_, ?_, ?_⟩, a2⟩
  · -- a new name is a kind
    have key : ∀ (row : List Int) (s : List Int × List Int), (∀ x ∈ row, 0 ≤ x ∧ x < n) → (∀ v ∈ s.1, atL L v = v) → ∀ v ∈ (row.foldl (stepN L) s).1, atL L v = v := fun row => by
      induction row with
      | nil => intro s _ h; exact h
      | cons x row ih =>
        intro s hr h
        refine ih (stepN L s x) (fun y hy => hr y (List.mem_cons_of_mem _ hy)) fun v hv => ?_
        have hv : v ∈ addN s.1 (atL L x) := hv
        unfold addN at hv
        split at hv
        · exact h v hv
        · rw [List.mem_append, List.mem_singleton] at hv
          rcases hv with hv | rfl
          · exact h v hv
          · obtain ⟨x0, x1⟩ := hr x (List.mem_cons_self ..)
            have := hfix x.toNat (by omega)
            rw [show ((x.toNat : Nat) : Int) = x from by omega] at this
            exact this
    exact key _ _ hrow h.rep v hv
  · show (red m L k).2.1 + 1 = _
    rw [h.at_]; omega
  · show ((red m L k).2.2.1 ++ [_]).length = _
    rw [List.length_append, h.lx]; rfl
  · show ((red m L k).2.2.2 ++ [_]).length = _
    rw [List.length_append, h.lo]; rfl
  · intro N hN he j v hj hv
    have he' : Ext ((rowN m (red m L k)).foldl (stepN L) ((red m L k).1, [])).1 N := he
    obtain ⟨f1, f2⟩ := fold_map hm hL hl hN (rowN m (red m L k)) ((red m L k).1, []) hrow h.names he'
    by_cases hjk : j < k
    · have hv' : (red m L k).1[j]? = some v := by
        have hlt : j < (red m L k).1.length := by omega
        have e := List.getElem?_eq_getElem hlt
        rw [e, ← a2 j _ e, hv]
      obtain ⟨b1, b2, b3⟩ := h.rows N hN (Ext.trans a2 he) j v hjk hv'
      refine ⟨?_, ?_, b3⟩
      · show ((red m L k).2.2.1 ++ [_])[j]? = _
        rw [List.getElem?_append_left (by rw [h.lx]; exact hjk)]; exact b1
      · show ((red m L k).2.2.2 ++ [_])[j]? = _
        rw [List.getElem?_append_left (by rw [h.lo]; exact hjk)]; exact b2
    · have hjk : j = k := by omega
      subst hjk
      have hvq : v = q := by
        have := a2 j q hq
        rw [hv] at this
        exact Option.some.inj this
      subst hvq
      rw [e1] at f1 f2
      refine ⟨?_, ?_, f2⟩
      · show ((red m L j).2.2.1 ++ [((rowN m (red m L j)).foldl (stepN L) ((red m L j).1, [])).2])[j]? = _
        rw [List.getElem?_append_right (by rw [h.lx]; exact Nat.le_refl _), h.lx, Nat.sub_self, e1, f1]
        simp
      · show ((red m L j).2.2.2 ++ [_])[j]? = _
        rw [List.getElem?_append_right (by rw [h.lo]; exact Nat.le_refl _), h.lo, Nat.sub_self, e2]
        rfl
/-- the rounds come to an end -/
theorem red_end : ∃ T : Nat, (∀ k, k ≤ T → RI n m L k) ∧ (∀ k, k < T → k < (red m L k).1.length) ∧ (red m L T).1.length = T ∧ ∀ k, k ≤ T → Ext (red m L k).1 (red m L T).1 := by
  have go : ∀ (d k : Nat), n + 1 - k ≤ d → RI n m L k → k ≤ (red m L k).1.length → ∃ T : Nat, k ≤ T ∧ (∀ j, k ≤ j → j ≤ T → RI n m L j) ∧ (∀ j, k ≤ j → j < T → j < (red m L j).1.length) ∧ (red m L T).1.length = T ∧ ∀ j, k ≤ j → j ≤ T → Ext (red m L j).1 (red m L T).1 := by
    intro d
    induction d with
    | zero => intro k hd h hk; have := h.names.len; omega
    | succ d ih =>
      intro k hd h hk
      by_cases he : k < (red m L k).1.length
      · obtain ⟨s1, s2⟩ := ri_step hm hL hl hfix h he
        have hlen : k + 1 ≤ (red m L (k + 1)).1.length := by
          have e := List.getElem?_eq_getElem he
          have := (List.getElem?_eq_some_iff.1 (s2 k _ e)).1
          omega
        obtain ⟨T, t1, t2, t3, t4, t5⟩ := ih (k + 1) (by omega) s1 hlen
        refine ⟨T, by omega, fun j j1 j2 => ?_, fun j j1 j2 => ?_, t4, fun j j1 j2 => ?_⟩
        · by_cases e : j = k
          · rw [e]; exact h
          · exact t2 j (by omega) j2
        · by_cases e : j = k
          · rw [e]; exact he
          · exact t3 j (by omega) j2
        · by_cases e : j = k
          · rw [e]; exact Ext.trans s2 (t5 (k + 1) (Nat.le_refl _) t1)
          · exact t5 j (by omega) j2
      · refine ⟨k, Nat.le_refl _, fun j j1 j2 => ?_, fun j j1 j2 => by omega, by omega, fun j j1 j2 => ?_⟩
        · rw [show j = k from by omega]; exact h
        · rw [show j = k from by omega]; exact fun _ _ h => h
  obtain ⟨T, _, t2, t3, t4, t5⟩ := go (n + 1) 0 (by omega) (ri0 hm hL hl) (Nat.zero_le _)
  exact ⟨T, fun k hk => t2 k (Nat.zero_le _) hk, fun k hk => t3 k (Nat.zero_le _) hk, t4, fun k hk => t5 k (Nat.zero_le _) hk⟩
end
end Go.Proofs.Ytfmkhnlnomkcfaa
