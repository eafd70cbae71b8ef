/- Attractors as they are computed: a queue, and counts of what is left. Plain law. -/
import Derived.Test.YtndiklipffipcaaParT
import Derived.Test.YtndiklipffipcaaSimT
set_option linter.unusedVariables false
set_option linter.unusedSimpArgs false
namespace Go.Proofs.Ytndiklipffipcaa
open Go Go.Wk Go.Proofs

theorem idx_setI {α : Type} {xs ys : List α} {i v : Int} {x : α} (h : setI xs i x = some ys) : idx ys v = if v = i then some x else idx xs v := by
  obtain ⟨h0, h1, rfl, _⟩ := setI_ok h
  unfold idx
  by_cases hv : 0 ≤ v
  · rw [if_pos hv, if_pos hv]
    by_cases e : v = i
    · subst e
      rw [if_pos rfl, List.getElem?_set_self (by omega)]
    · rw [if_neg e, List.getElem?_set_ne (by omega)]
  · rw [if_neg hv, if_neg hv, if_neg (by omega)]
theorem setI_some {α : Type} {xs : List α} {i : Int} (x : α) (h0 : 0 ≤ i) (h1 : i < xs.length) : ∃ ys, setI xs i x = some ys ∧ ys.length = xs.length := by
  have : setI xs i x = some (xs.set i.toNat x) := by unfold setI; rw [if_pos ⟨h0, h1⟩]
  exact ⟨_, this, (setI_ok this).2.2.2⟩
theorem idx_some {α : Type} {xs : List α} {i : Int} (h0 : 0 ≤ i) (h1 : i < xs.length) : ∃ x, idx xs i = some x := by
  obtain ⟨x, h, _⟩ := get_el h0 h1
  exact ⟨x, h⟩
theorem idx_rng {α : Type} {xs : List α} {i : Int} {x : α} (h : idx xs i = some x) : 0 ≤ i ∧ i < xs.length := ⟨(idx_ok h).1, (idx_ok h).2.1⟩
/-- the place of an element -/
def posL (v : Int) : List Int → Nat
  | [] => 0
  | x :: xs => if x = v then 0 else posL v xs + 1
theorem posL_get {v : Int} : ∀ {Q : List Int}, v ∈ Q → Q[posL v Q]? = some v
  | x :: xs, h => by
    unfold posL
    by_cases e : x = v
    · rw [if_pos e, e]; rfl
    · rw [if_neg e]
      rcases List.mem_cons.1 h with h | h
      · exact absurd h.symm e
      · simpa using posL_get h
theorem posL_le {v : Int} : ∀ {Q : List Int} {m : Nat}, Q[m]? = some v → posL v Q ≤ m
  | x :: xs, 0, h => by
    unfold posL
    simp at h
    rw [if_pos h]; omega
  | x :: xs, m + 1, h => by
    unfold posL
    split
    · omega
    · have := posL_le (Q := xs) (m := m) (by simpa using h)
      omega
theorem posL_take {u : Int} {Q : List Int} {k : Nat} (h : u ∈ Q.take k) : posL u Q < k := by
  obtain ⟨m, hm⟩ := List.mem_iff_getElem?.1 h
  rw [List.getElem?_take] at hm
  split at hm
  · have := posL_le hm; omega
  · cases hm

/-- a marked one -/
def In (B : List Bool) (v : Int) : Prop := idx B v = some true
section
variable (row : Int → List Int) (own : Int → Bool) (pri : Int → Int) (inn : Int → Prop) (p : Bool) (goal : Int → Prop)
def mkG : Par.Gm := ⟨own, pri, fun v u => u ∈ row v⟩
structure Cert (Q : List Int) : Prop where
  nd : Q.Nodup
  mem : ∀ v ∈ Q, inn v
  why : ∀ (k : Nat) v, Q[k]? = some v → goal v ∨ (own v = p ∧ ∃ u ∈ Q.take k, u ∈ row v) ∨ (¬ own v = p ∧ ∀ u ∈ row v, inn u → u ∈ Q.take k)
variable {row own pri inn p goal}
theorem Cert.snoc {Q : List Int} (h : Cert row own inn p goal Q) {v : Int} (hv : v ∉ Q) (hi : inn v) (hw : goal v ∨ (own v = p ∧ ∃ u ∈ Q, u ∈ row v) ∨ (¬ own v = p ∧ ∀ u ∈ row v, inn u → u ∈ Q)) : Cert row own inn p goal (Q ++ [v]) := by
  refine ⟨?_, ?_, ?_⟩
  · rw [List.nodup_append]
    exact ⟨h.nd, by simp, fun a ha b hb => by simp at hb; subst hb; exact fun e => hv (e ▸ ha)⟩
  · intro x hx
    rcases List.mem_append.1 hx with hx | hx
    · exact h.mem x hx
    · simp at hx; subst hx; exact hi
  · intro k x hk
    by_cases hlt : k < Q.length
    · rw [List.getElem?_append_left hlt] at hk
      rw [List.take_append_of_le_length (by omega)]
      exact h.why k x hk
    · have : k = Q.length := by
        have := (List.getElem?_eq_some_iff.1 hk).1
        simp at this; omega
      subst this
      rw [List.getElem?_append_right (Nat.le_refl _), Nat.sub_self] at hk
      simp at hk
      subst hk
      rw [List.take_append_of_le_length (Nat.le_refl _), List.take_length]
      exact hw
/-- the trap: what is not in the queue, with respect to what has been looked at -/
def Trap (row : Int → List Int) (own : Int → Bool) (inn : Int → Prop) (p : Bool) (Q : List Int) (d : Int → Int → Prop) : Prop := ∀ v, inn v → v ∉ Q → (own v = p → ∀ y ∈ row v, inn y → ¬ d v y) ∧ (¬ own v = p → ∃ y ∈ row v, inn y ∧ ¬ d v y)
theorem Cert.attr {Q : List Int} (h : Cert row own inn p goal Q) (hg : ∀ v, inn v → goal v → v ∈ Q) (ht : Trap row own inn p Q (fun _ y => y ∈ Q)) : Par.IsAttr (mkG row own pri) inn p goal (fun v => v ∈ Q) := by
  refine ⟨h.mem, hg, ⟨fun v => posL v Q, fun v hv => ?_⟩, ?_, ?_⟩
  · have hlt : ∀ u, u ∈ Q.take (posL v Q) → u ∈ Q ∧ posL u Q < posL v Q := fun u hu => ⟨List.mem_of_mem_take hu, posL_take hu⟩
    rcases h.why _ v (posL_get hv) with hw | ⟨ho, u, hu, hr⟩ | ⟨ho, hw⟩
    · exact .inl hw
    · exact .inr (.inl ⟨ho, u, hr, hlt u hu⟩)
    · exact .inr (.inr ⟨ho, fun u hr hx => hlt u (hw u hr hx)⟩)
  · intro v u hx hq ho he hxu
    exact (ht v hx hq).1 ho u he hxu
  · intro v hx hq ho
    obtain ⟨y, h1, h2, h3⟩ := (ht v hx hq).2 ho
    exact ⟨y, h1, h2, h3⟩
end
open Classical in
/-- how many are left -/
noncomputable def lf (row : List Int) (inn d : Int → Prop) : Nat := (row.filter (fun y => decide (inn y ∧ ¬ d y))).length
theorem lf_zero {row : List Int} {inn d : Int → Prop} : lf row inn d = 0 ↔ ∀ y ∈ row, inn y → d y := by
  classical
  unfold lf
  rw [List.length_eq_zero_iff, List.filter_eq_nil_iff]
  constructor
  · intro h y hy hi
    by_cases hd : d y
    · exact hd
    · exact absurd (by simp; exact ⟨hi, hd⟩) (h y hy)
  · intro h y hy hc
    simp at hc
    exact hc.2 (h y hy hc.1)
theorem lf_congr {row : List Int} {inn d d' : Int → Prop} (h : ∀ y ∈ row, inn y → (d y ↔ d' y)) : lf row inn d = lf row inn d' := by
  classical
  unfold lf
  congr 1
  apply List.filter_congr
  intro y hy
  by_cases hi : inn y
  · simp [hi, h y hy hi]
  · simp [hi]
theorem lf_le {row : List Int} {inn d : Int → Prop} : lf row inn d ≤ row.length := by
  unfold lf; exact List.length_filter_le _ _
theorem lf_step {inn d : Int → Prop} {u : Int} : ∀ {row : List Int}, row.Nodup → u ∈ row → inn u → ¬ d u → lf row inn (fun y => d y ∨ y = u) + 1 = lf row inn d
  | x :: xs, hn, hu, hi, hd => by
    classical
    have hn' := List.nodup_cons.1 hn
    by_cases e : x = u
    · subst e
      have : lf xs inn (fun y => d y ∨ y = x) = lf xs inn d := lf_congr fun y hy _ => ⟨fun h => h.resolve_right fun e => hn'.1 (e ▸ hy), .inl⟩
      unfold lf at this ⊢
      rw [List.filter_cons, if_neg (by simp), List.filter_cons, if_pos (by simp [hi, hd]), List.length_cons, this]
    · have hu' : u ∈ xs := (List.mem_cons.1 hu).resolve_left fun h => e h.symm
      have ih := lf_step hn'.2 hu' hi hd
      unfold lf at ih ⊢
      rw [List.filter_cons, List.filter_cons]
      by_cases hc : inn x ∧ ¬ d x
      · rw [if_pos (by simp [hc, e]), if_pos (by simp [hc]), List.length_cons, List.length_cons, ← ih]
      · rw [if_neg (by simp [e]; exact fun h => Classical.byContradiction fun h2 => hc ⟨h, h2⟩), if_neg (by simp; exact fun h => Classical.byContradiction fun h2 => hc ⟨h, h2⟩), ih]
/-- what has been looked at: the first i of the queue, and u for those whose turn was -/
def dn (T : List Int) (u : Int) (L : List Int) (v y : Int) : Prop := y ∈ T ∨ (y = u ∧ v ∈ L)
/-- the state amid the work on one vertex u of the queue -/
structure Mid (row : Int → List Int) (own : Int → Bool) (inn : Int → Prop) (p : Bool) (goal : Int → Prop) (T : List Int) (u : Int) (L Q : List Int) : Prop where
  cert : Cert row own inn p goal Q
  hu : ∃ R, Q = T ++ u :: R
  trap : Trap row own inn p Q (dn T u L)
section
variable {row : Int → List Int} {own : Int → Bool} {inn : Int → Prop} {p : Bool} {goal : Int → Prop} {T : List Int} {u : Int} {L Q : List Int}
theorem Mid.u_in (h : Mid row own inn p goal T u L Q) : u ∈ Q ∧ u ∉ T ∧ inn u := by
  obtain ⟨R, e⟩ := h.hu
  have hq : u ∈ Q := by rw [e]; simp
  refine ⟨hq, ?_, h.cert.mem u hq⟩
  have := h.cert.nd
  rw [e, List.nodup_append] at this
  exact fun ht => this.2.2 u ht u (by simp) rfl
theorem dn_other {v w y : Int} (h : w ≠ v) : dn T u (L ++ [v]) w y ↔ dn T u L w y := by
  unfold dn
  rw [List.mem_append, List.mem_singleton]
  constructor
  · rintro (h1 | ⟨h1, h2 | h2⟩)
    · exact .inl h1
    · exact .inr ⟨h1, h2⟩
    · exact absurd h2 h
  · rintro (h1 | ⟨h1, h2⟩)
    · exact .inl h1
    · exact .inr ⟨h1, .inl h2⟩
theorem dn_self {v y : Int} : dn T u (L ++ [v]) v y ↔ y ∈ T ∨ y = u := by
  unfold dn; simp
theorem dn_self0 {v y : Int} (h : v ∉ L) : dn T u L v y ↔ y ∈ T := by
  unfold dn; simp [h]
/-- a vertex that is skipped -/
theorem Mid.skip (h : Mid row own inn p goal T u L Q) {v : Int} (hv : ¬ inn v ∨ v ∈ Q ∨ u ∉ row v) : Mid row own inn p goal T u (L ++ [v]) Q := by
  refine ⟨h.cert, h.hu, fun w hw hq => ?_⟩
  obtain ⟨t1, t2⟩ := h.trap w hw hq
  by_cases e : w = v
  · subst e
    have hu : u ∉ row w := by
      rcases hv with hv | hv | hv
      · exact absurd hw hv
      · exact absurd hv hq
      · exact hv
    have key : ∀ y ∈ row w, (dn T u (L ++ [w]) w y ↔ dn T u L w y) := fun y hy => by
      have hyu : y ≠ u := fun e => hu (e ▸ hy)
      unfold dn; simp [hyu]
    refine ⟨fun ho y hy hi => fun hd => t1 ho y hy hi ((key y hy).1 hd), fun ho => ?_⟩
    obtain ⟨y, h1, h2, h3⟩ := t2 ho
    exact ⟨y, h1, h2, fun hd => h3 ((key y h1).1 hd)⟩
  · refine ⟨fun ho y hy hi => fun hd => t1 ho y hy hi ((dn_other e).1 hd), fun ho => ?_⟩
    obtain ⟨y, h1, h2, h3⟩ := t2 ho
    exact ⟨y, h1, h2, fun hd => h3 ((dn_other e).1 hd)⟩
/-- a vertex that stays out -/
theorem Mid.stay (h : Mid row own inn p goal T u L Q) {v : Int} (ho : ¬ own v = p) (hl : lf (row v) inn (fun y => y ∈ T ∨ y = u) ≠ 0) : Mid row own inn p goal T u (L ++ [v]) Q := by
  refine ⟨h.cert, h.hu, fun w hw hq => ?_⟩
  obtain ⟨t1, t2⟩ := h.trap w hw hq
  by_cases e : w = v
  · subst e
    refine ⟨fun ho' => absurd ho' ho, fun _ => ?_⟩
    apply Classical.byContradiction
    intro hc
    apply hl
    rw [lf_zero]
    intro y hy hi
    apply Classical.byContradiction
    intro hd
    exact hc ⟨y, hy, hi, fun h => hd (dn_self.1 h)⟩
  · refine ⟨fun ho y hy hi => fun hd => t1 ho y hy hi ((dn_other e).1 hd), fun ho => ?_⟩
    obtain ⟨y, h1, h2, h3⟩ := t2 ho
    exact ⟨y, h1, h2, fun hd => h3 ((dn_other e).1 hd)⟩
/-- a vertex that is won -/
theorem Mid.add (h : Mid row own inn p goal T u L Q) {v : Int} (hi : inn v) (hq : v ∉ Q) (hu : u ∈ row v) (hw : own v = p ∨ lf (row v) inn (fun y => y ∈ T ∨ y = u) = 0) : Mid row own inn p goal T u (L ++ [v]) (Q ++ [v]) := by
  obtain ⟨R, e⟩ := h.hu
  have hTQ : ∀ y, y ∈ T ∨ y = u → y ∈ Q := fun y hy => by
    rw [e]
    rcases hy with hy | hy
    · simp [hy]
    · simp [hy]
  refine ⟨h.cert.snoc hq hi ?_, ⟨R ++ [v], by rw [e]; simp⟩, fun w hw' hq' => ?_⟩
  · by_cases ho : own v = p
    · exact .inr (.inl ⟨ho, u, h.u_in.1, hu⟩)
    · exact .inr (.inr ⟨ho, fun y hy hyi => hTQ y ((lf_zero.1 (hw.resolve_left ho)) y hy hyi)⟩)
  · rw [List.mem_append, List.mem_singleton, not_or] at hq'
    obtain ⟨t1, t2⟩ := h.trap w hw' hq'.1
    refine ⟨fun ho y hy hi => fun hd => t1 ho y hy hi ((dn_other hq'.2).1 hd), fun ho => ?_⟩
    obtain ⟨y, h1, h2, h3⟩ := t2 ho
    exact ⟨y, h1, h2, fun hd => h3 ((dn_other hq'.2).1 hd)⟩
/-- from one vertex to the next -/
theorem Mid.first {R : List Int} (hc : Cert row own inn p goal (T ++ u :: R)) (ht : Trap row own inn p (T ++ u :: R) (fun _ y => y ∈ T)) : Mid row own inn p goal T u [] (T ++ u :: R) := by
  refine ⟨hc, ⟨R, rfl⟩, fun v hv hq => ?_⟩
  obtain ⟨t1, t2⟩ := ht v hv hq
  refine ⟨fun ho y hy hi hd => t1 ho y hy hi ((dn_self0 (by simp)).1 hd), fun ho => ?_⟩
  obtain ⟨y, h1, h2, h3⟩ := t2 ho
  exact ⟨y, h1, h2, fun hd => h3 ((dn_self0 (by simp)).1 hd)⟩
theorem Mid.last (h : Mid row own inn p goal T u L Q) (hL : ∀ v, inn v → u ∈ row v → v ∈ L) : Trap row own inn p Q (fun _ y => y ∈ T ++ [u]) := fun v hv hq => by
  obtain ⟨t1, t2⟩ := h.trap v hv hq
  have key : ∀ y ∈ row v, (y ∈ T ++ [u] → dn T u L v y) := fun y hy hm => by
    rw [List.mem_append, List.mem_singleton] at hm
    rcases hm with hm | hm
    · exact .inl hm
    · exact .inr ⟨hm, hL v hv (hm ▸ hy)⟩
  refine ⟨fun ho y hy hi hd => t1 ho y hy hi (key y hy hd), fun ho => ?_⟩
  obtain ⟨y, h1, h2, h3⟩ := t2 ho
  exact ⟨y, h1, h2, fun hd => h3 (by
    rcases List.mem_append.1 hd with hm | hm
    · exact .inl hm
    · rw [List.mem_singleton] at hm
      exact .inr ⟨hm, hL v hv (hm ▸ h1)⟩)⟩
end
end Go.Proofs.Ytndiklipffipcaa
