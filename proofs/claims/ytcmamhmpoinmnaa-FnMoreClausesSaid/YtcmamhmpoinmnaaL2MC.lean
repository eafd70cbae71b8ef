/- Walks into the depth: what they find, and in which order; the parts of a graph. Plain law. -/
import Derived.Test.YtcmamhmpoinmnaaL0MC
import Derived.Test.YtcmamhmpoinmnaaL1MC
import Derived.Test.YtcmamhmpoinmnaaCmpMC
set_option linter.unusedVariables false
set_option linter.unusedSimpArgs false
namespace Go.Proofs.Ytcmamhmpoinmnaa
open Go Go.Wk Go.Proofs
open Classical
inductive Wy (sc : Int → List Int) (D : Int → Prop) : Int → Int → Prop
  | one {x} (h : ¬ D x) : Wy sc D x x
  | cons {x y z} (h : ¬ D x) (e : y ∈ sc x) (w : Wy sc D y z) : Wy sc D x z
namespace Wy
variable {sc bk : Int → List Int} {D D' : Int → Prop} {x y z : Int}
theorem first (w : Wy sc D x y) : ¬ D x := by cases w <;> assumption
theorem last (w : Wy sc D x y) : ¬ D y := by induction w <;> assumption
theorem trans (w : Wy sc D x y) (v : Wy sc D y z) : Wy sc D x z := by
  induction w with
  | one _ => exact v
  | cons h e _ ih => exact .cons h e (ih v)
theorem snoc (w : Wy sc D x y) (e : z ∈ sc y) (h : ¬ D z) : Wy sc D x z := w.trans (.cons w.last e (.one h))
theorem mono (h : ∀ x, D' x → D x) (w : Wy sc D x y) : Wy sc D' x y := by
  induction w with
  | one k => exact .one fun d => k (h _ d)
  | cons k e _ ih => exact .cons (fun d => k (h _ d)) e ih
theorem rev (hb : ∀ x y, y ∈ bk x → x ∈ sc y) (w : Wy bk D x y) : Wy sc D y x := by
  induction w with
  | one k => exact .one k
  | cons k e _ ih => exact ih.snoc (hb _ _ e) k
theorem closed {T : Int → Prop} (hT : ∀ a b, T a → b ∈ sc a → ¬ D b → T b) (w : Wy sc D x y) (hx : T x) : T y := by
  induction w with
  | one _ => exact hx
  | cons _ e w ih => exact ih (hT _ _ hx e w.first)
theorem either {T : Int → Prop} (hT : ∀ a b, T a → b ∈ sc a → ¬ D b → T b) (w : Wy sc D x y) : T y ∨ Wy sc (fun a => D a ∨ T a) x y := by
  induction w with
  | @one x k =>
    by_cases t : T x
    · exact .inl t
    · exact .inr (.one fun h => h.elim k t)
  | @cons x y z k e w ih =>
    rcases ih with ih | ih
    · exact .inl ih
    · by_cases t : T x
      · exact .inl (w.closed hT (hT _ _ t e w.first))
      · exact .inr (.cons (fun h => h.elim k t) e ih)
theorem avoid {u : Int} (w : Wy sc D x y) : Wy sc D x u ∨ Wy sc (fun a => D a ∨ a = u) x y := by
  induction w with
  | @one x k =>
    by_cases t : x = u
    · subst t; exact .inl (.one k)
    · exact .inr (.one fun h => h.elim k t)
  | @cons x y z k e w ih =>
    rcases ih with ih | ih
    · exact .inl (.cons k e ih)
    · by_cases t : x = u
      · subst t; exact .inl (.one k)
      · exact .inr (.cons (fun h => h.elim k t) e ih)
end Wy
inductive Dfs (sc : Int → List Int) : (Int → Prop) → List Int → List Int → Prop
  | nil {D} : Dfs sc D [] []
  | skip {D u us S} (h : D u) (k : Dfs sc D us S) : Dfs sc D (u :: us) S
  | step {D u us S1 S2} (h : ¬ D u) (k1 : Dfs sc (fun x => D x ∨ x = u) (sc u) S1) (k2 : Dfs sc (fun x => D x ∨ x = u ∨ x ∈ S1) us S2) : Dfs sc D (u :: us) (S1 ++ u :: S2)
namespace Dfs
variable {sc bk : Int → List Int} {D : Int → Prop} {us S : List Int}
theorem out (k : Dfs sc D us S) : ∀ x ∈ S, ¬ D x := by
  induction k with
  | nil => intro x h; cases h
  | skip _ _ ih => exact ih
  | step h _ _ i1 i2 =>
    intro x hx
    rcases List.mem_append.1 hx with hx | hx
    · exact fun d => i1 x hx (.inl d)
    · rcases List.mem_cons.1 hx with e | hx
      · subst e; exact h
      · exact fun d => i2 x hx (.inl d)
theorem nodup (k : Dfs sc D us S) : S.Nodup := by
  induction k with
  | nil => exact List.nodup_nil
  | skip _ _ ih => exact ih
  | step h k1 k2 i1 i2 =>
    refine List.nodup_append.2 ⟨i1, List.nodup_cons.2 ⟨fun hm => k2.out _ hm (.inr (.inl rfl)), i2⟩, fun a ha b hb e => ?_⟩
    subst e
    rcases List.mem_cons.1 hb with e | hb
    · exact k1.out _ ha (.inr e)
    · exact k2.out _ hb (.inr (.inr ha))
theorem clo (k : Dfs sc D us S) : (∀ u ∈ us, D u ∨ u ∈ S) ∧ ∀ x ∈ S, ∀ y ∈ sc x, D y ∨ y ∈ S := by
  induction k with
  | nil => exact ⟨fun u h => (by cases h), fun u h => (by cases h)⟩
  | skip h _ ih =>
    refine ⟨fun u hu => ?_, ih.2⟩
    rcases List.mem_cons.1 hu with e | hu
    · subst e; exact .inl h
    · exact ih.1 u hu
  | @step D u us S1 S2 h k1 k2 i1 i2 =>
    have c1 : ∀ y, (D y ∨ y = u) ∨ y ∈ S1 → D y ∨ y ∈ S1 ++ u :: S2 := fun y hy => by
      rcases hy with (d | e) | m
      · exact .inl d
      · subst e; exact .inr (by simp)
      · exact .inr (by simp [m])
    have c2 : ∀ y, (D y ∨ y = u ∨ y ∈ S1) ∨ y ∈ S2 → D y ∨ y ∈ S1 ++ u :: S2 := fun y hy => by
      rcases hy with (d | e | m) | m
      · exact .inl d
      · subst e; exact .inr (by simp)
      · exact .inr (by simp [m])
      · exact .inr (by simp [m])
    refine ⟨fun x hx => ?_, fun x hx y hy => ?_⟩
    · rcases List.mem_cons.1 hx with e | hx
      · subst e; exact .inr (by simp)
      · exact c2 _ (i2.1 x hx)
    · rcases List.mem_append.1 hx with hx | hx
      · exact c1 _ (i1.2 x hx y hy)
      · rcases List.mem_cons.1 hx with e | hx
        · subst e; exact c1 _ (i1.1 y hy)
        · exact c2 _ (i2.2 x hx y hy)
theorem sound (k : Dfs sc D us S) : ∀ x ∈ S, ∃ u ∈ us, Wy sc D u x := by
  induction k with
  | nil => intro x h; cases h
  | skip _ _ ih =>
    intro x hx
    obtain ⟨u, h1, h2⟩ := ih x hx
    exact ⟨u, List.mem_cons_of_mem _ h1, h2⟩
  | @step D u us S1 S2 h k1 k2 i1 i2 =>
    intro x hx
    rcases List.mem_append.1 hx with hx | hx
    · obtain ⟨c, h1, h2⟩ := i1 x hx
      exact ⟨u, by simp, .cons h h1 (h2.mono fun _ d => .inl d)⟩
    · rcases List.mem_cons.1 hx with e | hx
      · subst e; exact ⟨x, by simp, .one h⟩
      · obtain ⟨c, h1, h2⟩ := i2 x hx
        exact ⟨c, List.mem_cons_of_mem _ h1, h2.mono fun _ d => .inl d⟩
theorem mem_iff (k : Dfs sc D us S) (x : Int) : x ∈ S ↔ ∃ u ∈ us, Wy sc D u x := by
  refine ⟨k.sound x, fun ⟨u, h1, h2⟩ => ?_⟩
  have hT : ∀ a b, a ∈ S → b ∈ sc a → ¬ D b → b ∈ S := fun a b ha hb hd => (k.clo.2 a ha b hb).resolve_left hd
  exact h2.closed (T := fun a => a ∈ S) hT ((k.clo.1 u h1).resolve_left h2.first)
theorem kos (k : Dfs sc D us S) : ∀ x ∈ S, ∀ v, Wy sc D x v → ∃ x', Wy sc D x x' ∧ Wy sc D x' x ∧ ∃ A B, S = A ++ x' :: B ∧ (v ∈ A ∨ v = x') := by
  induction k with
  | nil => intro x h; cases h
  | skip _ _ ih => exact ih
  | @step D u us S1 S2 h k1 k2 i1 i2 =>
    intro x hx v w
    have hT : ∀ a b, (a ∈ S1 ∨ a = u) → b ∈ sc a → ¬ D b → (b ∈ S1 ∨ b = u) := fun a b ha hb hd => by
      have : (D b ∨ b = u) ∨ b ∈ S1 := by
        rcases ha with ha | ha
        · exact k1.clo.2 a ha b hb
        · subst ha; exact k1.clo.1 b hb
      rcases this with (d | e) | m
      · exact absurd d hd
      · exact .inr e
      · exact .inl m
    have atU : Wy sc D x u → (x ∈ S1 ∨ x = u) → ∃ x', Wy sc D x x' ∧ Wy sc D x' x ∧ ∃ A B, S1 ++ u :: S2 = A ++ x' :: B ∧ (v ∈ A ∨ v = x') := fun wu hx' => by
      refine ⟨u, wu, ?_, S1, S2, rfl, w.closed (T := fun a => a ∈ S1 ∨ a = u) hT hx'⟩
      rcases hx' with m | e
      · obtain ⟨c, h1, h2⟩ := k1.sound x m
        exact .cons h h1 (h2.mono fun _ d => .inl d)
      · subst e; exact .one h
    rcases List.mem_append.1 hx with m | m
    · by_cases wu : Wy sc D x u
      · exact atU wu (.inl m)
      · rcases w.avoid (u := u) with k | k
        · exact absurd k wu
        · obtain ⟨x', w1, w2, A, B, e, hv⟩ := i1 x m v k
          exact ⟨x', w1.mono fun _ d => .inl d, w2.mono fun _ d => .inl d, A, B ++ u :: S2, by rw [e]; simp, hv⟩
    · rcases List.mem_cons.1 m with e | m
      · subst e; exact atU (.one w.first) (.inr rfl)
      · rcases w.either (T := fun a => a ∈ S1 ∨ a = u) hT with t | t
        · obtain ⟨A, B, e⟩ := List.append_of_mem m
          refine ⟨x, .one w.first, .one w.first, S1 ++ u :: A, B, by rw [e]; simp, .inl ?_⟩
          rcases t with t | t
          · simp [t]
          · simp [t]
        · have t' : Wy sc (fun a => D a ∨ a = u ∨ a ∈ S1) x v := t.mono fun a ha => by
            rcases ha with d | e | s
            · exact .inl d
            · exact .inr (.inr e)
            · exact .inr (.inl s)
          obtain ⟨x', w1, w2, A, B, e, hv⟩ := i2 x m v t'
          refine ⟨x', w1.mono fun _ d => .inl d, w2.mono fun _ d => .inl d, S1 ++ u :: A, B, by rw [e]; simp, ?_⟩
          rcases hv with hv | hv
          · exact .inl (by simp [hv])
          · exact .inr hv
end Dfs
inductive Kos (bk : Int → List Int) : (Int → Prop) → List Int → List (List Int) → Prop
  | nil {D} : Kos bk D [] []
  | skip {D v R P} (h : D v) (k : Kos bk D R P) : Kos bk D (v :: R) P
  | step {D v R S P} (h : ¬ D v) (d : Dfs bk D [v] S) (k : Kos bk (fun x => D x ∨ x ∈ S) R P) : Kos bk D (v :: R) (S :: P)
def noV : Int → Prop := fun _ => False
def Akin (sc : Int → List Int) (x y : Int) : Prop := Wy sc noV x y ∧ Wy sc noV y x
section
variable {sc bk : Int → List Int}
theorem Akin.refl (x : Int) : Akin sc x x := ⟨.one id, .one id⟩
theorem Akin.symm {x y : Int} (h : Akin sc x y) : Akin sc y x := ⟨h.2, h.1⟩
theorem Akin.trans {x y z : Int} (h : Akin sc x y) (k : Akin sc y z) : Akin sc x z := ⟨h.1.trans k.1, k.2.trans h.2⟩
theorem ahead {Q R A B : List Int} {v y : Int} (hn : (Q ++ v :: R).Nodup) (e : Q ++ v :: R = B ++ y :: A) (h : v ∈ A) : y ∈ Q := by
  have hy : y ∈ Q ++ v :: R := by rw [e]; simp
  rcases List.mem_append.1 hy with m | m
  · exact m
  · exfalso
    have h1 : (B ++ y :: A).Nodup := by rw [← e]; exact hn
    obtain ⟨n1, n2, n3⟩ := List.nodup_append.1 hn
    obtain ⟨m1, m2, m3⟩ := List.nodup_append.1 h1
    have hB : v ∉ B := fun hv => m3 v hv v (List.mem_cons_of_mem _ h) rfl
    -- v stands in A, so B ++ [y] is ahead of it: it is a part of Q
    rcases List.append_eq_append_iff.1 e with ⟨T, e1, e2⟩ | ⟨T, e1, e2⟩
    · cases T with
      | nil =>
        rw [List.nil_append] at e2
        injection e2 with e3 e4
        subst e3
        exact (List.nodup_cons.1 m2).1 h
      | cons t T =>
        injection e2 with e3 e4
        subst e3
        exact hB (by rw [e1]; simp)
    · cases T with
      | nil =>
        rw [List.nil_append] at e2
        injection e2 with e3 e4
        subst e3
        exact (List.nodup_cons.1 m2).1 h
      | cons t T =>
        injection e2 with e3 e4
        subst e3
        exact n3 y (by rw [e1]; simp) y m rfl
theorem kos_parts {L : List Int} (hb : ∀ x y, y ∈ bk x ↔ x ∈ sc y) {vs : List Int} (hd : Dfs sc noV vs L) (hL : ∀ a b, b ∈ sc a → a ∈ L) :
    ∀ (D : Int → Prop) (R : List Int) (P : List (List Int)), Kos bk D R P → ∀ Q, L.reverse = Q ++ R → (∀ x, D x ↔ ∃ q ∈ Q, Akin sc q x) →
    (∀ S ∈ P, S.Nodup ∧ ∃ v ∈ R, (¬ D v) ∧ ∀ x, x ∈ S ↔ Akin sc v x) ∧ (∀ v ∈ R, D v ∨ ∃ S ∈ P, v ∈ S) ∧ P.Pairwise (fun S T => ∀ x ∈ S, x ∉ T) ∧ ∀ S ∈ P, ∀ x ∈ S, ¬ D x := by
  intro D R P hk
  induction hk with
  | nil => exact fun Q _ _ => ⟨fun S h => (by cases h), fun S h => (by cases h), List.Pairwise.nil, fun S h => by cases h⟩
  | @skip D v R P h k ih =>
    intro Q hQ hD
    obtain ⟨a1, a2, a3, a4⟩ := ih (Q ++ [v]) (by rw [hQ]; simp) (fun x => by
      rw [hD]
      refine ⟨fun ⟨q, h1, h2⟩ => ⟨q, by simp [h1], h2⟩, fun ⟨q, h1, h2⟩ => ?_⟩
      rcases List.mem_append.1 h1 with m | m
      · exact ⟨q, m, h2⟩
      · rw [List.mem_singleton] at m
        subst m
        obtain ⟨p, h3, h4⟩ := (hD q).1 h
        exact ⟨p, h3, h4.trans h2⟩)
    refine ⟨fun S hS => ?_, fun x hx => ?_, a3, a4⟩
    · obtain ⟨h1, y, h2, h3⟩ := a1 S hS
      exact ⟨h1, y, List.mem_cons_of_mem _ h2, h3⟩
    · rcases List.mem_cons.1 hx with e | hx
      · subst e; exact .inl h
      · exact a2 x hx
  | @step D v R S P h d k ih =>
    intro Q hQ hD
    have hvL : v ∈ L := by
      have : v ∈ L.reverse := by rw [hQ]; simp
      exact List.mem_reverse.1 this
    have hS : ∀ x, x ∈ S ↔ Akin sc v x := fun x => by
      rw [d.mem_iff]
      constructor
      · rintro ⟨u, hu, w⟩
        rw [List.mem_singleton] at hu
        subst hu
        have w' := w.rev (sc := sc) (fun a b e => (hb a b).1 e)
        have hx : x ∈ L := by
          cases w' with
          | one _ => exact hvL
          | cons _ e _ => exact hL _ _ e
        obtain ⟨x', w1, w2, A, B, e, hv⟩ := hd.kos x hx u (w'.mono fun _ f => f.elim)
        rcases hv with hv | hv
        · exfalso
          have e' : Q ++ u :: R = B.reverse ++ x' :: A.reverse := by rw [← hQ, e]; simp
          have hn : (Q ++ u :: R).Nodup := by rw [← hQ]; exact (List.reverse_perm L).nodup_iff.2 hd.nodup
          have hq := ahead hn e' (List.mem_reverse.2 hv)
          exact w.last ((hD x).2 ⟨x', hq, w2, w1⟩)
        · subst hv; exact ⟨w2, w1⟩
      · intro hx
        refine ⟨v, by simp, ?_⟩
        have nD : ∀ y, Akin sc v y → ¬ D y := fun y hy hd' => by
          obtain ⟨q, h1, h2⟩ := (hD y).1 hd'
          exact h ((hD v).2 ⟨q, h1, h2.trans hy.symm⟩)
        have key : ∀ {a b : Int}, Wy sc noV a b → Wy sc noV b a → Akin sc v b → Wy sc D a b := fun {a b} w => by
          induction w with
          | one _ => exact fun _ hb' => .one (nD _ hb')
          | @cons a c b h e w ih => exact fun w' hb' => .cons (nD _ (hb'.trans ⟨w', .cons h e w⟩)) e (ih (w'.snoc e id) hb')
        exact (key hx.2 hx.1 (Akin.refl v)).rev fun a b e => (hb b a).2 e
    obtain ⟨a1, a2, a3, a4⟩ := ih (Q ++ [v]) (by rw [hQ]; simp) (fun x => by
      show (D x ∨ x ∈ S) ↔ _
      rw [hD, hS]
      constructor
      · rintro (⟨q, h1, h2⟩ | h2)
        · exact ⟨q, by simp [h1], h2⟩
        · exact ⟨v, by simp, h2⟩
      · rintro ⟨q, h1, h2⟩
        rcases List.mem_append.1 h1 with m | m
        · exact .inl ⟨q, m, h2⟩
        · rw [List.mem_singleton] at m
          subst m; exact .inr h2)
    refine ⟨fun T hT => ?_, fun x hx => ?_, List.pairwise_cons.2 ⟨fun T hT x hx hx' => a4 T hT x hx' (.inr hx), a3⟩, fun T hT x hx hx' => ?_⟩
    · rcases List.mem_cons.1 hT with e | hT
      · subst e
        exact ⟨d.nodup, v, by simp, h, hS⟩
      · obtain ⟨h1, y, h2, h3, h4⟩ := a1 T hT
        exact ⟨h1, y, List.mem_cons_of_mem _ h2, fun k => h3 (.inl k), h4⟩
    · rcases List.mem_cons.1 hx with e | hx
      · subst e; exact .inr ⟨S, by simp, (hS x).2 (Akin.refl x)⟩
      · rcases a2 x hx with (k | k) | ⟨T, h1, h2⟩
        · exact .inl k
        · exact .inr ⟨S, by simp, k⟩
        · exact .inr ⟨T, List.mem_cons_of_mem _ h1, h2⟩
    · rcases List.mem_cons.1 hT with e | hT
      · subst e; exact d.out x hx hx'
      · exact a4 T hT x hx (.inl hx')
end
end Go.Proofs.Ytcmamhmpoinmnaa
set_option linter.unusedVariables false
set_option linter.unusedSimpArgs false
namespace Go.Proofs.Ytcmamhmpoinmnaa
open Go Go.Wk Go.Proofs
open Classical
def Mk (n : Nat) (d : List Bool) (S : List Int) (d' : List Bool) : Prop := d'.length = n ∧ ∀ x, In d' x ↔ In d x ∨ x ∈ S
theorem Mk.cnt {n : Nat} {d d' : List Bool} {S : List Int} (h : Mk n d S d') (hn : S.Nodup) (hd : ∀ x ∈ S, ¬ In d x) : cnt d + S.length ≤ cnt d' := by
  have h1 : (marksL d d.length ++ S).Nodup := List.nodup_append.2 ⟨marksL_nodup _ _, hn, fun a ha b hb e => hd b hb (e ▸ mem_marksL.1 ha)⟩
  have := nodup_sub h1 (ys := marksL d' d'.length) (fun x hx => mem_marksL.2 ((h.2 x).2 ((List.mem_append.1 hx).imp mem_marksL.1 id)))
  rw [List.length_append] at this
  exact this
theorem Mk.eq {n : Nat} {d d' : List Bool} {S : List Int} (h : Mk n d S d') : In d' = fun x => In d x ∨ x ∈ S := funext fun x => propext (h.2 x)
theorem Dfs.nil_eq {sc : Int → List Int} {D : Int → Prop} {S : List Int} (k : Dfs sc D [] S) : S = [] := by cases k; rfl
theorem Dfs.cat {sc : Int → List Int} {D : Int → Prop} {u : Int} {us S T : List Int} (h : ¬ D u) (k : Dfs sc D [u] S) (k2 : Dfs sc (fun x => D x ∨ x ∈ S) us T) : Dfs sc D (u :: us) (S ++ T) := by
  generalize e : [u] = l at k
  cases k with
  | nil => cases e
  | skip h' _ =>
    injection e with e1 _
    subst e1; exact absurd h' h
  | @step _ _ _ S1 S2 h' k1 k3 =>
    injection e with e1 e2
    subst e1 e2
    have e3 := k3.nil_eq
    subst e3
    have e4 : (fun x => D x ∨ x ∈ S1 ++ [u]) = fun x => D x ∨ x = u ∨ x ∈ S1 := funext fun x => propext (by simp only [List.mem_append, List.mem_singleton]; constructor <;> (rintro (h | h | h) <;> simp [h]))
    rw [e4] at k2
    have := Dfs.step h k1 k2
    simpa using this
theorem idxB {B : List Bool} {v : Int} (h : ¬ In B v) (h0 : 0 ≤ v) (h1 : v < B.length) : idx B v = some false := by rw [In_get h0 h1, decide_eq_false h]
theorem setT {d : List Bool} {n : Nat} {v : Int} (hd : d.length = n) (h0 : 0 ≤ v) (h1 : v < n) : ∃ y, setI d v true = some y ∧ Mk n d [v] y := by
  obtain ⟨y, hy, hl⟩ := setI_some (xs := d) (i := v) true h0 (by omega)
  refine ⟨y, hy, by omega, fun x => ?_⟩
  unfold In
  rw [idx_setI hy, List.mem_singleton]
  by_cases e : x = v
  · rw [if_pos e]; simp [e]
  · rw [if_neg e]; simp [e]
abbrev VS := List Int × List Bool
theorem dfs_loop {ρ : Type} {f : Int → VS → Option (ρ ⊕ (VS ⊕ VS))} {sc : Int → List Int} {M : List Bool} {n c0 : Nat} :
    ∀ (us : List Int) (j : Nat) (ord : List Int) (d : List Bool),
    (∀ (i : Nat) u ord d, us[i]? = some u → d.length = n → ord.length ≤ cnt d → c0 ≤ cnt d →
      (¬ (In M u ∧ ¬ In d u) → f ((j + i : Nat) : Int) (ord, d) = some (.inr (.inr (ord, d)))) ∧
      (In M u → ¬ In d u → ∃ S d', f ((j + i : Nat) : Int) (ord, d) = some (.inr (.inr (ord ++ S, d'))) ∧ Mk n d S d' ∧ Dfs sc (In d) [u] S)) →
    d.length = n → ord.length ≤ cnt d → c0 ≤ cnt d →
    ∃ S d', cntM f us.length (j : Int) (ord, d) = some (.inr (ord ++ S, d')) ∧ Mk n d S d' ∧ Dfs sc (In d) (us.filter (fun u => decide (In M u))) S
  | [], j, ord, d, _, hd, _, _ => ⟨[], d, by rw [List.append_nil]; rfl, ⟨hd, fun x => by simp⟩, .nil⟩
  | u :: us, j, ord, d, h, hd, ho, hc => by
    obtain ⟨h1, h2⟩ := h 0 u ord d rfl hd ho hc
    have hr : ∀ (i : Nat) w ord d, us[i]? = some w → d.length = n → ord.length ≤ cnt d → c0 ≤ cnt d →
      (¬ (In M w ∧ ¬ In d w) → f (((j + 1) + i : Nat) : Int) (ord, d) = some (.inr (.inr (ord, d)))) ∧
      (In M w → ¬ In d w → ∃ S d', f (((j + 1) + i : Nat) : Int) (ord, d) = some (.inr (.inr (ord ++ S, d'))) ∧ Mk n d S d' ∧ Dfs sc (In d) [w] S) := fun i w ord d hw => by
      have := h (i + 1) w ord d (by simpa using hw)
      rw [show j + (i + 1) = (j + 1) + i from by omega] at this
      exact this
    by_cases hm : In M u ∧ ¬ In d u
    · obtain ⟨S, d1, e1, m1, k1⟩ := h2 hm.1 hm.2
      have hcn := m1.cnt k1.nodup k1.out
      obtain ⟨T, d2, e2, m2, k2⟩ := dfs_loop us (j + 1) (ord ++ S) d1 hr m1.1 (by rw [List.length_append]; omega) (by omega)
      refine ⟨S ++ T, d2, ?_, ⟨m2.1, fun x => ?_⟩, ?_⟩
      · show Option.bind (f (j : Int) (ord, d)) _ = _
        have e1' : f (j : Int) (ord, d) = _ := e1
        rw [e1', Option.bind_some]
        show cntM f us.length ((j : Int) + 1) (ord ++ S, d1) = _
        have : ((j : Int) + 1) = ((j + 1 : Nat) : Int) := rfl
        rw [this, e2, List.append_assoc]
      · rw [m2.2, m1.2, List.mem_append, or_assoc]
      · rw [List.filter_cons, if_pos (by simpa using hm.1)]
        rw [m1.eq] at k2
        exact Dfs.cat hm.2 k1 k2
    · obtain ⟨T, d2, e2, m2, k2⟩ := dfs_loop us (j + 1) ord d hr hd ho hc
      refine ⟨T, d2, ?_, m2, ?_⟩
      · show Option.bind (f (j : Int) (ord, d)) _ = _
        have e1' : f (j : Int) (ord, d) = _ := h1 hm
        rw [e1', Option.bind_some]
        exact e2
      · rw [List.filter_cons]
        by_cases hu : In M u
        · rw [if_pos (by simpa using hu)]
          exact .skip (Classical.byContradiction fun hn => hm ⟨hu, hn⟩) k2
        · rw [if_neg (by simpa using hu)]
          exact k2
theorem vis_same : ∀ m, i_loopsIn_1__i_loopsIn_3__i_loopsIn_1 m = i_loopsIn_1__i_loopsIn_2__i_loopsIn_1 m
  | 0 => rfl
  | m + 1 => by
    show i_loopsIn_1__i_loopsIn_3__i_loopsIn_1_s (i_loopsIn_1__i_loopsIn_3__i_loopsIn_1 m) = i_loopsIn_1__i_loopsIn_2__i_loopsIn_1_s (i_loopsIn_1__i_loopsIn_2__i_loopsIn_1 m)
    rw [vis_same m]; rfl
theorem vis_ok {T : List (List Int)} {M : List Bool} {n : Nat} {sc : Int → List Int} (hT : T.length = n) (hM : M.length = n) (hn : n ≤ 256)
    (hr : ∀ v row, idx T v = some row → ∀ u ∈ row, 0 ≤ u ∧ u < n) (hs : ∀ v row, In M v → idx T v = some row → sc v = row.filter (fun u => decide (In M u))) :
    ∀ (m : Nat) (v : Int) (ord : List Int) (d : List Bool), In M v → ¬ In d v → d.length = n → ord.length ≤ cnt d → n < m + cnt d →
    ∃ S d', i_loopsIn_1__i_loopsIn_2__i_loopsIn_1 m v T ord d M = some (ord ++ S, d') ∧ Mk n d S d' ∧ Dfs sc (In d) [v] S
  | 0, v, ord, d, _, _, hd, _, hm => absurd hm (by have := cnt_le d; omega)
  | m + 1, v, ord, d, hv, hdv, hd, ho, hm => by
    obtain ⟨v0, v1⟩ := In_of hM hv
    obtain ⟨y, hy, my⟩ := setT hd v0 v1
    obtain ⟨row, hrow⟩ := idx_some (xs := T) (i := v) v0 (by omega)
    have hcy := my.cnt (by simp) (fun x hx => by rw [List.mem_singleton] at hx; subst hx; exact hdv)
    simp only [List.length_cons, List.length_nil] at hcy
    have hcl := cnt_le y
    obtain ⟨S, d1, e1, m1, k1⟩ := dfs_loop (f := i_loopsIn_1__i_loopsIn_2__i_loopsIn_1_b0 (i_loopsIn_1__i_loopsIn_2__i_loopsIn_1 m) T M row) (sc := sc) (M := M) (n := n) (c0 := cnt y) row 0 ord y (fun i u ord d hu hd ho hc => by
      obtain ⟨u0, u1⟩ := hr v row hrow u (List.mem_of_getElem? hu)
      unfold i_loopsIn_1__i_loopsIn_2__i_loopsIn_1_b0
      rw [Nat.zero_add, idx_nat, hu, Option.bind_some, In_get (B := M) u0 (by omega), Option.bind_some, In_get (B := d) u0 (by omega)]
      refine ⟨fun hno => ?_, fun h1 h2 => ?_⟩
      · by_cases h1 : In M u
        · have h2 : In d u := Classical.byContradiction fun h => hno ⟨h1, h⟩
          simp only [decide_eq_true h1, decide_eq_true h2, cond_true, Option.bind_some, Bool.not_true, cond_false]
        · simp only [decide_eq_false h1, cond_false, Option.bind_some]
      · obtain ⟨S, d', e, mk, k⟩ := vis_ok hT hM hn hr hs m u ord d h1 h2 hd ho (by omega)
        refine ⟨S, d', ?_, mk, k⟩
        simp only [decide_eq_true h1, decide_eq_false h2, cond_true, Option.bind_some, Bool.not_false, e]) my.1 (by omega) (Nat.le_refl _)
    have hc1 := m1.cnt k1.nodup k1.out
    have hcl1 := cnt_le d1
    have hdl : d1.length = n := m1.1
    refine ⟨S ++ [v], d1, ?_, ⟨m1.1, fun x => ?_⟩, ?_⟩
    · show i_loopsIn_1__i_loopsIn_2__i_loopsIn_1_s (i_loopsIn_1__i_loopsIn_2__i_loopsIn_1 m) v T ord d M = _
      unfold i_loopsIn_1__i_loopsIn_2__i_loopsIn_1_s
      rw [idxB hdv v0 (by omega), Option.bind_some, hy, Option.bind_some, hrow, Option.bind_some]
      have e1' : cntM (i_loopsIn_1__i_loopsIn_2__i_loopsIn_1_b0 (i_loopsIn_1__i_loopsIn_2__i_loopsIn_1 m) T M row) row.length 0 (ord, y) = _ := e1
      rw [e1', Option.bind_some, aft_inr]
      unfold i_loopsIn_2
      dsimp only
      rw [app1 (by rw [List.length_append]; omega) rfl, Option.bind_some, Option.bind_some, List.append_assoc]
    · rw [m1.2, my.2, List.mem_append, List.mem_singleton]
      constructor
      · rintro ((h | h) | h)
        · exact .inl h
        · exact .inr (.inr h)
        · exact .inr (.inl h)
      · rintro (h | h | h)
        · exact .inl (.inl h)
        · exact .inr h
        · exact .inl (.inr h)
    · rw [← hs v row hv hrow, my.eq] at k1
      have e4 : (fun x => In d x ∨ x ∈ [v]) = fun x => In d x ∨ x = v := funext fun x => propext (by rw [List.mem_singleton])
      rw [e4] at k1
      exact Dfs.step hdv k1 .nil
end Go.Proofs.Ytcmamhmpoinmnaa
set_option linter.unusedVariables false
set_option linter.unusedSimpArgs false
namespace Go.Proofs.Ytcmamhmpoinmnaa
open Go Go.Wk Go.Proofs
open Classical
structure Gr (N : List (List Int)) (M : List Bool) (n : Nat) : Prop where
  ln : N.length = n
  lm : M.length = n
  le : n ≤ 256
  row : ∀ v r, idx N v = some r → r.length ≤ 10000 ∧ ∀ u ∈ r, 0 ≤ u ∧ u < n
noncomputable def scN (N : List (List Int)) (M : List Bool) (v : Int) : List Int := if In M v then ((idx N v).getD []).filter (fun u => decide (In M u)) else []
theorem mem_scN {N : List (List Int)} {M : List Bool} {v u : Int} : u ∈ scN N M v ↔ In M v ∧ In M u ∧ ∃ r, idx N v = some r ∧ u ∈ r := by
  unfold scN
  by_cases h : In M v
  · rw [if_pos h, List.mem_filter, decide_eq_true_eq]
    cases e : idx N v with
    | none => simp
    | some r => simp [h, and_comm]
  · rw [if_neg h]; simp [h]
def rowI' (N : List (List Int)) (v : Int) : List Int := (idx N v).getD []
def Far (sc : Int → List Int) (v : Int) : Prop := ∃ y ∈ sc v, Wy sc noV y v
def Far2 (sc : Int → List Int) (v u : Int) : Prop := ∃ y ∈ sc v, Wy sc noV y u
section
variable {sc : Int → List Int}
theorem Wy.far {v u : Int} (w : Wy sc noV v u) (h : v ≠ u) : Far2 sc v u := by
  cases w with
  | one _ => exact absurd rfl h
  | cons _ e w => exact ⟨_, e, w⟩
theorem Far2.wy {v u : Int} (h : Far2 sc v u) : Wy sc noV v u := by
  obtain ⟨y, h1, h2⟩ := h
  exact .cons id h1 h2
theorem Wy.snoc_in {D : Int → Prop} {v u : Int} (w : Wy sc D v u) : v = u ∨ ∃ z, u ∈ sc z := by
  induction w with
  | one _ => exact .inl rfl
  | cons _ e _ ih =>
    rcases ih with h | h
    · subst h; exact .inr ⟨_, e⟩
    · exact .inr h
theorem akin_far {v u : Int} (h : Akin sc v u) (hne : v ≠ u) : Far sc v ∧ Far sc u := by
  obtain ⟨y, h1, h2⟩ := h.1.far hne
  obtain ⟨z, h3, h4⟩ := h.2.far (Ne.symm hne)
  exact ⟨⟨y, h1, h2.trans h.2⟩, ⟨z, h3, h4.trans h.1⟩⟩
theorem Far.akin {v u : Int} (h : Far sc v) (k : Akin sc v u) : Far sc u := by
  by_cases e : v = u
  · subst e; exact h
  · exact (akin_far k e).2
end
theorem marksL_asc (B : List Bool) (j : Nat) : Asc (marksL B j) := by
  unfold marksL
  rw [Asc, List.pairwise_map]
  refine List.Pairwise.filter _ ?_
  exact List.pairwise_lt_range.imp fun h => by
    show (_ : Int) < _
    exact Int.ofNat_lt.2 h
noncomputable def partG (N : List (List Int)) (M : List Bool) (v : Int) : List Int := (marksL M M.length).filter (fun u => decide (Akin (scN N M) v u))
def Lead (sc : Int → List Int) (v : Int) : Prop := Far sc v ∧ ∀ w, w < v → ¬ Akin sc w v
noncomputable def loopsN (N : List (List Int)) (M : List Bool) : List (List Int) := ((marksL M M.length).filter (fun v => decide (Lead (scN N M) v))).map (partG N M)
section
variable {N : List (List Int)} {M : List Bool}
theorem mem_partG {v u : Int} : u ∈ partG N M v ↔ In M u ∧ Akin (scN N M) v u := by
  unfold partG
  rw [List.mem_filter, mem_marksL, decide_eq_true_eq]
theorem partG_asc (v : Int) : Asc (partG N M v) := (marksL_asc _ _).filter _
theorem partG_eq {v u : Int} (h : Akin (scN N M) v u) : partG N M v = partG N M u :=
  asc_eq (partG_asc _) (partG_asc _) fun z => by
    rw [mem_partG, mem_partG]
    exact ⟨fun ⟨a, b⟩ => ⟨a, h.symm.trans b⟩, fun ⟨a, b⟩ => ⟨a, h.trans b⟩⟩
theorem far_in {v : Int} (h : Far (scN N M) v) : In M v := by
  obtain ⟨y, h1, _⟩ := h
  exact (mem_scN.1 h1).1
def hdI (l : List Int) : Int := l.headD 0
theorem partG_hd {v : Int} (h : Far (scN N M) v) : ∃ t, partG N M v = hdI (partG N M v) :: t ∧ Akin (scN N M) v (hdI (partG N M v)) ∧ Lead (scN N M) (hdI (partG N M v)) := by
  have hv : v ∈ partG N M v := mem_partG.2 ⟨far_in h, Akin.refl v⟩
  cases e : partG N M v with
  | nil => rw [e] at hv; cases hv
  | cons x t =>
    have hx : x ∈ partG N M v := by rw [e]; simp
    obtain ⟨a, b⟩ := mem_partG.1 hx
    refine ⟨t, rfl, b, h.akin b, fun w hw hk => ?_⟩
    have hwx : Akin (scN N M) v w := b.trans hk.symm
    have hw' : w ∈ partG N M v := mem_partG.2 ⟨far_in (h.akin hwx), hwx⟩
    rw [e] at hw'
    have hp : Asc (x :: t) := by rw [← e]; exact partG_asc v
    rcases List.mem_cons.1 hw' with e' | e'
    · have : w < w := by rw [← e'] at hw; exact hw
      omega
    · have := (List.pairwise_cons.1 hp).1 w e'
      have : w < x := hw
      omega
theorem lead_hd {v : Int} (h : Lead (scN N M) v) : hdI (partG N M v) = v := by
  obtain ⟨t, h1, h2, h3⟩ := partG_hd h.1
  have a := h.2 (hdI (partG N M v))
  have b := h3.2 v
  have c : ¬ hdI (partG N M v) < v := fun k => a k h2.symm
  have d : ¬ v < hdI (partG N M v) := fun k => b k h2
  omega
theorem lexI_hd {a b : Int} {s t : List Int} (h : leI (a :: s) (b :: t) = true) (hne : a ≠ b) : a < b := by
  unfold leI lexI at h
  have : ¬ Go.Lib.compareInt a b = 0 := fun e => hne (cmpI_eq.1 e)
  rw [if_neg this, decide_eq_true_eq] at h
  exact cmpI_lt.1 (by omega)
theorem sort_parts {P : List (List Int)} (h1 : ∀ S ∈ P, ∃ v, Far (scN N M) v ∧ S = partG N M v) (h2 : ∀ v, Far (scN N M) v → partG N M v ∈ P) (h3 : P.Pairwise (fun S T => ∀ x ∈ S, x ∉ T)) : P.mergeSort leI = loopsN N M := by
  have hh : ∀ S ∈ P, S = partG N M (hdI S) ∧ Lead (scN N M) (hdI S) ∧ ∃ t, S = hdI S :: t := fun S hS => by
    obtain ⟨v, f, e⟩ := h1 S hS
    obtain ⟨t, k1, k2, k3⟩ := partG_hd f
    rw [← e] at k1 k2 k3
    exact ⟨e.trans (partG_eq k2), k3, t, k1⟩
  have hperm := List.mergeSort_perm P leI
  have hZ : ∀ S ∈ P.mergeSort leI, S = partG N M (hdI S) ∧ Lead (scN N M) (hdI S) ∧ ∃ t, S = hdI S :: t := fun S hS => hh S (hperm.mem_iff.1 hS)
  have hnd : (P.map hdI).Nodup := by
    rw [List.Nodup, List.pairwise_map]
    refine h3.imp_of_mem fun {S T} hS hT hd e => ?_
    obtain ⟨_, _, s, es⟩ := hh S hS
    obtain ⟨_, _, t, et⟩ := hh T hT
    refine hd (hdI S) (by rw [es]; simp [hdI]) ?_
    rw [et, ← e]; simp [hdI]
  have hndZ : ((P.mergeSort leI).map hdI).Nodup := ((hperm.map hdI).nodup_iff).2 hnd
  have hsort : (P.mergeSort leI).Pairwise (fun a b => leI a b = true) := List.pairwise_mergeSort (fun a b c => leI_trans a b c) (fun a b => leI_total a b) P
  have hasc : Asc ((P.mergeSort leI).map hdI) := by
    rw [Asc, List.pairwise_map]
    rw [List.Nodup, List.pairwise_map] at hndZ
    refine (List.Pairwise.and hsort hndZ).imp_of_mem fun {S T} hS hT ⟨a, b⟩ => ?_
    obtain ⟨_, _, s, es⟩ := hZ S hS
    obtain ⟨_, _, t, et⟩ := hZ T hT
    rw [es, et] at a
    exact lexI_hd a b
  have hmap : (P.mergeSort leI) = ((P.mergeSort leI).map hdI).map (partG N M) := by
    rw [List.map_map]
    conv => lhs; rw [← List.map_id (P.mergeSort leI)]
    exact List.map_congr_left fun S hS => (hZ S hS).1
  rw [hmap]
  unfold loopsN
  congr 1
  refine asc_eq hasc ((marksL_asc _ _).filter _) fun z => ?_
  rw [List.mem_map, List.mem_filter, mem_marksL, decide_eq_true_eq]
  constructor
  · rintro ⟨S, hS, rfl⟩
    exact ⟨far_in (hZ S hS).2.1.1, (hZ S hS).2.1⟩
  · rintro ⟨_, hl⟩
    exact ⟨partG N M z, hperm.mem_iff.2 (h2 z hl.1), lead_hd hl⟩
end
end Go.Proofs.Ytcmamhmpoinmnaa
set_option linter.unusedVariables false
set_option linter.unusedSimpArgs false
namespace Go.Proofs.Ytcmamhmpoinmnaa
open Go Go.Wk Go.Proofs
open Classical
section
variable {N : List (List Int)} {M : List Bool} {n : Nat} (g : Gr N M n)
include g
theorem back_ok : ∃ B, cntM (i_loopsIn_b0 N M) N.length 0 (List.replicate n []) = some (.inr B) ∧ B.length = n ∧ ∀ u : Int, 0 ≤ u → u < n → ∃ r, idx B u = some r ∧ ∀ v, v ∈ r ↔ u ∈ scN N M v := by
  have hn := g.le
  obtain ⟨B, h1, h2, h3⟩ := cnt_inv (f := i_loopsIn_b0 N M) (fun j (B : List (List Int)) => B.length = n ∧ ∀ u : Int, 0 ≤ u → u < n → ∃ r, idx B u = some r ∧ r.length ≤ j * 10000 ∧ ∀ v, v ∈ r ↔ v < (j : Int) ∧ u ∈ scN N M v) N.length (s := List.replicate n []) ⟨by simp, fun u u0 u1 => ⟨[], by rw [idx_int u0, List.getElem?_replicate, if_pos (by omega)], by simp, fun v => by
      constructor
      · intro h; cases h
      · rintro ⟨h, k⟩
        have := (In_of g.lm (mem_scN.1 k).1).1
        omega⟩⟩ (fun j B hj ⟨b1, b2⟩ => by
    have hrow : N[j]? = some N[j] := List.getElem?_eq_getElem hj
    generalize N[j] = row at hrow
    obtain ⟨l1, l2⟩ := g.row (j : Int) row (by rw [idx_nat]; exact hrow)
    unfold i_loopsIn_b0
    rw [idx_nat, hrow, Option.bind_some]
    have hjn : j < n := by rw [← g.ln]; exact hj
    obtain ⟨C, k1, k2, k3⟩ := cnt_inv (f := i_loopsIn_b2 M (j : Int) row) (fun i (B : List (List Int)) => B.length = n ∧ ∀ u : Int, 0 ≤ u → u < n → ∃ r, idx B u = some r ∧ r.length ≤ j * 10000 + i ∧ ∀ v, v ∈ r ↔ (v < (j : Int) ∧ u ∈ scN N M v) ∨ (v = (j : Int) ∧ In M v ∧ In M u ∧ u ∈ row.take i)) row.length (s := B) ⟨b1, fun u u0 u1 => by
        obtain ⟨r, c1, c2, c3⟩ := b2 u u0 u1
        exact ⟨r, c1, Nat.le_trans c2 (Nat.le_add_right _ _), fun v => by rw [c3]; simp⟩⟩ (fun i B hi ⟨d1, d2⟩ => by
      have hu : row[i]? = some row[i] := List.getElem?_eq_getElem hi
      generalize row[i] = u0 at hu
      obtain ⟨u00, u01⟩ := l2 u0 (List.mem_of_getElem? hu)
      have htk : row.take (i + 1) = row.take i ++ [u0] := by rw [List.take_add_one, hu]; rfl
      have hgo : ¬ (In M (j : Int) ∧ In M u0) → ∀ u : Int, 0 ≤ u → u < n → ∃ r, idx B u = some r ∧ r.length ≤ j * 10000 + (i + 1) ∧ ∀ v, v ∈ r ↔ (v < (j : Int) ∧ u ∈ scN N M v) ∨ (v = (j : Int) ∧ In M v ∧ In M u ∧ u ∈ row.take (i + 1)) := fun hno u u0' u1' => by
        obtain ⟨r, c1, c2, c3⟩ := d2 u u0' u1'
        refine ⟨r, c1, by omega, fun v => ?_⟩
        rw [c3, htk]
        constructor
        · rintro (h | ⟨h, h1, h2, h3⟩)
          · exact .inl h
          · exact .inr ⟨h, h1, h2, List.mem_append_left _ h3⟩
        · rintro (h | ⟨h, h1, h2, h3⟩)
          · exact .inl h
          · rcases List.mem_append.1 h3 with h3 | h3
            · exact .inr ⟨h, h1, h2, h3⟩
            · rw [List.mem_singleton] at h3
              exact absurd ⟨h ▸ h1, h3 ▸ h2⟩ hno
      unfold i_loopsIn_b2
      rw [idx_nat, hu, Option.bind_some, In_get (B := M) (by omega) (by rw [g.lm]; omega), Option.bind_some, In_get (B := M) u00 (by rw [g.lm]; omega)]
      by_cases h1 : In M (j : Int)
      · by_cases h2 : In M u0
        · obtain ⟨r, c1, c2, c3⟩ := d2 u0 u00 u01
          obtain ⟨B', hB', hl⟩ := setI_some (xs := B) (i := u0) (r ++ [(j : Int)]) u00 (by omega)
          simp only [decide_eq_true h1, decide_eq_true h2, cond_true, Option.bind_some, c1, app1 (show r.length ≤ 10000000000 by omega) (show Nat.ble 8 1024 = true from rfl), hB']
          refine ⟨_, rfl, by omega, fun u u0' u1' => ?_⟩
          rw [idx_setI hB']
          by_cases e : u = u0
          · subst e
            rw [if_pos rfl]
            refine ⟨_, rfl, by rw [List.length_append]; simp only [List.length_cons, List.length_nil]; omega, fun v => ?_⟩
            rw [List.mem_append, c3, List.mem_singleton, htk]
            constructor
            · rintro ((h | ⟨h, h1, h2, h3⟩) | h)
              · exact .inl h
              · exact .inr ⟨h, h1, h2, List.mem_append_left _ h3⟩
              · subst h; exact .inr ⟨rfl, h1, h2, by simp⟩
            · rintro (h | ⟨h, h1, h2, h3⟩)
              · exact .inl (.inl h)
              · exact .inr h
          · rw [if_neg e]
            obtain ⟨r, c1, c2, c3⟩ := d2 u u0' u1'
            refine ⟨r, c1, by omega, fun v => ?_⟩
            rw [c3, htk, List.mem_append, List.mem_singleton]
            simp [e]
        · simp only [decide_eq_true h1, decide_eq_false h2, cond_true, Option.bind_some, cond_false]
          exact ⟨_, rfl, d1, hgo fun h => h2 h.2⟩
      · simp only [decide_eq_false h1, Option.bind_some, cond_false]
        exact ⟨_, rfl, d1, hgo fun h => h1 h.1⟩)
    rw [k1, Option.bind_some, aft_inr]
    refine ⟨_, rfl, k2, fun u u0 u1 => ?_⟩
    obtain ⟨r, c1, c2, c3⟩ := k3 u u0 u1
    refine ⟨r, c1, by omega, fun v => ?_⟩
    rw [c3, List.take_length]
    constructor
    · rintro (⟨h, k⟩ | ⟨h, h1, h2, h3⟩)
      · exact ⟨by omega, k⟩
      · subst h
        exact ⟨by omega, mem_scN.2 ⟨h1, h2, row, by rw [idx_nat]; exact hrow, h3⟩⟩
    · rintro ⟨h, k⟩
      by_cases e : v = (j : Int)
      · subst e
        obtain ⟨h1, h2, r', e', h3⟩ := mem_scN.1 k
        rw [idx_nat, hrow] at e'
        cases e'
        exact .inr ⟨rfl, h1, h2, h3⟩
      · exact .inl ⟨by omega, k⟩)
  refine ⟨B, h1, h2, fun u u0 u1 => ?_⟩
  obtain ⟨r, c1, c2, c3⟩ := h3 u u0 u1
  refine ⟨r, c1, fun v => ?_⟩
  rw [c3]
  refine ⟨fun h => h.2, fun h => ⟨?_, h⟩⟩
  have := (In_of g.lm (mem_scN.1 h).1).2
  rw [g.ln]; exact this
def Many (N : List (List Int)) (S : List Int) : Prop := 1 < S.length ∨ ∃ v ∈ S, ∃ r, idx N v = some r ∧ v ∈ r
noncomputable def keepP (N : List (List Int)) (P : List (List Int)) : List (List Int) := (P.filter (fun S => decide (Many N S))).map fun S => S.mergeSort fun x y => decide (x ≤ y)
theorem second_ok {B : List (List Int)} {bk : Int → List Int} (hB : B.length = n) (hbr : ∀ v row, idx B v = some row → ∀ u ∈ row, 0 ≤ u ∧ u < n) (hbk : ∀ v row, In M v → idx B v = some row → bk v = row.filter (fun u => decide (In M u)))
    {L : List Int} {d0 : List Bool} (hL : L.length ≤ 256) (hLM : ∀ v ∈ L, In M v) :
    ∀ (k : Nat) (P0 : List (List Int)) (d : List Bool) (F : Nat), k ≤ L.length → P0.length + k ≤ 1000 → d.length = n → k < F →
    ∃ P d', whileM (i_loopsIn_b6 N M B (L, d0)) F (P0, (k : Int) - 1, d) = some (.inr (P0 ++ keepP N P, -1, d')) ∧ Kos bk (In d) ((L.take k).reverse) P
  | _, _, _, 0, _, _, _, h => absurd h (Nat.not_lt_zero _)
  | 0, P0, d, F + 1, _, _, hd, _ => ⟨[], d, by
      show Option.bind (i_loopsIn_b6 N M B (L, d0) (P0, ((0 : Nat) : Int) - 1, d)) _ = _
      have : keepP N [] = [] := rfl
      rw [this, List.append_nil]
      rfl, .nil⟩
  | k + 1, P0, d, F + 1, hk, hP, hd, hF => by
    have hn := g.le
    have hx : L[k]? = some L[k] := List.getElem?_eq_getElem (by omega)
    generalize L[k] = x at hx
    have hxM := hLM x (List.mem_of_getElem? hx)
    obtain ⟨x0, x1⟩ := In_of g.lm hxM
    have htk : (L.take (k + 1)).reverse = x :: (L.take k).reverse := by rw [List.take_add_one, hx]; simp
    have e1 : ((k + 1 : Nat) : Int) - 1 = (k : Int) := by omega
    have ew : IntKind.i64.wrap ((k : Int) - 1) = (k : Int) - 1 := wr' (by omega) (by omega)
    rw [htk, e1]
    show ∃ P d', Option.bind (i_loopsIn_b6 N M B (L, d0) (P0, (k : Int), d)) _ = _ ∧ _
    by_cases hdx : In d x
    · obtain ⟨P, d', w, kk⟩ := second_ok hB hbr hbk hL hLM k P0 d F (by omega) (by omega) hd (by omega)
      have st : i_loopsIn_b6 N M B (L, d0) (P0, (k : Int), d) = some (.inr (.inr (P0, (k : Int) - 1, d))) := by
        unfold i_loopsIn_b6
        dsimp only
        rw [decide_eq_true (show (0 : Int) ≤ (k : Int) by omega), cond_true, idx_nat, hx, Option.bind_some, In_get (B := d) x0 (by omega), Option.bind_some, ew, decide_eq_true hdx, cond_true]
      rw [st, Option.bind_some]
      exact ⟨P, d', w, .skip hdx kk⟩
    · obtain ⟨S, d1, v1, m1, k1⟩ := vis_ok hB g.lm hn hbr hbk (2 ^ 64) x [] d hxM hdx hd (Nat.zero_le _) (by have := cnt_le d; omega)
      have hxS : x ∈ S := (k1.mem_iff x).2 ⟨x, by simp, .one hdx⟩
      have hSl : 0 < S.length := List.length_pos_of_mem hxS
      have hcn := m1.cnt k1.nodup k1.out
      have hcl := cnt_le d1
      have hdl := m1.1
      obtain ⟨rw_, hrw⟩ := idx_some (xs := N) (i := x) x0 (by rw [g.ln]; exact x1)
      have hmany : (Option.bind (bif decide (1 < (S.length : Int)) then some true else Option.bind (idx N x) fun x116 => Option.bind (slices_Contains_I_int64 x116 x) fun x119 => some x119) fun p => if p = decide (Many N S) then some () else none) = some () := by
        by_cases h1 : 1 < S.length
        · rw [decide_eq_true (show (1 : Int) < (S.length : Int) by omega), cond_true, Option.bind_some, if_pos]
          exact (decide_eq_true (.inl h1)).symm
        · rw [decide_eq_false (show ¬ (1 : Int) < (S.length : Int) by omega), cond_false, hrw, Option.bind_some, slices_Contains_I_int64_eq, Option.bind_some, Option.bind_some, if_pos]
          rw [Bool.eq_iff_iff, List.any_eq_true, decide_eq_true_eq]
          constructor
          · rintro ⟨y, hy, e⟩
            have : x = y := by simpa using e
            exact .inr ⟨x, hxS, rw_, hrw, this ▸ hy⟩
          · rintro (h | ⟨v, hv, r, hr, hvr⟩)
            · exact absurd h h1
            · have hvx : v = x := by
                match S, hSl, h1, hxS, hv with
                | [y], _, _, hxS, hv =>
                  rw [List.mem_singleton] at hxS hv
                  rw [hxS, hv]
                | y :: z :: t, _, h1, _, _ => simp at h1
              subst hvx
              rw [hrw] at hr
              cases hr
              exact ⟨v, hvr, by simp⟩
      obtain ⟨p, hp1, hp2⟩ := Option.bind_eq_some_iff.1 hmany
      have hp : p = decide (Many N S) := Classical.byContradiction fun hne => by rw [if_neg hne] at hp2; cases hp2
      have hsl : slices_Sort_I_int64 S = some (S.mergeSort fun x y => decide (x ≤ y)) := by
        unfold slices_Sort_I_int64
        rw [if_pos ⟨hSl, by omega⟩]
      have st : i_loopsIn_b6 N M B (L, d0) (P0, (k : Int), d) = Option.bind (bif decide (Many N S) then Option.bind (appS 24 P0 [S.mergeSort fun x y => decide (x ≤ y)]) fun x124 => some x124 else some P0) fun q => some (.inr (.inr (q, (k : Int) - 1, d1))) := by
        unfold i_loopsIn_b6
        dsimp only
        rw [decide_eq_true (show (0 : Int) ≤ (k : Int) by omega), cond_true, idx_nat, hx, Option.bind_some, In_get (B := d) x0 (by omega), Option.bind_some, ew, decide_eq_false hdx, cond_false, vis_same, v1, Option.bind_some]
        dsimp only
        rw [List.nil_append, hsl, Option.bind_some, hp1, Option.bind_some, hp]
      by_cases hm : Many N S
      · have ha : appS 24 P0 [S.mergeSort fun x y => decide (x ≤ y)] = some (P0 ++ [S.mergeSort fun x y => decide (x ≤ y)]) := app1 (by omega) rfl
        obtain ⟨P, d', w, kk⟩ := second_ok hB hbr hbk hL hLM k (P0 ++ [S.mergeSort fun x y => decide (x ≤ y)]) d1 F (by omega) (by simp only [List.length_append, List.length_cons, List.length_nil]; omega) hdl (by omega)
        rw [st, decide_eq_true hm, cond_true, ha, Option.bind_some, Option.bind_some, Option.bind_some]
        refine ⟨S :: P, d', ?_, ?_⟩
        · have : keepP N (S :: P) = (S.mergeSort fun x y => decide (x ≤ y)) :: keepP N P := by
            unfold keepP
            rw [List.filter_cons, if_pos (decide_eq_true hm)]; rfl
          rw [this]
          rw [List.append_assoc] at w
          exact w
        · refine .step hdx k1 ?_
          rw [← m1.eq]; exact kk
      · obtain ⟨P, d', w, kk⟩ := second_ok hB hbr hbk hL hLM k P0 d1 F (by omega) (by omega) hdl (by omega)
        rw [st, decide_eq_false hm, cond_false, Option.bind_some, Option.bind_some]
        refine ⟨S :: P, d', ?_, ?_⟩
        · have : keepP N (S :: P) = keepP N P := by
            unfold keepP
            rw [List.filter_cons, if_neg (by simpa using hm)]
          rw [this]; exact w
        · refine .step hdx k1 ?_
          rw [← m1.eq]; exact kk
theorem i_loops : i_loopsIn N M = some (loopsN N M) := by
  have hn := g.le
  obtain ⟨B, b1, b2, b3⟩ := back_ok g
  have hbk : ∀ v u, u ∈ rowI' B v ↔ v ∈ scN N M u := fun v u => by
    unfold rowI'
    constructor
    · intro h
      cases e : idx B v with
      | none => rw [e] at h; cases h
      | some r =>
        rw [e] at h
        obtain ⟨v0, v1⟩ := idx_rng e
        obtain ⟨r', c1, c2⟩ := b3 v v0 (by omega)
        rw [e] at c1; cases c1
        exact (c2 u).1 h
    · intro h
      obtain ⟨v0, v1⟩ := In_of g.lm (mem_scN.1 h).2.1
      obtain ⟨r', c1, c2⟩ := b3 v v0 v1
      rw [c1]; exact (c2 u).2 h
  have hbin : ∀ v u, u ∈ rowI' B v → In M v ∧ In M u := fun v u h => by
    obtain ⟨a, b, _⟩ := mem_scN.1 ((hbk v u).1 h)
    exact ⟨b, a⟩
  have hrowB : ∀ v row, idx B v = some row → rowI' B v = row := fun v row e => by unfold rowI'; rw [e]; rfl
  have hfil : ∀ v row, idx B v = some row → rowI' B v = row.filter (fun u => decide (In M u)) := fun v row e => by
    rw [hrowB v row e]
    symm
    rw [List.filter_eq_self]
    intro u hu
    rw [← hrowB v row e] at hu
    exact decide_eq_true (hbin v u hu).2
  have hbr : ∀ v row, idx B v = some row → ∀ u ∈ row, 0 ≤ u ∧ u < n := fun v row e u hu => by
    rw [← hrowB v row e] at hu
    exact In_of g.lm (hbin v u hu).2
  have hs : ∀ v row, In M v → idx N v = some row → scN N M v = row.filter (fun u => decide (In M u)) := fun v row h e => by
    unfold scN
    rw [if_pos h, e]; rfl
  have h0 : ∀ x, ¬ In (List.replicate n false) x := fun x hx => by
    obtain ⟨x0, x1⟩ := In_of (n := n) (by simp) hx
    unfold In at hx
    rw [idx_int x0, List.getElem?_replicate, if_pos (by omega)] at hx
    cases hx
  have hno : In (List.replicate n false) = noV := funext fun x => propext ⟨fun h => h0 x h, fun h => h.elim⟩
  have hus : ((List.range n).map Int.ofNat).length = n := by simp
  obtain ⟨L, d1, e1, m1, k1⟩ := dfs_loop (f := i_loopsIn_b4 N M) (sc := scN N M) (M := M) (n := n) (c0 := 0) ((List.range n).map Int.ofNat) 0 [] (List.replicate n false) (fun i u ord d hu hd ho _ => by
    have hi : i < n := by have := (List.getElem?_eq_some_iff.1 hu).1; rwa [hus] at this
    have hui : u = (i : Int) := by
      rw [List.getElem?_map, List.getElem?_range hi] at hu
      exact (Option.some.inj hu).symm
    subst hui
    rw [Nat.zero_add]
    unfold i_loopsIn_b4
    dsimp only
    rw [In_get (B := M) (by omega) (by rw [g.lm]; omega), Option.bind_some, In_get (B := d) (by omega) (by omega)]
    refine ⟨fun hno => ?_, fun h1 h2 => ?_⟩
    · by_cases h1 : In M (i : Int)
      · have h2 : In d (i : Int) := Classical.byContradiction fun h => hno ⟨h1, h⟩
        simp only [decide_eq_true h1, decide_eq_true h2, cond_true, Option.bind_some, Bool.not_true, cond_false]
      · simp only [decide_eq_false h1, cond_false, Option.bind_some]
    · obtain ⟨S, d', e, mk, k⟩ := vis_ok g.ln g.lm hn (fun v row e => (g.row v row e).2) hs (2 ^ 64) (i : Int) ord d h1 h2 hd ho (by have := cnt_le d; omega)
      refine ⟨S, d', ?_, mk, k⟩
      simp only [decide_eq_true h1, decide_eq_false h2, cond_true, Option.bind_some, Bool.not_false, e]) (by simp) (Nat.zero_le _) (Nat.zero_le _)
  rw [hus] at e1
  rw [hno] at k1
  have hLin : ∀ v, v ∈ L → In M v := fun v hv => by
    obtain ⟨u, hu, w⟩ := (k1.mem_iff v).1 hv
    have huM : In M u := by simpa using (List.mem_filter.1 hu).2
    cases w.snoc_in with
    | inl h => exact h ▸ huM
    | inr h => obtain ⟨z, hz⟩ := h; exact (mem_scN.1 hz).2.1
  have hLall : ∀ v, In M v → v ∈ L := fun v hv => (k1.mem_iff v).2 ⟨v, List.mem_filter.2 ⟨by
    obtain ⟨v0, v1⟩ := In_of g.lm hv
    obtain ⟨i, hi⟩ := ex_nat v0
    subst hi
    exact List.mem_map.2 ⟨i, List.mem_range.2 (by omega), rfl⟩, by simpa using hv⟩, .one id⟩
  have hLlen : L.length ≤ 256 := by
    have := m1.cnt k1.nodup (fun x _ => h0 x)
    have := cnt_le d1
    have := m1.1
    omega
  obtain ⟨P, d', w, kk⟩ := second_ok g (d0 := d1) b2 hbr (fun v row _ e => hfil v row e) hLlen hLin L.length [] (List.replicate n false) (2 ^ 64) (Nat.le_refl _) (by simp only [List.length_nil]; omega) (by simp) (by omega)
  rw [List.take_length, hno] at kk
  obtain ⟨p1, p2, p3, p4⟩ := kos_parts hbk k1 (fun a b hb => hLall a (mem_scN.1 hb).1) noV L.reverse P kk [] (by simp) (fun x => ⟨fun h => h.elim, fun ⟨q, h, _⟩ => by cases h⟩)
  have hpart : ∀ S ∈ P, ∀ v ∈ S, (∀ x, x ∈ S ↔ Akin (scN N M) v x) ∧ In M v := fun S hS v hv => by
    obtain ⟨_, v', h1, _, h2⟩ := p1 S hS
    have hv' := (h2 v).1 hv
    refine ⟨fun x => by rw [h2]; exact ⟨fun h => hv'.symm.trans h, fun h => hv'.trans h⟩, ?_⟩
    by_cases e : v' = v
    · subst e; exact hLin _ (List.mem_reverse.1 h1)
    · exact far_in (akin_far hv' e).2
  have hsortp : ∀ S ∈ P, ∀ v ∈ S, (S.mergeSort fun x y => decide (x ≤ y)) = partG N M v := fun S hS v hv => by
    obtain ⟨hn', _⟩ := p1 S hS
    obtain ⟨h1, h2⟩ := hpart S hS v hv
    refine asc_eq (sort_asc hn') (partG_asc _) fun z => ?_
    rw [(List.mergeSort_perm S _).mem_iff, mem_partG]
    exact ⟨fun h => ⟨(hpart S hS z h).2, (h1 z).1 h⟩, fun h => (h1 z).2 h.2⟩
  have hmf : ∀ S ∈ P, ∀ v ∈ S, Many N S ↔ Far (scN N M) v := fun S hS v hv => by
    obtain ⟨h1, h2⟩ := hpart S hS v hv
    obtain ⟨hn', _⟩ := p1 S hS
    constructor
    · rintro (h | ⟨u, hu, r, hr, hur⟩)
      · have : ∃ z ∈ S, z ≠ v := Classical.byContradiction fun hno => by
          have : S.length ≤ [v].length := nodup_sub hn' fun x hx => List.mem_singleton.2 (Classical.byContradiction fun hne => hno ⟨x, hx, hne⟩)
          simp only [List.length_cons, List.length_nil] at this
          omega
        obtain ⟨z, hz, hne⟩ := this
        exact (akin_far ((h1 z).1 hz) (Ne.symm hne)).1
      · have hu' := (hpart S hS u hu).2
        have : Far (scN N M) u := ⟨u, mem_scN.2 ⟨hu', hu', r, hr, hur⟩, .one id⟩
        exact this.akin ((h1 u).1 hu).symm
    · rintro ⟨y, hy, wy⟩
      by_cases h : 1 < S.length
      · exact .inl h
      · have hyS : y ∈ S := (h1 y).2 ⟨.cons id hy (.one id), wy⟩
        have : y = v := by
          match S, h, hv, hyS with
          | [a], _, hv, hyS => rw [List.mem_singleton] at hv hyS; rw [hv, hyS]
          | a :: b :: t, h, _, _ => simp at h
        subst this
        obtain ⟨_, _, r, hr, hur⟩ := mem_scN.1 hy
        exact .inr ⟨y, hv, r, hr, hur⟩
  have hne : ∀ S ∈ P, ∃ v, v ∈ S := fun S hS => by
    obtain ⟨_, v, _, _, h⟩ := p1 S hS
    exact ⟨v, (h v).2 (Akin.refl v)⟩
  have hsp : (keepP N P).mergeSort leI = loopsN N M := by
    refine sort_parts (fun T hT => ?_) (fun v hv => ?_) ?_
    · unfold keepP at hT
      obtain ⟨S, hS, rfl⟩ := List.mem_map.1 hT
      obtain ⟨hS, hm⟩ := List.mem_filter.1 hS
      obtain ⟨v, hv⟩ := hne S hS
      exact ⟨v, (hmf S hS v hv).1 (of_decide_eq_true hm), hsortp S hS v hv⟩
    · rcases p2 v (List.mem_reverse.2 (hLall v (far_in hv))) with h | ⟨S, hS, hvS⟩
      · exact h.elim
      · unfold keepP
        exact List.mem_map.2 ⟨S, List.mem_filter.2 ⟨hS, decide_eq_true ((hmf S hS v hvS).2 hv)⟩, hsortp S hS v hvS⟩
    · unfold keepP
      rw [List.pairwise_map]
      refine (p3.filter _).imp fun {S T} h x hx hx' => ?_
      rw [(List.mergeSort_perm _ _).mem_iff] at hx hx'
      exact h x hx hx'
  have hklen : (keepP N P).length ≤ 1000 := by
    have h1 : (loopsN N M).length ≤ n := by
      unfold loopsN
      rw [List.length_map]
      exact Nat.le_trans (List.length_filter_le _ _) (Nat.le_trans (marksL_len _ _) (by rw [g.lm]; exact Nat.le_refl _))
    rw [← hsp, List.length_mergeSort] at h1
    omega
  have hall : ((keepP N P).all fun l => !l.isEmpty) = true := by
    rw [List.all_eq_true]
    intro T hT
    unfold keepP at hT
    obtain ⟨S, hS, rfl⟩ := List.mem_map.1 hT
    obtain ⟨v, hv⟩ := hne S (List.mem_filter.1 hS).1
    have := (List.mergeSort_perm S fun x y => decide (x ≤ y)).mem_iff.2 hv
    cases e : (S.mergeSort fun x y => decide (x ≤ y)) with
    | nil => rw [e] at this; cases this
    | cons _ _ => rfl
  have ew : IntKind.i64.wrap ((L.length : Int) - 1) = (L.length : Int) - 1 := wr' (by omega) (by omega)
  have e1' : cntM (i_loopsIn_b4 N M) n 0 (([] : List Int), List.replicate n false) = some (.inr (L, d1)) := by
    rw [← List.nil_append L]; exact e1
  have b1' : cntM (i_loopsIn_b0 N M) n 0 (List.replicate n []) = some (.inr B) := by rw [← b1, g.ln]
  unfold i_loopsIn
  rw [g.ln, mkS_nat (by omega) rfl, Option.bind_some, b1', Option.bind_some, aft_inr, mkS_nat (by omega) rfl, Option.bind_some, e1', Option.bind_some, aft_inr, Option.bind_some]
  dsimp only
  rw [ew, w, Option.bind_some, aft_inr]
  dsimp only
  rw [List.nil_append]
  unfold slices_SortFunc_I_I
  rw [if_pos ⟨by omega, hall⟩, Option.bind_some, hsp]
end
end Go.Proofs.Ytcmamhmpoinmnaa
set_option linter.unusedVariables false
set_option linter.unusedSimpArgs false
namespace Go.Proofs.Ytcmamhmpoinmnaa
open Go Go.Wk Go.Proofs
open Classical
def Lv (sc : Int → List Int) (s : Int) : Nat → Int → Prop
  | 0, k => k = s
  | t + 1, k => ∃ u ∈ sc k, Lv sc s t u
def Dm (sc : Int → List Int) (s k : Int) (d : Nat) : Prop := Lv sc s d k ∧ ∀ e, e < d → ¬ Lv sc s e k
section
variable {sc : Int → List Int} {s k : Int}
theorem Dm.uniq {d e : Nat} (h : Dm sc s k d) (h' : Dm sc s k e) : d = e := by
  have a := h.2 e
  have b := h'.2 d
  have : ¬ e < d := fun x => a x h'.1
  have : ¬ d < e := fun x => b x h.1
  omega
theorem Lv.min {d : Nat} : Lv sc s d k → ∃ e, e ≤ d ∧ Dm sc s k e := by
  induction d using Nat.strongRecOn with
  | ind d ih =>
    intro h
    by_cases hm : ∃ e, e < d ∧ Lv sc s e k
    · obtain ⟨e, he, h'⟩ := hm
      obtain ⟨f, hf, hd⟩ := ih e he h'
      exact ⟨f, by omega, hd⟩
    · exact ⟨d, Nat.le_refl _, h, fun e he h' => hm ⟨e, he, h'⟩⟩
theorem Dm.next {d : Nat} (h : Dm sc s k (d + 1)) : ∃ u ∈ sc k, Dm sc s u d := by
  obtain ⟨u, h1, h2⟩ := h.1
  exact ⟨u, h1, h2, fun e he h' => h.2 (e + 1) (by omega) ⟨u, h1, h'⟩⟩
theorem Lv.wy : ∀ {d : Nat} {k : Int}, Lv sc s d k → Wy sc noV k s
  | 0, k, h => by
    have h : k = s := h
    subst h; exact .one id
  | d + 1, k, ⟨u, h1, h2⟩ => .cons id h1 (Lv.wy h2)
theorem Wy.lv {k : Int} (w : Wy sc noV k s) : ∃ d, Lv sc s d k := by
  induction w with
  | one _ => exact ⟨0, rfl⟩
  | cons _ e _ ih =>
    obtain ⟨d, h⟩ := ih
    exact ⟨d + 1, _, e, h⟩
theorem Dm.list {n : Nat} (hr : ∀ a b, b ∈ sc a → 0 ≤ b ∧ b < (n : Int)) : ∀ {d : Nat} {k : Int}, 0 ≤ k → k < n → Dm sc s k d → ∃ l : List Int, l.length = d + 1 ∧ l.Nodup ∧ (∀ x ∈ l, 0 ≤ x ∧ x < (n : Int)) ∧ ∀ x ∈ l, ∃ e, e ≤ d ∧ Dm sc s x e
  | 0, k, k0, k1, h => ⟨[k], rfl, by simp, fun x hx => by rw [List.mem_singleton] at hx; subst hx; exact ⟨k0, k1⟩, fun x hx => by rw [List.mem_singleton] at hx; subst hx; exact ⟨0, Nat.le_refl _, h⟩⟩
  | d + 1, k, k0, k1, h => by
    obtain ⟨u, h1, h2⟩ := h.next
    obtain ⟨u0, u1⟩ := hr k u h1
    obtain ⟨l, l1, l2, l3, l4⟩ := Dm.list hr u0 u1 h2
    refine ⟨k :: l, by simp [l1], List.nodup_cons.2 ⟨fun hm => ?_, l2⟩, fun x hx => ?_, fun x hx => ?_⟩
    · obtain ⟨e, he, hd⟩ := l4 k hm
      have := hd.uniq h
      omega
    · rcases List.mem_cons.1 hx with e | hx
      · subst e; exact ⟨k0, k1⟩
      · exact l3 x hx
    · rcases List.mem_cons.1 hx with e | hx
      · subst e; exact ⟨d + 1, Nat.le_refl _, h⟩
      · obtain ⟨e, he, hd⟩ := l4 x hx
        exact ⟨e, by omega, hd⟩
end
def At (sc : Int → List Int) (s : Int) (t : Nat) (k x : Int) : Prop := (x = -1 ∧ ∀ d, d ≤ t → ¬ Lv sc s d k) ∨ ∃ d : Nat, x = (d : Int) ∧ d ≤ t ∧ Dm sc s k d
theorem At.neg {sc : Int → List Int} {s k x : Int} {t : Nat} (h : At sc s t k x) : (x < 0 ↔ ∀ d, d ≤ t → ¬ Lv sc s d k) := by
  rcases h with ⟨h1, h2⟩ | ⟨d, h1, h2, h3⟩
  · exact ⟨fun _ => h2, fun _ => by omega⟩
  · exact ⟨fun h => by omega, fun h => absurd h3.1 (h d h2)⟩
theorem At.is {sc : Int → List Int} {s k x : Int} {t t' : Nat} (ht : t ≤ t') (h : At sc s t' k x) : (x = (t : Int) ↔ Dm sc s k t) := by
  rcases h with ⟨h1, h2⟩ | ⟨d, h1, h2, h3⟩
  · exact ⟨fun h => by omega, fun h => absurd h.1 (h2 t ht)⟩
  · exact ⟨fun h => by have : d = t := by omega
                       exact this ▸ h3, fun h => by have := h3.uniq h; omega⟩
section
variable {N : List (List Int)} {M : List Bool} {n : Nat} (g : Gr N M n)
include g
theorem s_far {s : Int} (hs : In M s) : ∃ F, s_l30Far N M s = some F ∧ F.length = n ∧ ∀ k : Int, 0 ≤ k → k < n → ∃ x, idx F k = some x ∧ ((x = -1 ∧ ∀ d, ¬ Lv (scN N M) s d k) ∨ ∃ d : Nat, x = (d : Int) ∧ d < n ∧ Dm (scN N M) s k d) := by
  have hn := g.le
  have hl := g.ln
  have hm := g.lm
  obtain ⟨s0, s1⟩ := In_of g.lm hs
  obtain ⟨F0, e1, e2⟩ := cnt_inv (f := s_l30Far_b0) (fun j (F : List Int) => F = List.replicate j (-1)) N.length (s := []) rfl (fun j F hj hF => by
    subst hF
    unfold s_l30Far_b0
    rw [app1 (by rw [List.length_replicate]; omega) rfl, Option.bind_some]
    exact ⟨_, rfl, by rw [List.replicate_succ']⟩)
  have hF0 : F0.length = n := by rw [e2, List.length_replicate, hl]
  obtain ⟨F1, f1, f2⟩ := setI_some (xs := F0) (i := s) (0 : Int) s0 (by omega)
  have h0 : ∀ k : Int, 0 ≤ k → k < n → ∃ x, idx F1 k = some x ∧ At (scN N M) s 0 k x := fun k k0 k1 => by
    rw [idx_setI f1]
    by_cases e : k = s
    · rw [if_pos e]
      exact ⟨0, rfl, .inr ⟨0, rfl, Nat.le_refl _, e, fun e' h => absurd h (Nat.not_lt_zero _)⟩⟩
    · rw [if_neg e, e2, idx_int k0, List.getElem?_replicate, if_pos (by omega)]
      exact ⟨-1, rfl, .inl ⟨rfl, fun d hd h => by
        have : d = 0 := by omega
        subst this; exact e h⟩⟩
  have hinM : ∀ {d : Nat} {u : Int}, Lv (scN N M) s d u → In M u := fun {d u} h => by
    cases d with
    | zero =>
      have h : u = s := h
      rw [h]; exact hs
    | succ d =>
      obtain ⟨w, hw, _⟩ := h
      exact (mem_scN.1 hw).1
  obtain ⟨F2, g1, g2, g3⟩ := cnt_inv (f := s_l30Far_b2 N M) (fun t (F : List Int) => F.length = n ∧ ∀ k : Int, 0 ≤ k → k < n → ∃ x, idx F k = some x ∧ At (scN N M) s t k x) N.length (s := F1) ⟨by omega, h0⟩ (fun t F ht ⟨a1, a2⟩ => by
    obtain ⟨G, c1, c2, c3⟩ := cnt_inv (f := s_l30Far_b4 N M (t : Int)) (fun j (F : List Int) => F.length = n ∧ ∀ k : Int, 0 ≤ k → k < n → ∃ x, idx F k = some x ∧ (if k < (j : Int) then At (scN N M) s (t + 1) k x else At (scN N M) s t k x)) N.length (s := F) ⟨a1, fun k k0 k1 => by
        obtain ⟨x, h1, h2⟩ := a2 k k0 k1
        exact ⟨x, h1, by rw [if_neg (by omega)]; exact h2⟩⟩ (fun j F hj ⟨d1, d2⟩ => by
      have hrow : N[j]? = some N[j] := List.getElem?_eq_getElem hj
      generalize N[j] = row at hrow
      have hrow' : idx N (j : Int) = some row := by rw [idx_nat]; exact hrow
      obtain ⟨l1, l2⟩ := g.row (j : Int) row hrow'
      have hread : ∀ u : Int, 0 ≤ u → u < n → ∃ x, idx F u = some x ∧ (x = (t : Int) ↔ Dm (scN N M) s u t) := fun u u0 u1 => by
        obtain ⟨x, h1, h2⟩ := d2 u u0 u1
        refine ⟨x, h1, ?_⟩
        by_cases e : u < (j : Int)
        · rw [if_pos e] at h2; exact h2.is (by omega)
        · rw [if_neg e] at h2; exact h2.is (Nat.le_refl _)
      obtain ⟨x, hx, hax⟩ := d2 (j : Int) (by omega) (by omega)
      rw [if_neg (Int.lt_irrefl _)] at hax
      have hMj := In_get (B := M) (v := (j : Int)) (by omega) (by omega)
      -- the end of the inner loop
      have hin : ∃ i G, whileM (s_l30Far_b6 N M (t : Int) (j : Int)) (2 ^ 64) (0, F) = some (.inr (i, G)) ∧ G.length = n ∧ (∀ k : Int, k ≠ (j : Int) → idx G k = idx F k) ∧ ∃ y, idx G (j : Int) = some y ∧ At (scN N M) s (t + 1) (j : Int) y := by
        by_cases hneg : x < 0
        · have hno := hax.neg.1 hneg
          by_cases hMi : In M (j : Int)
          · obtain ⟨o, w1, w2⟩ := while_out (f := s_l30Far_b6 N M (t : Int) (j : Int)) (fun i (q : Int × List Int) => q.1 = (i : Int) ∧ i ≤ row.length ∧ ((q.2 = F ∧ ∀ u ∈ row.take i, ¬ Dm (scN N M) s u t) ∨ (setI F (j : Int) ((t : Int) + 1) = some q.2 ∧ ∃ u ∈ row, Dm (scN N M) s u t))) (fun _ => False) (fun q => (q.2 = F ∧ ∀ u ∈ row, ¬ Dm (scN N M) s u t) ∨ (setI F (j : Int) ((t : Int) + 1) = some q.2 ∧ ∃ u ∈ row, Dm (scN N M) s u t)) row.length (fun i q ⟨b1, b2, b3⟩ => by
              obtain ⟨i', G⟩ := q
              dsimp only at b1 b3
              subst b1
              unfold s_l30Far_b6
              dsimp only
              rw [hrow', Option.bind_some]
              by_cases hlt : i < row.length
              · rw [decide_eq_true (show (i : Int) < (row.length : Int) by omega), cond_true]
                rcases b3 with ⟨b3, b4⟩ | ⟨b3, b4⟩
                · subst b3
                  have hu : row[i]? = some row[i] := List.getElem?_eq_getElem hlt
                  generalize row[i] = u at hu
                  obtain ⟨u0, u1⟩ := l2 u (List.mem_of_getElem? hu)
                  obtain ⟨z, z1, z2⟩ := hread u u0 u1
                  obtain ⟨G', hG', _⟩ := setI_some (xs := G) (i := (j : Int)) ((t : Int) + 1) (by omega) (by omega)
                  rw [hx, Option.bind_some, decide_eq_true hneg, Option.bind_some, cond_true, hMj, Option.bind_some, decide_eq_true hMi, Option.bind_some, cond_true, Option.bind_some, idx_nat, hu, Option.bind_some, z1, Option.bind_some]
                  have wi : IntKind.i64.wrap ((i : Int) + 1) = ((i + 1 : Nat) : Int) := by rw [wr' (by omega) (by omega)]; omega
                  have wt : IntKind.i64.wrap ((t : Int) + 1) = (t : Int) + 1 := wr' (by omega) (by omega)
                  by_cases hz : z = (t : Int)
                  · have hzb : (z == (t : Int)) = true := by rw [beq_iff_eq]; exact hz
                    rw [hzb, cond_true, Option.bind_some, wt, hG', Option.bind_some, Option.bind_some, wi]
                    exact ⟨_, rfl, hlt, rfl, by omega, .inr ⟨rfl, u, List.mem_of_getElem? hu, z2.1 hz⟩⟩
                  · have hzb : (z == (t : Int)) = false := by rw [beq_eq_false_iff_ne]; exact hz
                    rw [hzb, cond_false, Option.bind_some, wi]
                    refine ⟨_, rfl, hlt, rfl, by omega, .inl ⟨rfl, fun w hw => ?_⟩⟩
                    rw [List.take_add_one, hu] at hw
                    rcases List.mem_append.1 hw with hw | hw
                    · exact b4 w hw
                    · have : w = u := by simpa using hw
                      subst this
                      exact fun h => hz (z2.2 h)
                · have hGj : idx G (j : Int) = some ((t : Int) + 1) := by rw [idx_setI b3, if_pos rfl]
                  rw [hGj, Option.bind_some, decide_eq_false (by omega), Option.bind_some, cond_false, Option.bind_some, cond_false]
                  exact ⟨_, rfl, .inr ⟨b3, b4⟩⟩
              · have : i = row.length := by omega
                subst this
                rw [decide_eq_false (Int.lt_irrefl _), cond_false, Option.bind_some, cond_false, Option.bind_some, cond_false]
                rw [List.take_length] at b3
                exact ⟨_, rfl, b3⟩) (2 ^ 64) 0 (0, F) (by omega) ⟨rfl, Nat.zero_le _, .inl ⟨rfl, fun u hu => by simp at hu⟩⟩ (by omega)
            match o, w2 with
            | .inr (i, G), w2 =>
              refine ⟨i, G, w1, ?_⟩
              rcases w2 with ⟨b3, b4⟩ | ⟨b3, u, hu, hd⟩
              · dsimp only at b3
                subst b3
                refine ⟨d1, fun _ _ => rfl, x, hx, .inl ⟨?_, fun d hd h => ?_⟩⟩
                · rcases hax with ⟨h1, _⟩ | ⟨d, h1, _⟩
                  · exact h1
                  · omega
                · by_cases e : d ≤ t
                  · exact hno d e h
                  · have : d = t + 1 := by omega
                    subst this
                    obtain ⟨w, w1, w2⟩ := h
                    obtain ⟨_, _, r, hr, hwr⟩ := mem_scN.1 w1
                    rw [hrow'] at hr
                    cases hr
                    exact b4 w hwr ⟨w2, fun e he h' => hno (e + 1) (by omega) ⟨w, w1, h'⟩⟩
              · dsimp only at b3
                refine ⟨by have := (setI_ok b3).2.2.2; omega, fun k hk => by rw [idx_setI b3, if_neg hk], (t : Int) + 1, by rw [idx_setI b3, if_pos rfl], .inr ⟨t + 1, by omega, Nat.le_refl _, ⟨u, mem_scN.2 ⟨hMi, hinM hd.1, row, hrow', hu⟩, hd.1⟩, fun e he h => hno e (by omega) h⟩⟩
          · refine ⟨0, F, ?_, d1, fun _ _ => rfl, x, hx, .inl ⟨?_, fun d hd h => ?_⟩⟩
            · show Option.bind (s_l30Far_b6 N M (t : Int) (j : Int) (0, F)) _ = _
              unfold s_l30Far_b6
              dsimp only
              rw [hrow', Option.bind_some, hx, Option.bind_some, decide_eq_true hneg, hMj, decide_eq_false hMi]
              cases decide ((0 : Int) < (row.length : Int)) <;> rfl
            · rcases hax with ⟨h1, _⟩ | ⟨d, h1, _⟩
              · exact h1
              · omega
            · exact hMi (hinM h)
        · refine ⟨0, F, ?_, d1, fun _ _ => rfl, x, hx, ?_⟩
          · show Option.bind (s_l30Far_b6 N M (t : Int) (j : Int) (0, F)) _ = _
            unfold s_l30Far_b6
            dsimp only
            rw [hrow', Option.bind_some, hx, Option.bind_some, decide_eq_false hneg]
            cases decide ((0 : Int) < (row.length : Int)) <;> rfl
          · rcases hax with ⟨h1, _⟩ | ⟨d, h1, h2, h3⟩
            · omega
            · exact .inr ⟨d, h1, by omega, h3⟩
      obtain ⟨i, G, q1, q2, q3, y, q4, q5⟩ := hin
      unfold s_l30Far_b4
      rw [q1, Option.bind_some, aft_inr]
      refine ⟨_, rfl, q2, fun k k0 k1 => ?_⟩
      dsimp only
      by_cases e : k = (j : Int)
      · subst e
        exact ⟨y, q4, by rw [if_pos (by omega)]; exact q5⟩
      · rw [q3 k e]
        obtain ⟨z, z1, z2⟩ := d2 k k0 k1
        refine ⟨z, z1, ?_⟩
        by_cases e' : k < (j : Int)
        · rw [if_pos e'] at z2; rw [if_pos (by omega)]; exact z2
        · rw [if_neg e'] at z2; rw [if_neg (by omega)]; exact z2)
    unfold s_l30Far_b2
    rw [c1, Option.bind_some, aft_inr]
    refine ⟨_, rfl, c2, fun k k0 k1 => ?_⟩
    obtain ⟨x, h1, h2⟩ := c3 k k0 k1
    rw [if_pos (by omega)] at h2
    exact ⟨x, h1, h2⟩)
  unfold s_l30Far
  rw [e1, Option.bind_some, aft_inr]
  obtain ⟨z, hz⟩ := idx_some (xs := F0) (i := s) s0 (by omega)
  rw [hz, Option.bind_some, f1, Option.bind_some, g1, Option.bind_some, aft_inr]
  have hrng : ∀ a b, b ∈ scN N M a → 0 ≤ b ∧ b < (n : Int) := fun a b h => In_of g.lm (mem_scN.1 h).2.1
  refine ⟨F2, rfl, g2, fun k k0 k1 => ?_⟩
  obtain ⟨x, h1, h2⟩ := g3 k k0 k1
  refine ⟨x, h1, ?_⟩
  rcases h2 with ⟨a, b⟩ | ⟨d, a, b, c⟩
  · refine .inl ⟨a, fun d h => ?_⟩
    obtain ⟨e, _, he⟩ := h.min
    obtain ⟨l, l1, l2, l3, _⟩ := he.list hrng k0 k1
    have := nodup_lenN n l l2 l3
    exact b e (by omega) he.1
  · obtain ⟨l, l1, l2, l3, _⟩ := c.list hrng k0 k1
    have := nodup_lenN n l l2 l3
    exact .inr ⟨d, a, by omega, c⟩
end
noncomputable def hitN (N : List (List Int)) (M : List Bool) (S : List Int) : List Int := S.filter fun s => decide (In M s ∧ Far (scN N M) s)
end Go.Proofs.Ytcmamhmpoinmnaa
set_option linter.unusedVariables false
set_option linter.unusedSimpArgs false
namespace Go.Proofs.Ytcmamhmpoinmnaa
open Go Go.Wk Go.Proofs
open Classical
def mayM (n : Nat) (S : List Int) : List Bool := (List.range n).map fun i : Nat => !decide ((i : Int) ∈ S)
theorem mayM_len (n : Nat) (S : List Int) : (mayM n S).length = n := by simp [mayM]
theorem mayM_in {n : Nat} {S : List Int} (v : Int) : In (mayM n S) v ↔ (0 ≤ v ∧ v < n) ∧ v ∉ S := by
  constructor
  · intro h
    obtain ⟨v0, v1⟩ := In_of (mayM_len n S) h
    obtain ⟨i, hi⟩ := ex_nat v0
    subst hi
    unfold In mayM at h
    rw [idx_nat, List.getElem?_map, List.getElem?_range (by omega)] at h
    exact ⟨⟨v0, v1⟩, by simpa using h⟩
  · rintro ⟨⟨v0, v1⟩, h⟩
    obtain ⟨i, hi⟩ := ex_nat v0
    subst hi
    unfold In mayM
    rw [idx_nat, List.getElem?_map, List.getElem?_range (by omega)]
    simp [h]
noncomputable def hitP (N : List (List Int)) (p : Pair) : List Int := hitN N (mayM N.length p.Give) p.Ask
structure Gn (N : List (List Int)) (n : Nat) : Prop where
  ln : N.length = n
  le : n ≤ 256
  row : ∀ v r, idx N v = some r → r.length ≤ 10000 ∧ ∀ u ∈ r, 0 ≤ u ∧ u < n
theorem Gn.gr {N : List (List Int)} {n : Nat} (g : Gn N n) (S : List Int) : Gr N (mayM n S) n := ⟨g.ln, mayM_len n S, g.le, g.row⟩
section
variable {N : List (List Int)} {n : Nat} (g : Gn N n)
include g
omit g in
theorem hitP_asc {p : Pair} (hA : St n p.Ask) : Asc (hitP N p) := hA.asc.filter _
theorem hitP_mem {p : Pair} (z : Int) : z ∈ hitP N p ↔ z ∈ p.Ask ∧ Far (scN N (mayM n p.Give)) z := by
  unfold hitP hitN
  rw [g.ln, List.mem_filter, decide_eq_true_eq]
  exact ⟨fun ⟨a, _, b⟩ => ⟨a, b⟩, fun ⟨a, b⟩ => ⟨a, far_in b, b⟩⟩
theorem i_outside {w : watch} (hw : w.next = N) (S : List Int) : i_watch_outside w S = some (mayM n S) := by
  have hn := g.le
  unfold i_watch_outside
  rw [hw, g.ln, mkS_nat (by omega) rfl, Option.bind_some, List.length_replicate]
  obtain ⟨M, h1, h2, h3⟩ := fill (f := i_watch_outside_b0 S) (fun j => !decide ((j : Int) ∈ S)) n (s0 := List.replicate n false) (by simp) (fun j s hj hs => by
    unfold i_watch_outside_b0
    rw [conI, Option.bind_some])
  rw [h1, Option.bind_some, aft_inr]
  congr 1
  refine List.ext_getElem? fun i => ?_
  by_cases hi : i < n
  · rw [← idx_nat, h3 i hi]
    unfold mayM
    rw [List.getElem?_map, List.getElem?_range hi]; rfl
  · rw [List.getElem?_eq_none (by omega), List.getElem?_eq_none (by rw [mayM_len]; omega)]
theorem i_targets {w : watch} (hw : w.next = N) {p : Pair} (hA : St n p.Ask) : i_watch_targets w p = some (hitP N p) := by
  have hn := g.le
  have hg := g.gr p.Give
  unfold i_watch_targets
  rw [i_outside g hw, Option.bind_some, hw, i_loops hg, Option.bind_some]
  have hlen : ∀ S ∈ loopsN N (mayM n p.Give), S.length ≤ 256 := fun S hS => by
    unfold loopsN at hS
    obtain ⟨v, _, rfl⟩ := List.mem_map.1 hS
    unfold partG
    have := marksL_len (mayM n p.Give) (mayM n p.Give).length
    rw [mayM_len] at this
    exact Nat.le_trans (List.length_filter_le _ _) (by rw [mayM_len]; omega)
  have hll : (loopsN N (mayM n p.Give)).length ≤ 256 := by
    unfold loopsN
    rw [List.length_map]
    have := marksL_len (mayM n p.Give) (mayM n p.Give).length
    rw [mayM_len] at this
    exact Nat.le_trans (List.length_filter_le _ _) (by rw [mayM_len]; omega)
  obtain ⟨s, h1, h2, h3⟩ := cnt_inv (f := i_watch_targets_b0 p (loopsN N (mayM n p.Give))) (fun j (s : List Int) => s = ((loopsN N (mayM n p.Give)).take j).flatMap (fun S => S.filter fun x => decide (x ∈ p.Ask)) ∧ s.length ≤ j * 256) (loopsN N (mayM n p.Give)).length (s := []) ⟨rfl, by simp⟩ (fun j s hj ⟨a1, a2⟩ => by
    have hS : (loopsN N (mayM n p.Give))[j]? = some (loopsN N (mayM n p.Give))[j] := List.getElem?_eq_getElem hj
    generalize (loopsN N (mayM n p.Give))[j] = S at hS
    have hSl := hlen S (List.mem_of_getElem? hS)
    obtain ⟨t, k1, k2, k3⟩ := cnt_inv (f := i_watch_targets_b2 p S) (fun i (t : List Int) => t = s ++ (S.take i).filter (fun x => decide (x ∈ p.Ask)) ∧ t.length ≤ j * 256 + i) S.length (s := s) ⟨by simp, Nat.le_trans a2 (Nat.le_add_right _ _)⟩ (fun i t hi ⟨b1, b2⟩ => by
      have hx : S[i]? = some S[i] := List.getElem?_eq_getElem hi
      generalize S[i] = x at hx
      unfold i_watch_targets_b2
      rw [idx_nat, hx, Option.bind_some, conI, Option.bind_some, List.take_add_one, hx]
      by_cases h : x ∈ p.Ask
      · rw [decide_eq_true h, cond_true, app1 (by omega) rfl, Option.bind_some, Option.bind_some]
        exact ⟨_, rfl, by rw [b1]; simp [List.filter_append, h], by simp; omega⟩
      · rw [decide_eq_false h, cond_false, Option.bind_some]
        exact ⟨_, rfl, by rw [b1]; simp [List.filter_append, h], by omega⟩)
    unfold i_watch_targets_b0
    rw [idx_nat, hS, Option.bind_some, k1, Option.bind_some, aft_inr]
    rw [List.take_length] at k2
    refine ⟨_, rfl, ?_, by omega⟩
    rw [k2, a1, List.take_add_one, hS, List.flatMap_append]
    simp)
  rw [List.take_length] at h2
  rw [h1, Option.bind_some, aft_inr]
  have hnd : s.Nodup := by
    rw [h2]
    unfold loopsN
    rw [List.flatMap_map, List.Nodup, List.pairwise_flatMap]
    refine ⟨fun v _ => ?_, ?_⟩
    · exact List.Pairwise.filter _ (asc_nodup (partG_asc v))
    · have hasc : Asc ((marksL (mayM n p.Give) (mayM n p.Give).length).filter fun v => decide (Lead (scN N (mayM n p.Give)) v)) := (marksL_asc _ _).filter _
      refine hasc.imp_of_mem fun {a b} ha hb hab x hx y hy e => ?_
      subst e
      have hlb := of_decide_eq_true (List.mem_filter.1 hb).2
      have k1 := (mem_partG.1 (List.mem_filter.1 hx).1).2
      have k2 := (mem_partG.1 (List.mem_filter.1 hy).1).2
      exact hlb.2 a hab (k1.trans k2.symm)
  have hmem : ∀ z, z ∈ s ↔ z ∈ hitP N p := fun z => by
    rw [h2, List.mem_flatMap, hitP_mem g]
    constructor
    · rintro ⟨S, hS, hz⟩
      obtain ⟨h1, h2⟩ := List.mem_filter.1 hz
      unfold loopsN at hS
      obtain ⟨v, hv, rfl⟩ := List.mem_map.1 hS
      have hl := of_decide_eq_true (List.mem_filter.1 hv).2
      exact ⟨of_decide_eq_true h2, hl.1.akin (mem_partG.1 h1).2⟩
    · rintro ⟨h1, h2⟩
      refine ⟨partG N (mayM n p.Give) z, ?_, List.mem_filter.2 ⟨mem_partG.2 ⟨far_in h2, Akin.refl z⟩, decide_eq_true h1⟩⟩
      obtain ⟨t, k1, k2, k3⟩ := partG_hd h2
      unfold loopsN
      exact List.mem_map.2 ⟨_, List.mem_filter.2 ⟨mem_marksL.2 (far_in k3.1), decide_eq_true k3⟩, (partG_eq k2).symm⟩
  have hsort : (s.mergeSort fun x y => decide (x ≤ y)) = hitP N p := asc_eq (sort_asc hnd) (hitP_asc hA) fun z => by rw [(List.mergeSort_perm s _).mem_iff, hmem]
  have hs : slices_Sort_I_int64 s = some (hitP N p) := by
    unfold slices_Sort_I_int64
    by_cases h : 0 < s.length
    · have hm : (loopsN N (mayM n p.Give)).length * 256 ≤ 256 * 256 := Nat.mul_le_mul_right _ hll
      rw [if_pos ⟨h, by omega⟩, hsort]
    · have e : s = [] := List.length_eq_zero_iff.1 (by omega)
      rw [if_neg (fun k => h k.1), if_pos (by omega)]
      rw [← hsort, e, List.mergeSort_nil]
  rw [hs]; rfl
end
noncomputable def brkN (N : List (List Int)) (ps : List Pair) : Nat → List Int
  | 0 => []
  | j + 1 => brkN N ps j ++ (match ps[j]? with | some p => if hitP N p = [] then [] else [(j : Int)] | none => [])
theorem brkN_succ (N : List (List Int)) (ps : List Pair) (j : Nat) : brkN N ps (j + 1) = brkN N ps j ++ (match ps[j]? with | some p => if hitP N p = [] then [] else [(j : Int)] | none => []) := rfl
theorem brkN_len (N : List (List Int)) (ps : List Pair) : ∀ j, (brkN N ps j).length ≤ j
  | 0 => Nat.le_refl _
  | j + 1 => by
    have := brkN_len N ps j
    rw [brkN_succ, List.length_append]
    have : (match ps[j]? with | some p => if hitP N p = [] then [] else [(j : Int)] | none => [] : List Int).length ≤ 1 := by
      cases ps[j]? with
      | none => simp
      | some p => dsimp only; split <;> simp
    omega
theorem brkN_mem (N : List (List Int)) (ps : List Pair) : ∀ (j : Nat) (z : Int), z ∈ brkN N ps j ↔ ∃ i : Nat, i < j ∧ z = (i : Int) ∧ ∃ p, ps[i]? = some p ∧ hitP N p ≠ []
  | 0, z => by simp [brkN]
  | j + 1, z => by
    rw [brkN_succ, List.mem_append, brkN_mem N ps j]
    constructor
    · rintro (⟨i, h1, h2⟩ | h)
      · exact ⟨i, by omega, h2⟩
      · cases e : ps[j]? with
        | none => rw [e] at h; cases h
        | some p =>
          rw [e] at h
          dsimp only at h
          by_cases hp : hitP N p = []
          · rw [if_pos hp] at h; cases h
          · rw [if_neg hp, List.mem_singleton] at h
            exact ⟨j, by omega, h, p, e, hp⟩
    · rintro ⟨i, h1, h2, p, h3, h4⟩
      by_cases e : i = j
      · subst e
        right
        rw [h3]
        dsimp only
        rw [if_neg h4, List.mem_singleton]
        exact h2
      · exact .inl ⟨i, by omega, h2, p, h3, h4⟩
section
variable {N : List (List Int)} {n : Nat} (g : Gn N n) {ps : List Pair} (hp : ∀ p ∈ ps, St n p.Ask) (hl : ps.length ≤ 4)
include g hp hl
theorem i_brokenW {w : watch} (hw : w.next = N) (hps : w.pairs = ps) : i_watch_broken w = some (brkN N ps ps.length) := by
  obtain ⟨s, h1, h2⟩ := cnt_inv (f := i_watch_broken_b0 w) (fun j s => s = brkN N ps j) ps.length (s := []) rfl (fun j s hj hs => by
    subst hs
    have hpj : ps[j]? = some ps[j] := List.getElem?_eq_getElem hj
    generalize ps[j] = p at hpj
    have hbl := brkN_len N ps j
    unfold i_watch_broken_b0
    rw [hps, idx_nat, hpj, Option.bind_some, i_targets g hw (hp p (List.mem_of_getElem? hpj)), Option.bind_some]
    rw [brkN_succ, hpj]
    dsimp only
    by_cases h : hitP N p = []
    · rw [h, if_pos rfl, List.append_nil]
      exact ⟨_, rfl, rfl⟩
    · have : 0 < (hitP N p).length := List.length_pos_iff.2 h
      rw [decide_eq_true (by omega), cond_true, app1 (by omega) rfl, if_neg h]
      exact ⟨_, rfl, rfl⟩)
  unfold i_watch_broken
  rw [hps, h1, Option.bind_some, aft_inr, h2]
end
structure AK (p : Sig) (m : Machine) (cs : List Clause) (n k : Nat) (D : Det) (K : List Key) (w : watch) : Prop where
  hs : sigOk p = true
  hm : machOk p m = true
  hc : clausesOk p cs = true
  ln : ltd p = ((n : Nat) : Int)
  kn : pw p.In = ((k : Nat) : Int)
  pr : PR n cs D
  hd : detOk p D = true
  pl : D.Pairs.length = cs.length
  wk : WK p m D k K w
theorem AK.gn {p : Sig} {m : Machine} {cs : List Clause} {n k : Nat} {D : Det} {K : List Key} {w : watch} (h : AK p m cs n k D K w) : Gn w.next K.length := ⟨h.wk.prod.rl, h.wk.le, fun v r hr => by
  obtain ⟨v0, _⟩ := idx_rng hr
  rw [idx_int v0] at hr
  obtain ⟨r1, u, r2, r3⟩ := h.wk.prod.row _ r hr
  have hpw := pw_le p.In
  have hk := h.kn
  refine ⟨by omega, fun x hx => ?_⟩
  obtain ⟨i, hi⟩ := List.getElem?_of_mem hx
  have hil := (List.getElem?_eq_some_iff.1 hi).1
  obtain ⟨y, y1, y2, y3⟩ := r3 i (by omega)
  rw [hi] at y1
  cases y1
  have := (List.getElem?_eq_some_iff.1 y3).1
  omega⟩
theorem AK.ps {p : Sig} {m : Machine} {cs : List Clause} {n k : Nat} {D : Det} {K : List Key} {w : watch} (h : AK p m cs n k D K w) : w.pairs.length = cs.length ∧ w.pairs.length ≤ 4 ∧ ∀ x ∈ w.pairs, St K.length x.Ask := by
  obtain ⟨_, _, d3, _⟩ := detOk_spec h.hd
  have := h.pl
  rw [h.wk.pairs, List.length_map]
  refine ⟨h.pl, d3, fun x hx => ?_⟩
  obtain ⟨y, _, rfl⟩ := List.mem_map.1 hx
  show St K.length (partN K y.Ask K.length)
  rw [partN_plK _ _ _ (Nat.le_refl _)]
  exact plK_St _ _ _ _
theorem All_same (p : Sig) (m : Machine) {cs : List Clause} (hb : ∀ c ∈ cs, Clause.bd c) : (s_l30All p m cs = some ([], [], false) ∧ i_watchAll p m cs = some (none, false) ∧ (sigOk p = true → machOk p m = true → clausesOk p cs = true → 2 < cs.length ∨ 16 < m.Next.length)) ∨
    ∃ n k D K w, AK p m cs n k D K w ∧ s_l30All p m cs = some (w.next, w.pairs, true) ∧ i_watchAll p m cs = some (some w, true) := by
  unfold s_l30All i_watchAll
  rw [i_isSig_eq, Option.bind_some]
  rcases Product_same p hb with ⟨h1, h2, h3⟩ | ⟨hs, hc, n, D, hn, hn16, hP, hd, hl, h1, h2⟩
  · left
    rw [h1, h2]
    cases hs : sigOk p with
    | false => exact ⟨rfl, rfl, fun h => by cases h⟩
    | true =>
      rw [i_isMachine_eq hs]
      cases machOk p m <;> exact ⟨rfl, rfl, fun _ _ hc => .inl (h3 hs hc)⟩
  · have hbd : ∀ x ∈ D.Pairs, x.Ask.length ≤ 1000000000 ∧ x.Give.length ≤ 1000000000 := fun x hx => by
      obtain ⟨d1, d2, _, _⟩ := detOk_spec hd
      have hD := hd
      unfold detOk at hD
      simp only [Bool.and_eq_true] at hD
      have hp := hD.1.2
      unfold pairsOk at hp
      rw [Bool.and_eq_true, List.all_eq_true] at hp
      have := hp.2 x hx
      unfold pairOk at this
      rw [Bool.and_eq_true] at this
      have a1 := (St.of this.1).len
      have a2 := (St.of this.2).len
      omega
    rw [h1, h2, hs, i_isMachine_eq hs]
    simp only [Bool.not_true, cond_false, Option.bind_some]
    unfold s_WatchOf
    rw [s_MachineOk_eq, hs, Bool.true_and, s_DetOk_eqD hs hbd, hd]
    cases hm : machOk p m with
    | false => exact .inl ⟨rfl, rfl, fun _ h => by cases h⟩
    | true =>
      have hpw := pw_le p.In
      obtain ⟨k, hk⟩ := ex_nat (z := pw p.In) (by omega)
      simp only [Bool.not_true, cond_false, Option.bind_some]
      rcases watchOf_same2 hs hm hd hk with ⟨w1, w2, w3⟩ | ⟨gr, w, K, w1, w2, w3, w4, _, w6⟩
      · left
        rw [w1, w2]
        refine ⟨rfl, rfl, fun _ _ _ => ?_⟩
        have z1 := hP.size
        by_cases hc2 : 2 < cs.length
        · exact .inl hc2
        · right
          have z3 : 4 ^ cs.length ≤ 4 ^ 2 := Nat.pow_le_pow_right (by omega) (by omega)
          by_cases hm16 : 16 < m.Next.length
          · exact hm16
          · exfalso
            have : m.Next.length * D.Next.length ≤ 16 * 16 := Nat.mul_le_mul (by omega) (by omega)
            omega
      · right
        refine ⟨n, k, D, K, w, ⟨hs, hm, hc, hn, hk, hP, hd, hl, w6⟩, ?_, ?_⟩
        · rw [w1]
          simp only [Option.bind_some, Bool.not_true, cond_false, w3, aft_inr, w4]
        · rw [w2]; rfl
end Go.Proofs.Ytcmamhmpoinmnaa
set_option linter.unusedVariables false
set_option linter.unusedSimpArgs false
namespace Go.Proofs.Ytcmamhmpoinmnaa
open Go Go.Wk Go.Proofs
def Eg (N : List (List Int)) (v i x : Int) : Prop := ∃ row, idx N v = some row ∧ idx row i = some x
theorem Eg.uniq {N : List (List Int)} {v i x y : Int} : Eg N v i x → Eg N v i y → x = y := fun ⟨r, h1, h2⟩ ⟨r', h3, h4⟩ => by
  rw [h1] at h3; cases h3
  rw [h2] at h4; cases h4
  rfl
def Way (N : List (List Int)) (M : List Bool) : Int → List Int → Int → Prop
  | v, [], u => u = v
  | v, i :: w, u => ∃ x, Eg N v i x ∧ In M x ∧ Way N M x w u
theorem Way.snoc {N : List (List Int)} {M : List Bool} : ∀ {w : List Int} {v u i x : Int}, Way N M v w u → Eg N u i x → In M x → Way N M v (w ++ [i]) x
  | [], v, u, i, x, h, e, hx => by
    have h : u = v := h
    subst h
    exact ⟨x, e, hx, rfl⟩
  | j :: w, v, u, i, x, ⟨y, h1, h2, h3⟩, e, hx => ⟨y, h1, h2, h3.snoc e hx⟩
theorem Way.uniq {N : List (List Int)} {M : List Bool} : ∀ {w : List Int} {v u u' : Int}, Way N M v w u → Way N M v w u' → u = u'
  | [], v, u, u', h, h' => by
    have h : u = v := h
    have h' : u' = v := h'
    rw [h, h']
  | j :: w, v, u, u', ⟨y, h1, h2, h3⟩, ⟨y', h1', h2', h3'⟩ => by
    have := h1.uniq h1'
    subst this
    exact h3.uniq h3'
def lexL : List Int → List Int → Prop
  | a :: s, b :: t => a < b ∨ (a = b ∧ lexL s t)
  | _, _ => False
theorem lexL.trans : ∀ {a b c : List Int}, lexL a b → lexL b c → lexL a c
  | [], _, _, h, _ => by cases ‹List Int› <;> exact h.elim
  | _ :: _, [], _, h, _ => h.elim
  | _ :: _, _ :: _, [], _, h => h.elim
  | x :: a, y :: b, z :: c, h, h' => by
    rcases h with h | ⟨h, k⟩
    · rcases h' with h' | ⟨h', k'⟩
      · exact .inl (by omega)
      · exact .inl (by omega)
    · rcases h' with h' | ⟨h', k'⟩
      · exact .inl (by omega)
      · exact .inr ⟨by omega, k.trans k'⟩
theorem lexL.irr : ∀ {a : List Int}, ¬ lexL a a
  | [], h => h
  | x :: a, h => by
    rcases h with h | ⟨_, k⟩
    · omega
    · exact k.irr
theorem lexL.app {x y : Int} : ∀ {a b : List Int}, lexL a b → lexL (a ++ [x]) (b ++ [y])
  | [], b, h => by cases b <;> exact h.elim
  | _ :: _, [], h => h.elim
  | p :: a, q :: b, h => by
    rcases h with h | ⟨h, k⟩
    · exact .inl h
    · exact .inr ⟨h, k.app⟩
theorem lexL.last {i j : Int} (h : i < j) : ∀ a : List Int, lexL (a ++ [i]) (a ++ [j])
  | [] => .inl h
  | p :: a => .inr ⟨rfl, lexL.last h a⟩
def slt (a b : List Int) : Prop := a.length < b.length ∨ (a.length = b.length ∧ lexL a b)
def sle (a b : List Int) : Prop := a = b ∨ slt a b
theorem slt.trans {a b c : List Int} (h : slt a b) (h' : slt b c) : slt a c := by
  rcases h with h | ⟨h, k⟩
  · rcases h' with h' | ⟨h', k'⟩
    · exact .inl (by omega)
    · exact .inl (by omega)
  · rcases h' with h' | ⟨h', k'⟩
    · exact .inl (by omega)
    · exact .inr ⟨by omega, k.trans k'⟩
theorem slt.irr {a : List Int} (h : slt a a) : False := by
  rcases h with h | ⟨h, k⟩
  · omega
  · exact k.irr
theorem slt.app {a b : List Int} {x y : Int} (h : slt a b) : slt (a ++ [x]) (b ++ [y]) := by
  rcases h with h | ⟨h, k⟩
  · exact .inl (by simp only [List.length_append, List.length_cons, List.length_nil]; omega)
  · exact .inr ⟨by simp [h], k.app⟩
theorem slt.last {i j : Int} (h : i < j) (a : List Int) : slt (a ++ [i]) (a ++ [j]) := .inr ⟨by simp, lexL.last h a⟩
theorem sle.trans {a b c : List Int} (h : sle a b) (h' : sle b c) : sle a c := by
  rcases h with rfl | h
  · exact h'
  · rcases h' with rfl | h'
    · exact .inr h
    · exact .inr (h.trans h')
theorem sle.anti {a b : List Int} (h : sle a b) (h' : sle b a) : a = b := by
  rcases h with rfl | h
  · rfl
  · rcases h' with rfl | h'
    · rfl
    · exact (h.trans h').irr.elim
theorem sle.slt {a b c : List Int} (h : sle a b) (h' : slt b c) : slt a c := by
  rcases h with rfl | h
  · exact h'
  · exact h.trans h'
theorem sle.app {a b : List Int} (x : Int) (h : sle a b) : sle (a ++ [x]) (b ++ [x]) := by
  rcases h with rfl | h
  · exact .inl rfl
  · exact .inr h.app
theorem sle.cons {a b : List Int} (x : Int) (h : sle a b) : sle (x :: a) (x :: b) := by
  rcases h with rfl | h | ⟨h, k⟩
  · exact .inl rfl
  · exact .inr (.inl (by simp only [List.length_cons]; omega))
  · exact .inr (.inr ⟨by simp only [List.length_cons, h], .inr ⟨rfl, k⟩⟩)
def LeastW (N : List (List Int)) (M : List Bool) (v u : Int) (w : List Int) : Prop := w ≠ [] ∧ Way N M v w u ∧ ∀ w', w' ≠ [] → Way N M v w' u → sle w w'
theorem LeastW.uniq {N : List (List Int)} {M : List Bool} {v u : Int} {w w' : List Int} (h : LeastW N M v u w) (h' : LeastW N M v u w') : w = w' := (h.2.2 w' h'.1 h'.2.1).anti (h'.2.2 w h.1 h.2.1)
theorem Lv.way {N : List (List Int)} {M : List Bool} {s : Int} : ∀ {d : Nat} {k : Int}, Lv (scN N M) s d k → ∃ w : List Int, w.length = d ∧ Way N M k w s
  | 0, k, h => ⟨[], rfl, (show k = s from h).symm⟩
  | d + 1, k, ⟨u, h1, h2⟩ => by
    obtain ⟨w, w1, w2⟩ := Lv.way h2
    obtain ⟨_, hu, row, hr, hm⟩ := mem_scN.1 h1
    obtain ⟨i, hi⟩ := List.getElem?_of_mem hm
    exact ⟨(i : Int) :: w, by simp [w1], u, ⟨row, hr, by rw [idx_nat]; exact hi⟩, hu, w2⟩
theorem Way.lv {N : List (List Int)} {M : List Bool} {s : Int} : ∀ {w : List Int} {k : Int}, In M k → Way N M k w s → Lv (scN N M) s w.length k
  | [], k, _, h => (show s = k from h).symm
  | i :: w, k, hk, ⟨x, ⟨row, hr, hx⟩, hm, h⟩ => ⟨x, mem_scN.2 ⟨hk, hm, row, hr, by
    obtain ⟨i0, _, i2⟩ := idx_ok hx
    exact List.mem_of_getElem? i2⟩, Way.lv hm h⟩
end Go.Proofs.Ytcmamhmpoinmnaa
