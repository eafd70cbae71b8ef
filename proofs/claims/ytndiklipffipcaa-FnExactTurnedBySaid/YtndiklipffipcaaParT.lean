/- Games of parity: dominions, attractors. Plain law, no program in sight. -/
import Derived.Test.YtndiklipffipcaaLaw
set_option linter.unusedVariables false
set_option linter.unusedSimpArgs false
namespace Go.Proofs.Ytndiklipffipcaa.Par
open Classical

structure Gm where
  own : Int → Bool
  pri : Int → Int
  E : Int → Int → Prop

variable (G : Gm)
/-- the parity of a priority, as a player -/
def oddP (d : Int) : Bool := decide (d % 2 = 1)
def Play (p : Bool) (D : Int → Prop) (σ : Int → Int) (π : Nat → Int) : Prop := ∀ n, D (π n) ∧ G.E (π n) (π (n + 1)) ∧ (G.own (π n) = p → π (n + 1) = σ (π n))
def Wins (p : Bool) (π : Nat → Int) : Prop := ∃ d, oddP d = p ∧ (∀ N, ∃ n, N ≤ n ∧ G.pri (π n) = d) ∧ ∃ N, ∀ n, N ≤ n → G.pri (π n) ≤ d
def Dom (X : Int → Prop) (p : Bool) (D : Int → Prop) : Prop := ∃ σ : Int → Int, (∀ v, D v → X v) ∧ (∀ v, D v → G.own v = p → G.E v (σ v) ∧ D (σ v)) ∧ (∀ v u, D v → ¬ G.own v = p → G.E v u → X u → D u) ∧ ∀ π, Play G p D σ π → Wins G p π
def NoDead (X : Int → Prop) : Prop := ∀ v, X v → ∃ u, G.E v u ∧ X u
structure IsAttr (X : Int → Prop) (p : Bool) (S A : Int → Prop) : Prop where
  sub : ∀ v, A v → X v
  base : ∀ v, X v → S v → A v
  rank : ∃ r : Int → Nat, ∀ v, A v → S v ∨ (G.own v = p ∧ ∃ u, G.E v u ∧ A u ∧ r u < r v) ∨ (¬ G.own v = p ∧ ∀ u, G.E v u → X u → A u ∧ r u < r v)
  mine : ∀ v u, X v → ¬ A v → G.own v = p → G.E v u → X u → ¬ A u
  yours : ∀ v, X v → ¬ A v → ¬ G.own v = p → ∃ u, G.E v u ∧ X u ∧ ¬ A u
/-- less -/
def Mn (X A : Int → Prop) : Int → Prop := fun v => X v ∧ ¬ A v
variable {G} {X : Int → Prop} {p : Bool} {S A D D' : Int → Prop}

theorem Wins.tail {π : Nat → Int} (k : Nat) (h : Wins G p (fun n => π (n + k))) : Wins G p π := by
  obtain ⟨d, h1, h2, N, h3⟩ := h
  refine ⟨d, h1, fun M => ?_, N + k, fun n hn => ?_⟩
  · obtain ⟨n, hn, he⟩ := h2 M
    exact ⟨n + k, by omega, he⟩
  · have := h3 (n - k) (by omega)
    dsimp only at this
    rwa [show n - k + k = n from by omega] at this
theorem Wins.not_both {π : Nat → Int} (h : Wins G p π) (h' : Wins G (!p) π) : False := by
  obtain ⟨d, a1, a2, N, a3⟩ := h
  obtain ⟨e, b1, b2, M, b3⟩ := h'
  obtain ⟨n, n1, n2⟩ := a2 M
  obtain ⟨m, m1, m2⟩ := b2 N
  have := b3 n n1
  have := a3 m m1
  have : d = e := by omega
  subst this
  rw [a1] at b1
  cases p <;> cases b1
theorem Play.tail {σ : Int → Int} {π : Nat → Int} (h : Play G p D σ π) (k : Nat) : Play G p D σ (fun n => π (n + k)) := fun n => by
  have := h (n + k)
  rwa [show n + k + 1 = n + 1 + k from by omega] at this

theorem Dom.disj (h : Dom G X p D) (h' : Dom G X (!p) D') {v : Int} (hv : D v) (hv' : D' v) : False := by
  obtain ⟨σ, a1, a2, a3, a4⟩ := h
  obtain ⟨τ, b1, b2, b3, b4⟩ := h'
  let f : Int → Int := fun v => if G.own v = p then σ v else τ v
  let π : Nat → Int := fun n => Nat.rec v (fun _ x => f x) n
  have hs : ∀ n, π (n + 1) = f (π n) := fun n => rfl
  have key : ∀ w, D w → D' w → G.E w (f w) ∧ D (f w) ∧ D' (f w) := fun w hw hw' => by
    by_cases ho : G.own w = p
    · have e : f w = σ w := if_pos ho
      obtain ⟨k1, k2⟩ := a2 w hw ho
      rw [e]
      exact ⟨k1, k2, b3 w _ hw' (by rw [ho]; cases p <;> simp) k1 (a1 _ k2)⟩
    · have e : f w = τ w := if_neg ho
      obtain ⟨k1, k2⟩ := b2 w hw' (by revert ho; cases G.own w <;> cases p <;> simp)
      rw [e]
      exact ⟨k1, a3 w _ hw ho k1 (b1 _ k2), k2⟩
  have inv : ∀ n, D (π n) ∧ D' (π n) := fun n => by
    induction n with
    | zero => exact ⟨hv, hv'⟩
    | succ n ih =>
      obtain ⟨_, k2, k3⟩ := key _ ih.1 ih.2
      rw [hs]; exact ⟨k2, k3⟩
  refine (a4 π fun n => ⟨(inv n).1, by rw [hs]; exact (key _ (inv n).1 (inv n).2).1, fun ho => by rw [hs]; exact if_pos ho⟩).not_both (b4 π fun n => ⟨(inv n).2, by rw [hs]; exact (key _ (inv n).1 (inv n).2).1, fun ho => by rw [hs]; exact if_neg (by rw [ho]; cases p <;> simp)⟩)

theorem Dom.empty : Dom G X p (fun _ => False) := ⟨id, fun _ h => h.elim, fun _ h => h.elim, fun _ _ h => h.elim, fun π h => (h 0).1.elim⟩
theorem Dom.congr (h : Dom G X p D) (e : ∀ v, D v ↔ D' v) : Dom G X p D' := by
  have : D = D' := funext fun v => propext (e v)
  exact this ▸ h
theorem Dom.congrX {X' : Int → Prop} (h : Dom G X p D) (e : ∀ v, X v ↔ X' v) : Dom G X' p D := by
  have : X = X' := funext fun v => propext (e v)
  exact this ▸ h

/-- a descent without an end -/
theorem descent {r : Nat → Nat} (h : ∀ n, r (n + 1) < r n) : False := by
  have : ∀ n, r n + n ≤ r 0 := fun n => by
    induction n with
    | zero => omega
    | succ n ih => have := h n; omega
  have := this (r 0 + 1)
  omega

/-- what one wins beside the attractor of what one wins -/
theorem Dom.grow (h1 : Dom G X p D) (hA : IsAttr G X p D A) (h2 : Dom G (Mn X A) p D') : Dom G X p (fun v => A v ∨ D' v) := by
  obtain ⟨σ, a1, a2, a3, a4⟩ := h1
  obtain ⟨τ, b1, b2, b3, b4⟩ := h2
  obtain ⟨r, hr⟩ := hA.rank
  have hDA : ∀ v, D v → A v := fun v hv => hA.base v (a1 v hv) hv
  let f : Int → Int := fun v => if D v then σ v else if h : ∃ u, G.E v u ∧ A u ∧ r u < r v then h.choose else τ v
  have fD : ∀ v, D v → f v = σ v := fun v hv => if_pos hv
  have fA : ∀ v, A v → ¬ D v → G.own v = p → G.E v (f v) ∧ A (f v) ∧ r (f v) < r v := fun v hv hd ho => by
    rcases hr v hv with h | ⟨_, h⟩ | ⟨h, _⟩
    · exact absurd h hd
    · have e : f v = h.choose := by show (if D v then _ else _) = _; rw [if_neg hd, dif_pos h]
      rw [e]; exact h.choose_spec
    · exact absurd ho h
  have fT : ∀ v, D' v → G.own v = p → f v = τ v := fun v hv ho => by
    obtain ⟨hx, ha⟩ := b1 v hv
    have : ¬ ∃ u, G.E v u ∧ A u ∧ r u < r v := fun ⟨u, k1, k2, _⟩ => hA.mine v u hx ha ho k1 (hA.sub u k2) k2
    show (if D v then _ else _) = _
    rw [if_neg (fun h => ha (hDA v h)), dif_neg this]
  refine ⟨f, ?_, ?_, ?_, ?_⟩
  · rintro v (h | h)
    · exact hA.sub v h
    · exact (b1 v h).1
  · rintro v (h | h) ho
    · by_cases hd : D v
      · rw [fD v hd]; exact ⟨(a2 v hd ho).1, .inl (hDA _ (a2 v hd ho).2)⟩
      · exact ⟨(fA v h hd ho).1, .inl (fA v h hd ho).2.1⟩
    · rw [fT v h ho]; exact ⟨(b2 v h ho).1, .inr (b2 v h ho).2⟩
  · rintro v u (h | h) ho he hx
    · by_cases hd : D v
      · exact .inl (hDA u (a3 v u hd ho he hx))
      · rcases hr v h with h' | ⟨h', _⟩ | ⟨_, h'⟩
        · exact absurd h' hd
        · exact absurd h' ho
        · exact .inl (h' u he hx).1
    · by_cases ha : A u
      · exact .inl ha
      · exact .inr (b3 v u h ho he ⟨hx, ha⟩)
  · intro π hπ
    have hX : ∀ n, X (π n) := fun n => by
      rcases (hπ n).1 with h | h
      · exact hA.sub _ h
      · exact (b1 _ h).1
    by_cases hD : ∃ n, D (π n)
    · obtain ⟨n, hn⟩ := hD
      have st : ∀ k, D (π (k + n)) := fun k => by
        induction k with
        | zero => rwa [Nat.zero_add]
        | succ k ih =>
          have e : k + 1 + n = k + n + 1 := by omega
          by_cases ho : G.own (π (k + n)) = p
          · have := (hπ (k + n)).2.2 ho
            rw [fD _ ih] at this
            rw [e, this]
            exact (a2 _ ih ho).2
          · rw [e]; exact a3 _ _ ih ho (hπ (k + n)).2.1 (hX _)
      refine Wins.tail n (a4 _ fun k => ⟨st k, ?_, fun ho => ?_⟩)
      · have := (hπ (k + n)).2.1
        rwa [show k + n + 1 = k + 1 + n from by omega] at this
      · have := (hπ (k + n)).2.2 ho
        rw [fD _ (st k), show k + n + 1 = k + 1 + n from by omega] at this
        exact this
    · have hD : ∀ n, ¬ D (π n) := fun n h => hD ⟨n, h⟩
      by_cases hA' : ∃ n, A (π n)
      · obtain ⟨n, hn⟩ := hA'
        have step : ∀ m, A (π m) → A (π (m + 1)) ∧ r (π (m + 1)) < r (π m) := fun m hm => by
          by_cases ho : G.own (π m) = p
          · rw [(hπ m).2.2 ho]; exact (fA _ hm (hD m) ho).2
          · rcases hr _ hm with h' | ⟨h', _⟩ | ⟨_, h'⟩
            · exact absurd h' (hD m)
            · exact absurd h' ho
            · exact h' _ (hπ m).2.1 (hX _)
        have st : ∀ k, A (π (k + n)) := fun k => by
          induction k with
          | zero => rwa [Nat.zero_add]
          | succ k ih => rw [show k + 1 + n = k + n + 1 from by omega]; exact (step _ ih).1
        exact (descent (r := fun k => r (π (k + n))) fun k => by
          have := (step _ (st k)).2
          rwa [show k + n + 1 = k + 1 + n from by omega] at this).elim
      · have hT : ∀ n, D' (π n) := fun n => (hπ n).1.resolve_left fun h => hA' ⟨n, h⟩
        refine b4 π fun n => ⟨hT n, (hπ n).2.1, fun ho => ?_⟩
        rw [(hπ n).2.2 ho, fT _ (hT n) ho]

/-- what the other one wins beside an attractor -/
theorem Dom.lift (hA : IsAttr G X p S A) (h : Dom G (Mn X A) (!p) D) : Dom G X (!p) D := by
  obtain ⟨τ, b1, b2, b3, b4⟩ := h
  refine ⟨τ, fun v hv => (b1 v hv).1, b2, fun v u hv ho he hx => b3 v u hv ho he ⟨hx, ?_⟩, b4⟩
  have ho' : G.own v = p := by revert ho; cases G.own v <;> cases p <;> simp
  exact hA.mine v u (b1 v hv).1 (b1 v hv).2 ho' he hx

/-- where the greatest priority is one's own -/
theorem Dom.top {d : Int} (hN : NoDead G X) (hd : ∀ v, X v → G.pri v ≤ d) (hp : oddP d = p) (hA : IsAttr G X p (fun v => G.pri v = d) A) (h : Dom G (Mn X A) p (Mn X A)) : Dom G X p X := by
  obtain ⟨τ, b1, b2, b3, b4⟩ := h
  obtain ⟨r, hr⟩ := hA.rank
  let f : Int → Int := fun v => if h : ∃ u, G.E v u ∧ A u ∧ r u < r v then h.choose else if A v then (if h : ∃ u, G.E v u ∧ X u then h.choose else v) else τ v
  have fT : ∀ v, Mn X A v → G.own v = p → f v = τ v := fun v hv ho => by
    have : ¬ ∃ u, G.E v u ∧ A u ∧ r u < r v := fun ⟨u, k1, k2, _⟩ => hA.mine v u hv.1 hv.2 ho k1 (hA.sub u k2) k2
    show (if h : _ then _ else _) = _
    rw [dif_neg this, if_neg hv.2]
  have fA : ∀ v, A v → ¬ G.pri v = d → G.own v = p → A (f v) ∧ r (f v) < r v := fun v hv hd ho => by
    rcases hr v hv with h | ⟨_, h⟩ | ⟨h, _⟩
    · exact absurd h hd
    · have e : f v = h.choose := dif_pos h
      rw [e]; exact h.choose_spec.2
    · exact absurd ho h
  refine ⟨f, fun _ h => h, fun v hv ho => ?_, fun v u _ _ _ hx => hx, fun π hπ => ?_⟩
  · by_cases ha : A v
    · by_cases h : ∃ u, G.E v u ∧ A u ∧ r u < r v
      · have e : f v = h.choose := dif_pos h
        rw [e]; exact ⟨h.choose_spec.1, hA.sub _ h.choose_spec.2.1⟩
      · have h2 := hN v hv
        have e : f v = h2.choose := by
          show (if h : _ then _ else _) = _
          rw [dif_neg h, if_pos ha, dif_pos h2]
        rw [e]; exact h2.choose_spec
    · rw [fT v ⟨hv, ha⟩ ho]
      have := b2 v ⟨hv, ha⟩ ho
      exact ⟨this.1, this.2.1⟩
  · have hX : ∀ n, X (π n) := fun n => (hπ n).1
    by_cases hinf : ∀ N, ∃ n, N ≤ n ∧ G.pri (π n) = d
    · exact ⟨d, hp, hinf, 0, fun n _ => hd _ (hX n)⟩
    · obtain ⟨N, hN'⟩ := Classical.not_forall.1 hinf
      have hne : ∀ n, N ≤ n → ¬ G.pri (π n) = d := fun n hn h => hN' ⟨n, hn, h⟩
      by_cases hA' : ∃ n, N ≤ n ∧ A (π n)
      · obtain ⟨n, hnN, hn⟩ := hA'
        have step : ∀ m, N ≤ m → A (π m) → A (π (m + 1)) ∧ r (π (m + 1)) < r (π m) := fun m hm' hm => by
          by_cases ho : G.own (π m) = p
          · rw [(hπ m).2.2 ho]; exact fA _ hm (hne m hm') ho
          · rcases hr _ hm with h' | ⟨h', _⟩ | ⟨_, h'⟩
            · exact absurd h' (hne m hm')
            · exact absurd h' ho
            · exact h' _ (hπ m).2.1 (hX _)
        have st : ∀ k, A (π (k + n)) := fun k => by
          induction k with
          | zero => rwa [Nat.zero_add]
          | succ k ih => rw [show k + 1 + n = k + n + 1 from by omega]; exact (step _ (by omega) ih).1
        exact (descent (r := fun k => r (π (k + n))) fun k => by
          have := (step _ (by omega) (st k)).2
          rwa [show k + n + 1 = k + 1 + n from by omega] at this).elim
      · have hT : ∀ n, N ≤ n → Mn X A (π n) := fun n hn => ⟨hX n, fun h => hA' ⟨n, hn, h⟩⟩
        refine Wins.tail N (b4 _ fun k => ⟨hT _ (by omega), ?_, fun ho => ?_⟩)
        · have := (hπ (k + N)).2.1
          rwa [show k + N + 1 = k + 1 + N from by omega] at this
        · have := (hπ (k + N)).2.2 ho
          rw [fT _ (hT _ (by omega)) ho, show k + N + 1 = k + 1 + N from by omega] at this
          exact this

theorem NoDead.less (h : NoDead G X) (hA : IsAttr G X p S A) : NoDead G (Mn X A) := fun v ⟨hx, ha⟩ => by
  by_cases ho : G.own v = p
  · obtain ⟨u, k1, k2⟩ := h v hx
    exact ⟨u, k1, k2, hA.mine v u hx ha ho k1 k2⟩
  · obtain ⟨u, k1, k2, k3⟩ := hA.yours v hx ha ho
    exact ⟨u, k1, k2, k3⟩

/-- W is what p wins, the rest is what the other one wins -/
structure Sol (G : Gm) (X : Int → Prop) (p : Bool) (W : Int → Prop) : Prop where
  sub : ∀ v, W v → X v
  mine : Dom G X p W
  yours : Dom G X (!p) (Mn X W)
theorem Sol.uniq {W W' : Int → Prop} (h : Sol G X p W) (h' : Sol G X p W') (v : Int) : W v ↔ W' v := by
  constructor
  · intro hv
    by_cases hv' : W' v
    · exact hv'
    · exact (Dom.disj h.mine h'.yours hv ⟨h.sub v hv, hv'⟩).elim
  · intro hv
    by_cases hv' : W v
    · exact hv'
    · exact (Dom.disj h'.mine h.yours hv ⟨h'.sub v hv, hv'⟩).elim
theorem Sol.flip {W : Int → Prop} (h : Sol G X p W) : Sol G X (!p) (Mn X W) := by
  refine ⟨fun v hv => hv.1, h.yours, ?_⟩
  rw [Bool.not_not]
  refine h.mine.congr fun v => ⟨fun hv => ⟨h.sub v hv, fun hm => hm.2 hv⟩, fun hv => ?_⟩
  by_cases hw : W v
  · exact hw
  · exact absurd ⟨hv.1, hw⟩ hv.2
theorem Sol.congr {W W' : Int → Prop} (h : Sol G X p W) (e : ∀ v, W v ↔ W' v) : Sol G X p W' := by
  have : W = W' := funext fun v => propext (e v)
  exact this ▸ h
theorem Sol.congrX {X' W : Int → Prop} (h : Sol G X p W) (e : ∀ v, X v ↔ X' v) : Sol G X' p W := by
  have : X = X' := funext fun v => propext (e v)
  exact this ▸ h
end Go.Proofs.Ytndiklipffipcaa.Par
