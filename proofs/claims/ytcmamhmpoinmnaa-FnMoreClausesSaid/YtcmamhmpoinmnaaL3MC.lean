/- The reference's way is the least one. -/
import Derived.Test.YtcmamhmpoinmnaaL2MC
import Derived.Test.YtcmamhmpoinmnaaL1MC
import Derived.Test.YtcmamhmpoinmnaaL0MC
set_option linter.unusedVariables false
set_option linter.unusedSimpArgs false
namespace Go.Proofs.Ytcmamhmpoinmnaa
open Go Go.Wk Go.Proofs
structure FarT (N : List (List Int)) (M : List Bool) (n : Nat) (s : Int) (F : List Int) : Prop where
 len : F.length = n
 at_ : ∀ k : Int, 0 ≤ k → k < n → ∃ x, idx F k = some x ∧ ((x = -1 ∧ ∀ d, ¬ Lv (scN N M) s d k) ∨ ∃ d : Nat, x = (d : Int) ∧ d < n ∧ Dm (scN N M) s k d)
theorem FarT.of {N : List (List Int)} {M : List Bool} {n : Nat} (g : Gr N M n) {s : Int} (hs : In M s) : ∃ F, s_l30Far N M s = some F ∧ FarT N M n s F := by
 obtain ⟨F, h1, h2, h3⟩ := s_far g hs
 exact ⟨F, h1, h2, h3⟩
section
variable {N : List (List Int)} {M : List Bool} {n : Nat} (g : Gr N M n) {s : Int} {F : List Int} (hF : FarT N M n s F)
include g hF
end
end Go.Proofs.Ytcmamhmpoinmnaa
set_option linter.unusedVariables false
set_option linter.unusedSimpArgs false
namespace Go.Proofs.Ytcmamhmpoinmnaa
open Go Go.Wk Go.Proofs
theorem Eg.tab {N : List (List Int)} {v i x : Int} (h : Eg N v i x) : tab N v i = x := by
 obtain ⟨row, h1, h2⟩ := h
 obtain ⟨v0, _, v2⟩ := idx_ok h1
 obtain ⟨i0, _, i2⟩ := idx_ok h2
 unfold Go.Proofs.Ytcmamhmpoinmnaa.tab
 rw [List.getD_eq_getElem?_getD (l := N), v2, Option.getD_some, List.getD_eq_getElem?_getD, i2, Option.getD_some]
def Bef (i' j' i j : Nat) : Prop := i' < i ∨ (i' = i ∧ j' < j)
structure BF (N : List (List Int)) (M : List Bool) (n : Nat) (a b : Int) (T : List Int) (P : List (List Int)) (i j : Nat) : Prop where
 lp : P.length = T.length
 nd : T.Nodup
 t0 : T[0]? = some a
 p0 : P[0]? = some []
 nt : ∀ m, 0 < m → T[m]? ≠ some b
 rg : ∀ x ∈ T, 0 ≤ x ∧ x < n
 way : ∀ (m : Nat) t p, T[m]? = some t → P[m]? = some p → Way N M a p t
 lt : ∀ (m m' : Nat) p p', m < m' → P[m]? = some p → P[m']? = some p' → slt p p'
 org : ∀ (m : Nat) p, 0 < m → P[m]? = some p → ∃ (i' j' : Nat) (p' : List Int), p = p' ++ [(j' : Int)] ∧ P[i']? = some p' ∧ Bef i' j' i j
 pl : ∀ (m : Nat) p, P[m]? = some p → p.length ≤ m
 dn : ∀ (i' j' : Nat) t p x, Bef i' j' i j → T[i']? = some t → P[i']? = some p → Eg N t (j' : Int) x → In M x → x ≠ b ∧ ∃ (m : Nat) (p' : List Int), T[m]? = some x ∧ P[m]? = some p' ∧ sle p' (p ++ [(j' : Int)])
section
variable {N : List (List Int)} {M : List Bool} {n : Nat} {a b : Int} {T : List Int} {P : List (List Int)} {i j : Nat}
theorem BF.getP (h : BF N M n a b T P i j) {m : Nat} {t : Int} (ht : T[m]? = some t) : ∃ p, P[m]? = some p := ⟨_, List.getElem?_eq_getElem (by have := (List.getElem?_eq_some_iff.1 ht).1; have := h.lp; omega)⟩
theorem BF.row (h : BF N M n a b T P i j) {t : Int} {row : List Int} (ht : T[i]? = some t) (hr : idx N t = some row) (hj : row.length ≤ j) : BF N M n a b T P (i + 1) 0 :=
 { h with
  org := fun m p hm hp => by
   obtain ⟨i', j', p', e1, e2, e3⟩ := h.org m p hm hp
   exact ⟨i', j', p', e1, e2, .inl (by rcases e3 with e | ⟨e, _⟩ <;> omega)⟩
  dn := fun i' j' t' p x hb ht' hp hE hM => by
   refine h.dn i' j' t' p x ?_ ht' hp hE hM
   rcases hb with hb | ⟨_, hb⟩
   · by_cases e : i' = i
     · subst e
       rw [ht] at ht'; cases ht'
       obtain ⟨row', k1, k2⟩ := hE
       rw [hr] at k1; cases k1
       have := (idx_rng k2).2
       exact .inr ⟨rfl, by omega⟩
     · exact .inl (by omega)
   · omega }
theorem BF.befo (h : BF N M n a b T P i j) {p q : List Int} {m : Nat} (hp : P[i]? = some p) (hq : P[m]? = some q) : slt q (p ++ [(j : Int)]) := by
 by_cases hm : m = 0
 · subst hm
   have := h.p0
   rw [hq] at this
   cases this
   exact .inl (by simp)
 · obtain ⟨i', j', p', e1, e2, e3⟩ := h.org m q (by omega) hq
   subst e1
   rcases e3 with e | ⟨e, e'⟩
   · exact (h.lt i' i p' p e e2 hp).app
   · subst e
     rw [hp] at e2; cases e2
     exact slt.last (by omega) p
theorem BF.skip (h : BF N M n a b T P i j) {t x : Int} {p : List Int} (ht : T[i]? = some t) (hp : P[i]? = some p) (hE : Eg N t (j : Int) x) (hx : In M x → x ≠ b ∧ x ∈ T) : BF N M n a b T P i (j + 1) :=
 { h with
  org := fun m p hm hp => by
   obtain ⟨i', j', p', e1, e2, e3⟩ := h.org m p hm hp
   exact ⟨i', j', p', e1, e2, by rcases e3 with e | ⟨e, e'⟩; exact .inl e; exact .inr ⟨e, by omega⟩⟩
  dn := fun i' j' t' p' x' hb ht' hp' hE' hM => by
   by_cases hb' : Bef i' j' i j
   · exact h.dn i' j' t' p' x' hb' ht' hp' hE' hM
   · have e1 : i' = i := by unfold Bef at hb hb'; omega
     have e2 : j' = j := by unfold Bef at hb hb'; omega
     subst e1 e2
     rw [ht] at ht'; cases ht'
     rw [hp] at hp'; cases hp'
     have := hE.uniq hE'
     subst this
     obtain ⟨x1, x2⟩ := hx hM
     obtain ⟨m, hm⟩ := List.getElem?_of_mem x2
     obtain ⟨q, hq⟩ := h.getP hm
     exact ⟨x1, m, q, hm, hq, .inr (h.befo hp hq)⟩ }
theorem BF.push (h : BF N M n a b T P i j) {t x : Int} {p : List Int} (ht : T[i]? = some t) (hp : P[i]? = some p) (hE : Eg N t (j : Int) x) (hM : In M x) (hxb : x ≠ b) (hxT : x ∉ T) (hx : 0 ≤ x ∧ x < n) : BF N M n a b (T ++ [x]) (P ++ [p ++ [(j : Int)]]) i (j + 1) := by
 have hi := (List.getElem?_eq_some_iff.1 ht).1
 have hlp := h.lp
 have oT : ∀ {m : Nat} {y : Int}, (T ++ [x])[m]? = some y → T[m]? = some y ∨ (m = T.length ∧ y = x) := fun {m y} hy => by
  by_cases e : m < T.length
  · rw [List.getElem?_append_left e] at hy; exact .inl hy
  · have hl := (List.getElem?_eq_some_iff.1 hy).1
    rw [List.length_append] at hl
    simp only [List.length_cons, List.length_nil] at hl
    have : m = T.length := by omega
    subst this
    simp at hy
    exact .inr ⟨rfl, hy.symm⟩
 have oP : ∀ {m : Nat} {q : List Int}, (P ++ [p ++ [(j : Int)]])[m]? = some q → (P[m]? = some q ∧ m < T.length) ∨ (m = T.length ∧ q = p ++ [(j : Int)]) := fun {m q} hq => by
  by_cases e : m < P.length
  · rw [List.getElem?_append_left e] at hq; exact .inl ⟨hq, by omega⟩
  · have hl := (List.getElem?_eq_some_iff.1 hq).1
    rw [List.length_append] at hl
    simp only [List.length_cons, List.length_nil] at hl
    have : m = P.length := by omega
    subst this
    simp at hq
    exact .inr ⟨hlp, hq.symm⟩
 have upT : ∀ {m : Nat} {y : Int}, T[m]? = some y → (T ++ [x])[m]? = some y := fun {m y} hy => by
  rw [List.getElem?_append_left (List.getElem?_eq_some_iff.1 hy).1]; exact hy
 have upP : ∀ {m : Nat} {q : List Int}, P[m]? = some q → (P ++ [p ++ [(j : Int)]])[m]? = some q := fun {m q} hq => by
  rw [List.getElem?_append_left (List.getElem?_eq_some_iff.1 hq).1]; exact hq
 have up : ∀ {i' j' : Nat}, Bef i' j' i j → Bef i' j' i (j + 1) := fun {i' j'} e => by unfold Bef at e ⊢; omega
 refine { lp := by simp [hlp], nd := ?_, t0 := upT h.t0, p0 := upP h.p0, nt := fun m hm hb => ?_, rg := fun y hy => ?_, way := fun m y q hy hq => ?_, lt := fun m m' q q' hm hq hq' => ?_, org := fun m q hm hq => ?_, pl := fun m q hq => ?_, dn := fun i' j' t' p' x' hb ht' hp' hE' hM' => ?_ }
 · refine List.nodup_append.2 ⟨h.nd, by simp, fun u hu v hv e => ?_⟩
   rw [List.mem_singleton] at hv
   exact hxT (by rw [← hv, ← e]; exact hu)
 · rcases oT hb with hb | ⟨_, e⟩
   · exact h.nt m hm hb
   · exact hxb e.symm
 · rcases List.mem_append.1 hy with hy | hy
   · exact h.rg y hy
   · rw [List.mem_singleton.1 hy]; exact hx
 · rcases oT hy with hy | ⟨em, ey⟩
   · rcases oP hq with ⟨hq, _⟩ | ⟨em, _⟩
     · exact h.way m y q hy hq
     · have := (List.getElem?_eq_some_iff.1 hy).1
       omega
   · rcases oP hq with ⟨_, hq⟩ | ⟨_, eq⟩
     · omega
     · rw [ey, eq]
       exact (h.way i t p ht hp).snoc hE hM
 · rcases oP hq with ⟨hq, hl⟩ | ⟨em, eq⟩
   · rcases oP hq' with ⟨hq', _⟩ | ⟨em', eq'⟩
     · exact h.lt m m' q q' hm hq hq'
     · rw [eq']
       exact h.befo hp hq
   · rcases oP hq' with ⟨_, hl⟩ | ⟨em', _⟩ <;> omega
 · rcases oP hq with ⟨hq, _⟩ | ⟨em, eq⟩
   · obtain ⟨i', j', p', e1, e2, e3⟩ := h.org m q hm hq
     exact ⟨i', j', p', e1, upP e2, up e3⟩
   · exact ⟨i, j, p, eq, upP hp, .inr ⟨rfl, Nat.lt_succ_self _⟩⟩
 · rcases oP hq with ⟨hq, _⟩ | ⟨em, eq⟩
   · exact h.pl m q hq
   · have := h.pl i p hp
     rw [eq, List.length_append]
     simp only [List.length_cons, List.length_nil]
     omega
 · by_cases hb' : Bef i' j' i j
   · have hil : i' < T.length := by unfold Bef at hb'; omega
     rcases oT ht' with ht' | ⟨e, _⟩
     · rcases oP hp' with ⟨hp', _⟩ | ⟨e, _⟩
       · obtain ⟨x1, m, q, k1, k2, k3⟩ := h.dn i' j' t' p' x' hb' ht' hp' hE' hM'
         exact ⟨x1, m, q, upT k1, upP k2, k3⟩
       · omega
     · omega
   · have e1 : i' = i := by unfold Bef at hb hb'; omega
     have e2 : j' = j := by unfold Bef at hb hb'; omega
     subst e1 e2
     have ht2 := upT ht
     have hp2 := upP hp
     rw [ht2] at ht'; cases ht'
     rw [hp2] at hp'; cases hp'
     have := hE.uniq hE'
     subst this
     exact ⟨hxb, T.length, p ++ [(j' : Int)], by simp, by rw [← hlp]; simp, .inl rfl⟩
end
end Go.Proofs.Ytcmamhmpoinmnaa
set_option linter.unusedVariables false
set_option linter.unusedSimpArgs false
namespace Go.Proofs.Ytcmamhmpoinmnaa
open Go Go.Wk Go.Proofs
section
variable {N L : List (List Int)} {M : List Bool} {n : Nat} (g : Gr N M n) (hL : ∀ v row, idx N v = some row → ∃ l, idx L v = some l ∧ l.length = row.length) {w : watch} (hw : w.next = N) (hwl : w.letters = L) {a b : Int}
include g hL hw hwl
end
end Go.Proofs.Ytcmamhmpoinmnaa
set_option linter.unusedVariables false
set_option linter.unusedSimpArgs false
namespace Go.Proofs.Ytcmamhmpoinmnaa
open Go Go.Wk Go.Proofs
theorem Way.split {N : List (List Int)} {M : List Bool} {i : Int} {B : List Int} : ∀ {A : List Int} {v u : Int}, Way N M v (A ++ i :: B) u → ∃ x y, Way N M v A x ∧ Eg N x i y ∧ In M y
 | [], v, u, ⟨y, h1, h2, h3⟩ => ⟨v, y, rfl, h1, h2⟩
 | a :: A, v, u, ⟨z, h1, h2, h3⟩ => by
  obtain ⟨x, y, k1, k2, k3⟩ := Way.split h3
  exact ⟨x, y, ⟨z, h1, h2, k1⟩, k2, k3⟩
theorem nums_get {k i : Nat} (h : i < k) : (nums k)[i]? = some (i : Int) := by
 unfold nums
 rw [List.getElem?_map, List.getElem?_range h]; rfl
section
variable {p : Sig} {m : Machine} {d : Det} {k : Nat} {K : List Key} {w : watch} (h : WK p m d k K w)
include h
theorem wk_reach {M : List Bool} (hM : ∀ v : Int, 0 ≤ v → v < K.length → In M v) : ∀ (q : Nat), q < K.length → ∃ R, Way w.next M 0 R (q : Int) := fun q => by
 induction q using Nat.strongRecOn with
 | ind q ih =>
  intro hq
  have hu : K[q]? = some K[q] := List.getElem?_eq_getElem hq
  rcases h.prod.src q _ hu with rfl | ⟨j, x, v, a1, a2, a3, a4, a5⟩
  · exact ⟨[], rfl⟩
  · obtain ⟨R, hR⟩ := ih j a1 a2
    have hrl := h.prod.rl
    have hr : w.next[j]? = some w.next[j] := List.getElem?_eq_getElem (by omega)
    obtain ⟨_, v', b1, b2⟩ := h.prod.row j _ hr
    rw [a3] at b1; cases b1
    obtain ⟨y, y1, y2, y3⟩ := b2 x a4
    rw [← a5, ← hu] at y3
    have e := (List.getElem?_inj (by have := (List.getElem?_eq_some_iff.1 (y3.trans hu)).1; exact this) h.prod.nod).1 y3
    have ey : y = (q : Int) := by omega
    subst ey
    exact ⟨R ++ [(x : Int)], hR.snoc ⟨_, by rw [idx_nat]; exact hr, by rw [idx_nat]; exact y1⟩ (hM _ (by omega) (by omega))⟩
theorem wk_edge {v i y : Int} (hE : Eg w.next v i y) {u : Key} (hu : K[v.toNat]? = some u) : 0 ≤ i ∧ i < k ∧ tab w.letters v i = tab m.Out u.1 i * pw p.In + i ∧ ∃ z : Key, K[y.toNat]? = some z ∧ z.1 = tab m.Next u.1 i := by
 obtain ⟨row, e1, e2⟩ := hE
 obtain ⟨v0, _⟩ := idx_rng e1
 obtain ⟨i0, i1⟩ := idx_rng e2
 rw [idx_int v0] at e1
 obtain ⟨r1, u', r2, r3⟩ := h.prod.row _ row e1
 rw [hu] at r2; cases r2
 obtain ⟨i, rfl⟩ := ex_nat i0
 have hik : i < k := by omega
 obtain ⟨y', y1, y2, y3⟩ := r3 i hik
 rw [idx_nat, y1] at e2
 cases e2
 refine ⟨i0, by omega, ?_, _, y3, rfl⟩
 have hl := h.let_.2 _ u hu
 have : Eg w.letters v (i : Int) (letW m (pw p.In) u i) := ⟨_, by rw [idx_int v0]; exact hl, by rw [idx_nat, List.getElem?_map, nums_get hik]; rfl⟩
 exact this.tab
end
end Go.Proofs.Ytcmamhmpoinmnaa
set_option linter.unusedVariables false
set_option linter.unusedSimpArgs false
namespace Go.Proofs.Ytcmamhmpoinmnaa
open Go Go.Wk Go.Proofs
def mst (c : Clause) (q x : Int) : Int := monNext c.Kind q (decide (x ∈ c.A)) (decide (x ∈ c.B))
theorem tab_nums {a n : Nat} {f : Int → Int → Int} {q x : Int} (q0 : 0 ≤ q) (q1 : q < a) (x0 : 0 ≤ x) (x1 : x < n) : tab ((numsN a).map fun q => (numsN n).map fun x => f q x) q x = f q x := by
 obtain ⟨q, rfl⟩ := ex_nat q0
 obtain ⟨x, rfl⟩ := ex_nat x0
 unfold tab numsN
 rw [Int.toNat_natCast, Int.toNat_natCast]
 simp [List.getD_eq_getElem?_getD, List.getElem?_range (show q < a by omega), List.getElem?_range (show x < n by omega)]
theorem mon_tab {c : Clause} {n : Nat} {q x : Int} (q0 : 0 ≤ q) (q1 : q < monStates c.Kind) (x0 : 0 ≤ x) (x1 : x < n) : tab (monD c n).Next q x = mst c q x :=
 tab_nums (f := fun q x => mst c q x) q0 q1 x0 x1
structure Sm (n : Nat) (D : Det) (c : Clause) (i : Nat) (π : Int → Int) : Prop where
 zero : π 0 = 0
 rng : ∀ r : Int, 0 ≤ r → r < D.Next.length → 0 ≤ π r ∧ π r < monStates c.Kind
 step : ∀ r x : Int, 0 ≤ r → r < D.Next.length → 0 ≤ x → x < n → π (tab D.Next r x) = mst c (π r) x
 pair : ∃ pr, D.Pairs[i]? = some pr ∧ ∀ r : Int, 0 ≤ r → r < D.Next.length → ((r ∈ pr.Ask ↔ π r ∈ (monPair c.Kind).Ask) ∧ (r ∈ pr.Give ↔ π r ∈ (monPair c.Kind).Give))
def keyAt (K : List Key) (r : Int) : Key := (K[r.toNat]?).getD (0, 0)
theorem keyAt_get {K : List Key} {r : Int} (r0 : 0 ≤ r) (r1 : r < K.length) : K[r.toNat]? = some (keyAt K r) := by
 have h : K[r.toNat]? = some (K[r.toNat]'(by omega)) := List.getElem?_eq_getElem (by omega)
 unfold keyAt
 rw [h]; rfl
theorem plK_at {part : Key → Int} {K : List Key} {S : List Int} {r : Int} (r0 : 0 ≤ r) (r1 : r < K.length) : r ∈ plK part K S K.length ↔ part (keyAt K r) ∈ S := by
 rw [plK_mem]
 have hk := keyAt_get r0 r1
 constructor
 · rintro ⟨i, h1, h2, v, h3, h4⟩
   have : r.toNat = i := by omega
   rw [this, h3] at hk
   cases hk
   exact h4
 · intro h
   exact ⟨r.toNat, by omega, by omega, _, hk, h⟩
theorem tab_prod {ky : Key → Int → Key} {k : Nat} {K : List Key} {R : List (List Int)} (h : Prod ky k K K.length R) {r x : Int} (r0 : 0 ≤ r) (r1 : r < K.length) (x0 : 0 ≤ x) (x1 : x < k) : 0 ≤ tab R r x ∧ tab R r x < K.length ∧ keyAt K (tab R r x) = ky (keyAt K r) x := by
 have hrl := h.rl
 have hr : R[r.toNat]? = some (R[r.toNat]'(by omega)) := List.getElem?_eq_getElem (by omega)
 obtain ⟨_, v, b1, b2⟩ := h.row _ _ hr
 obtain ⟨x, rfl⟩ := ex_nat x0
 obtain ⟨y, y1, y2, y3⟩ := b2 x (by omega)
 have hv := keyAt_get r0 r1
 rw [b1] at hv
 have hv' : v = keyAt K r := Option.some.inj hv
 have ht : tab R r (x : Int) = y := by
  unfold tab
  rw [List.getD_eq_getElem?_getD (l := R), hr, Option.getD_some, List.getD_eq_getElem?_getD, Int.toNat_natCast, y1, Option.getD_some]
 have hyl := (List.getElem?_eq_some_iff.1 y3).1
 rw [ht]
 refine ⟨y2, by omega, ?_⟩
 rw [← hv']
 unfold keyAt
 rw [y3]; rfl
theorem PR.len {n : Nat} {cs : List Clause} {D : Det} (h : PR n cs D) : D.Pairs.length = cs.length := by
 induction h with
 | nil => rfl
 | @snoc cs c D K R hp k ih =>
  show (D.Pairs.map _ ++ [_]).length = _
  rw [List.length_append, List.length_map, List.length_append, ih]; rfl
theorem PR.sm {p : Sig} {n : Nat} (hn : ltd p = n) : ∀ {cs : List Clause} {D : Det}, PR n cs D → (∀ c ∈ cs, clauseOk p c = true) → ∀ (i : Nat) c, cs[i]? = some c → ∃ π, Sm n D c i π := fun {cs D} h => by
 induction h with
 | nil => intro _ i c hc; simp at hc
 | @snoc cs c' D K R hp k ih =>
  intro hok i c hc
  have hR : (jD D (monD c' n) K R).Next = R := rfl
  have hRl : R.length = K.length := k.prod.rl
  have hP : (jD D (monD c' n) K R).Pairs = D.Pairs.map (plP (·.1) K) ++ (monD c' n).Pairs.map (plP (·.2) K) := rfl
  have hDl : D.Pairs.length = cs.length := hp.len
  have hz : keyAt K 0 = (0, 0) := by
   unfold keyAt
   rw [show (0 : Int).toNat = 0 from rfl, k.prod.zero]; rfl
  have hkin : ∀ r : Int, 0 ≤ r → r < R.length → 0 ≤ (keyAt K r).1 ∧ (keyAt K r).1 < D.Next.length ∧ 0 ≤ (keyAt K r).2 ∧ (keyAt K r).2 < (monD c' n).Next.length := fun r r0 r1 =>
   k.kin _ (List.mem_of_getElem? (keyAt_get r0 (by omega)))
  have hml : (monD c' n).Next.length = monStates c'.Kind := by
   show ((numsN _).map _).length = _
   rw [List.length_map, numsN_len]
  by_cases hi : i < cs.length
  · rw [List.getElem?_append_left hi] at hc
    obtain ⟨π, s⟩ := ih (fun c hc => hok c (List.mem_append_left _ hc)) i c hc
    refine ⟨fun r => π (keyAt K r).1, ⟨by show π (keyAt K 0).1 = 0; rw [hz]; exact s.zero, fun r r0 r1 => ?_, fun r x r0 r1 x0 x1 => ?_, ?_⟩⟩
    · obtain ⟨a1, a2, _, _⟩ := hkin r r0 r1
      exact s.rng _ a1 a2
    · obtain ⟨a1, a2, _, _⟩ := hkin r r0 r1
      have ht := (tab_prod k.prod r0 (by rw [hR] at r1; omega) x0 x1).2.2
      rw [hR]
      show π (keyAt K (tab R r x)).1 = _
      rw [ht]
      exact s.step _ x a1 a2 x0 x1
    · obtain ⟨pr, p1, p2⟩ := s.pair
      refine ⟨plP (·.1) K pr, ?_, fun r r0 r1 => ?_⟩
      · rw [hP, List.getElem?_append_left (by rw [List.length_map]; omega), List.getElem?_map, p1]; rfl
      · obtain ⟨a1, a2, _, _⟩ := hkin r r0 r1
        have r1' : r < K.length := by rw [hR] at r1; omega
        obtain ⟨b1, b2⟩ := p2 _ a1 a2
        exact ⟨(plK_at r0 r1').trans b1, (plK_at r0 r1').trans b2⟩
  · have hil := (List.getElem?_eq_some_iff.1 hc).1
    rw [List.length_append] at hil
    simp only [List.length_cons, List.length_nil] at hil
    have ei : i = cs.length := by omega
    subst ei
    have hcc : c = c' := by simp at hc; exact hc.symm
    subst hcc
    refine ⟨fun r => (keyAt K r).2, ⟨by show (keyAt K 0).2 = 0; rw [hz], fun r r0 r1 => ?_, fun r x r0 r1 x0 x1 => ?_, ?_⟩⟩
    · obtain ⟨_, _, a1, a2⟩ := hkin r r0 r1
      rw [hml] at a2
      exact ⟨a1, a2⟩
    · obtain ⟨_, _, a1, a2⟩ := hkin r r0 r1
      rw [hml] at a2
      have ht := (tab_prod k.prod r0 (by rw [hR] at r1; omega) x0 x1).2.2
      rw [hR]
      show (keyAt K (tab R r x)).2 = _
      rw [ht]
      exact mon_tab a1 a2 x0 x1
    · refine ⟨plP (·.2) K (monPair c.Kind), ?_, fun r r0 r1 => ?_⟩
      · rw [hP, List.getElem?_append_right (by rw [List.length_map]; omega), List.length_map, hDl, Nat.sub_self]; rfl
      · have r1' : r < K.length := by rw [hR] at r1; omega
        exact ⟨plK_at r0 r1', plK_at r0 r1'⟩
end Go.Proofs.Ytcmamhmpoinmnaa
set_option linter.unusedVariables false
set_option linter.unusedSimpArgs false
namespace Go.Proofs.Ytcmamhmpoinmnaa
open Go Go.Wk Go.Proofs
def RunC (c : Clause) (G : List Int) : Int → List Int → Int → Prop
 | q, [], q' => q' = q
 | q, x :: l, q' => mst c q x ∉ G ∧ RunC c G (mst c q x) l q'
theorem b01_dec {P : Prop} [Decidable P] : b01 (decide P) = if P then 1 else 0 := by by_cases h : P <;> simp [h, b01]
def Tells (c : Clause) (q : Int) (l : List Int) : Prop :=
 if c.Kind = 1 then (q = 1 → ∃ x ∈ l, x ∉ c.A) ∧ (q = 0 ∨ q = 1)
 else if c.Kind = 2 then (q = 2 → ∃ (i : Nat) (x y : Int), l[i]? = some x ∧ l[i + 1]? = some y ∧ x ∈ c.A ∧ y ∉ c.B) ∧ (q = 1 → ∃ l' x, l = l' ++ [x] ∧ x ∈ c.A) ∧ (q = 0 ∨ q = 1 ∨ q = 2)
 else if c.Kind = 3 then (q = 1 → ∃ (i : Nat) (x : Int), l[i]? = some x ∧ x ∈ c.A ∧ ∀ y ∈ l.drop i, y ∉ c.B) ∧ (q = 0 ∨ q = 1)
 else if c.Kind = 6 then (q = 0 → ∀ x ∈ l, x ∉ c.A) ∧ (q = 0 ∨ q = 1)
 else True
theorem Tells.snoc {c : Clause} {q x : Int} {l : List Int} (h : Tells c q l) : Tells c (mst c q x) (l ++ [x]) := by
 unfold Tells at h ⊢
 unfold mst monNext
 by_cases k1 : c.Kind = 1
 · rw [if_pos k1] at h ⊢
   rw [if_pos k1, b01_dec]
   obtain ⟨h1, h2⟩ := h
   by_cases hx : x ∈ c.A
   · rw [if_pos hx]
     unfold mx
     rcases h2 with e | e <;> subst e
     · exact ⟨fun e => by simp at e, .inl rfl⟩
     · obtain ⟨y, y1, y2⟩ := h1 rfl
       exact ⟨fun _ => ⟨y, List.mem_append_left _ y1, y2⟩, .inr rfl⟩
   · rw [if_neg hx]
     unfold mx
     refine ⟨fun _ => ⟨x, by simp, hx⟩, .inr ?_⟩
     rcases h2 with e | e <;> subst e <;> rfl
 · rw [if_neg k1] at h ⊢
   rw [if_neg k1]
   by_cases k2 : c.Kind = 2
   · rw [if_pos k2] at h ⊢
     rw [if_pos k2, b01_dec]
     obtain ⟨h1, h2, h3⟩ := h
     by_cases hb : q = 2 ∨ (q = 1 ∧ decide (x ∈ c.B) = false)
     · rw [if_pos hb]
       refine ⟨fun _ => ?_, fun e => by omega, .inr (.inr rfl)⟩
       rcases hb with e | ⟨e, hb⟩
       · obtain ⟨i, u, y, a1, a2, a3, a4⟩ := h1 e
         refine ⟨i, u, y, ?_, ?_, a3, a4⟩
         · rw [List.getElem?_append_left (List.getElem?_eq_some_iff.1 a1).1]; exact a1
         · rw [List.getElem?_append_left (List.getElem?_eq_some_iff.1 a2).1]; exact a2
       · obtain ⟨l', u, rfl, hu⟩ := h2 e
         refine ⟨l'.length, u, x, by simp, by simp, hu, of_decide_eq_false hb⟩
     · rw [if_neg hb]
       by_cases hx : x ∈ c.A
       · rw [if_pos hx]
         exact ⟨fun e => by omega, fun _ => ⟨l, x, rfl, hx⟩, .inr (.inl rfl)⟩
       · rw [if_neg hx]
         exact ⟨fun e => by omega, fun e => by omega, .inl rfl⟩
   · rw [if_neg k2] at h ⊢
     rw [if_neg k2]
     by_cases k3 : c.Kind = 3
     · rw [if_pos k3] at h ⊢
       rw [if_pos k3, b01_dec]
       obtain ⟨h1, h2⟩ := h
       by_cases hb : x ∈ c.B
       · rw [if_pos (decide_eq_true hb)]
         exact ⟨fun e => by omega, .inl rfl⟩
       · rw [if_neg (by simpa using hb)]
         unfold mx
         by_cases hq : q = 1
         · obtain ⟨i, u, a1, a2, a3⟩ := h1 hq
           subst hq
           have hi := (List.getElem?_eq_some_iff.1 a1).1
           refine ⟨fun _ => ⟨i, u, ?_, a2, fun y hy => ?_⟩, .inr ?_⟩
           · rw [List.getElem?_append_left hi]; exact a1
           · rw [List.drop_append_of_le_length (by omega)] at hy
             rcases List.mem_append.1 hy with hy | hy
             · exact a3 y hy
             · rw [List.mem_singleton.1 hy]; exact hb
           · by_cases hx : x ∈ c.A
             · rw [if_pos hx]; rfl
             · rw [if_neg hx]; rfl
         · have e : q = 0 := by omega
           subst e
           by_cases hx : x ∈ c.A
           · rw [if_pos hx]
             refine ⟨fun _ => ⟨l.length, x, by simp, hx, fun y hy => ?_⟩, .inr rfl⟩
             rw [List.drop_append_of_le_length (Nat.le_refl _), List.drop_length, List.nil_append] at hy
             rw [List.mem_singleton.1 hy]; exact hb
           · rw [if_neg hx]
             exact ⟨fun e => by simp at e, .inl rfl⟩
     · rw [if_neg k3] at h ⊢
       rw [if_neg k3]
       by_cases k6 : c.Kind = 6
       · rw [if_pos k6] at h ⊢
         rw [if_neg (by omega), if_neg (by omega), if_pos k6, b01_dec]
         obtain ⟨h1, h2⟩ := h
         unfold mx
         by_cases hx : x ∈ c.A
         · rw [if_pos hx]
           refine ⟨fun e => ?_, .inr ?_⟩
           · exfalso
             rcases h2 with e' | e' <;> subst e' <;> simp at e
           · rcases h2 with e' | e' <;> subst e' <;> rfl
         · rw [if_neg hx]
           refine ⟨fun e y hy => ?_, ?_⟩
           · rcases List.mem_append.1 hy with hy | hy
             · refine h1 ?_ y hy
               rcases h2 with e' | e'
               · exact e'
               · subst e'; simp at e
             · rw [List.mem_singleton.1 hy]; exact hx
           · rcases h2 with e' | e' <;> subst e'
             · exact .inl rfl
             · exact .inr rfl
       · rw [if_neg k6]
         trivial
theorem Tells.run {c : Clause} {G : List Int} : ∀ {l : List Int} {q q' : Int} {l0 : List Int}, Tells c q l0 → RunC c G q l q' → Tells c q' (l0 ++ l)
 | [], q, q', l0, h, hr => by
  have hr : q' = q := hr
  subst hr
  rw [List.append_nil]; exact h
 | x :: l, q, q', l0, h, ⟨_, hr⟩ => by
  have := Tells.run (h.snoc (x := x)) hr
  rwa [List.append_assoc] at this
theorem RunC.last {c : Clause} {G : List Int} {x : Int} : ∀ {l : List Int} {q q' : Int}, RunC c G q (l ++ [x]) q' → ∃ q0, q' = mst c q0 x
 | [], q, q', ⟨_, h⟩ => ⟨q, h⟩
 | y :: l, q, q', ⟨_, h⟩ => RunC.last h
theorem RunC.each {c : Clause} {G : List Int} : ∀ {l : List Int} {q q' : Int}, RunC c G q l q' → ∀ x ∈ l, ∃ q0, mst c q0 x ∉ G
 | [], _, _, _, x, hx => by cases hx
 | y :: l, q, q', ⟨h1, h2⟩, x, hx => by
  rcases List.mem_cons.1 hx with e | hx
  · subst e; exact ⟨q, h1⟩
  · exact RunC.each h2 x hx
end Go.Proofs.Ytcmamhmpoinmnaa
set_option linter.unusedVariables false
set_option linter.unusedSimpArgs false
namespace Go.Proofs.Ytcmamhmpoinmnaa
open Go Go.Wk Go.Proofs
section
variable {p : Sig} {m : Machine} {D : Det} {k : Nat} {K : List Key} {w : watch} (h : WK p m D k K w) (hm : machOk p m = true) (hd : detOk p D = true) (hk : pw p.In = (k : Int)) {n : Nat} (hn : ltd p = n)
include h hm hd hk hn
omit hd in
theorem wk_step {v i x : Int} (v0 : 0 ≤ v) (v1 : v < K.length) (hE : Eg w.next v i x) : 0 ≤ i ∧ i < pw p.In ∧ (0 ≤ x ∧ x < K.length) ∧ 0 ≤ tab w.letters v i ∧ tab w.letters v i < n ∧ tab w.letters v i = tab m.Out (keyAt K v).1 i * pw p.In + i ∧ (keyAt K x).2 = tab D.Next (keyAt K v).2 (tab w.letters v i) ∧ 0 ≤ (keyAt K v).2 ∧ (keyAt K v).2 < D.Next.length := by
 have hu := keyAt_get v0 v1
 obtain ⟨i0, i1, l1, _⟩ := wk_edge h hE hu
 obtain ⟨t1, t2, t3⟩ := tab_prod h.prod v0 v1 i0 i1
 rw [hE.tab] at t1 t2 t3
 obtain ⟨_, _, hlen, n1, n2⟩ := machOk_spec hm
 have hin := h.kin _ (List.mem_of_getElem? hu)
 have pI := pw_le p.In
 have pO := pw_le p.Out
 obtain ⟨ro, o1, o2, o3, o4⟩ := tab_in n2 hin.1 (by omega) i0 (by omega)
 have hmul0 : 0 ≤ tab m.Out (keyAt K v).1 i * pw p.In := Int.mul_nonneg o3 (by omega)
 have hmul : (tab m.Out (keyAt K v).1 i + 1) * pw p.In ≤ pw p.Out * pw p.In := Int.mul_le_mul (by omega) (by omega) (by omega) (by omega)
 have hl : pw p.In * pw p.Out = (n : Int) := hn
 rw [Int.add_mul, Int.one_mul, Int.mul_comm (pw p.Out), hl] at hmul
 refine ⟨i0, by omega, ⟨t1, t2⟩, by rw [l1]; omega, by rw [l1]; omega, l1, ?_, hin.2.2.1, hin.2.2.2⟩
 rw [t3, l1]
 rfl
end
end Go.Proofs.Ytcmamhmpoinmnaa
set_option linter.unusedVariables false
set_option linter.unusedSimpArgs false
namespace Go.Proofs.Ytcmamhmpoinmnaa
open Go Go.Wk Go.Proofs
def stP (p : Sig) (m : Machine) (c : Clause) (v : Key) (i : Int) : Key := (tab m.Next v.1 i, mst c v.2 (tab m.Out v.1 i * pw p.In + i))
def RunP (p : Sig) (m : Machine) (c : Clause) (G : List Int) : Key → List Int → Key → Prop
 | v, [], u => u = v
 | v, i :: R, u => 0 ≤ i ∧ i < pw p.In ∧ (stP p m c v i).2 ∉ G ∧ RunP p m c G (stP p m c v i) R u
def Cnd (p : Sig) (m : Machine) (c : Clause) : Prop := ∃ (v : Key) (R Q : List Int), RunP p m c [] (0, 0) R v ∧ v.2 ∈ (monPair c.Kind).Ask ∧ Q ≠ [] ∧ RunP p m c (monPair c.Kind).Give v Q v
theorem Way.append {N : List (List Int)} {M : List Bool} {B : List Int} {x : Int} : ∀ {A : List Int} {v u : Int}, Way N M v A u → Way N M u B x → Way N M v (A ++ B) x
 | [], v, u, h, h' => by
  have h : u = v := h
  subst h; exact h'
 | i :: A, v, u, ⟨y, h1, h2, h3⟩, h' => ⟨y, h1, h2, h3.append h'⟩
theorem pigeon {n : Nat} {f : Nat → Int} (h : ∀ i, 0 ≤ f i ∧ f i < n) : ∃ i j, i < j ∧ f i = f j := by
 by_cases hd : ∃ i j, i < j ∧ f i = f j
 · exact hd
 · exfalso
   have hnd : ((List.range (n + 1)).map f).Nodup := by
    rw [List.Nodup, List.pairwise_map]
    refine List.pairwise_lt_range.imp fun {a b} hab e => hd ⟨a, b, hab, e⟩
   have := nodup_lenN n _ hnd (fun x hx => by
    obtain ⟨i, _, rfl⟩ := List.mem_map.1 hx
    exact h i)
   rw [List.length_map, List.length_range] at this
   omega
section
variable {p : Sig} {m : Machine} {D : Det} {k : Nat} {K : List Key} {w : watch} (h : WK p m D k K w) (hm : machOk p m = true) (hd : detOk p D = true) (hk : pw p.In = (k : Int)) {n : Nat} (hn : ltd p = n) {c : Clause} {i : Nat} {π : Int → Int} (s : Sm n D c i π)
def ptP (K : List Key) (π : Int → Int) (v : Int) : Key := ((keyAt K v).1, π (keyAt K v).2)
include h hm hk hn s
theorem pt_step {v j x : Int} (v0 : 0 ≤ v) (v1 : v < K.length) (hE : Eg w.next v j x) : ptP K π x = stP p m c (ptP K π v) j := by
 obtain ⟨i0, i1, ⟨x0, x1⟩, l0, l1, l2, l3, l4, l5⟩ := wk_step h hm hk hn v0 v1 hE
 have hu := keyAt_get v0 v1
 obtain ⟨_, _, _, z, z1, z2⟩ := wk_edge h hE hu
 have hz := keyAt_get x0 x1
 rw [z1] at hz
 have hz' : z = keyAt K x := Option.some.inj hz
 unfold ptP stP
 dsimp only
 rw [← hz', z2, hz', l3, s.step _ _ l4 l5 l0 l1, l2]
theorem way_run {M : List Bool} {G : List Int} (hG : ∀ y : Int, 0 ≤ y → y < K.length → In M y → (ptP K π y).2 ∉ G) : ∀ {R : List Int} {v u : Int}, 0 ≤ v → v < K.length → Way w.next M v R u → RunP p m c G (ptP K π v) R (ptP K π u)
 | [], v, u, _, _, hw => by
  have hw : u = v := hw
  rw [hw]; exact rfl
 | j :: R, v, u, v0, v1, ⟨x, h1, h2, h3⟩ => by
  obtain ⟨i0, i1, ⟨x0, x1⟩, _⟩ := wk_step h hm hk hn v0 v1 h1
  have e := pt_step h hm hk hn s v0 v1 h1
  refine ⟨i0, i1, ?_, ?_⟩
  · rw [← e]; exact hG x x0 x1 h2
  · rw [← e]; exact way_run hG x0 x1 h3
theorem run_way {M : List Bool} {G : List Int} (hG : ∀ y : Int, 0 ≤ y → y < K.length → (ptP K π y).2 ∉ G → In M y) : ∀ {R : List Int} {v : Int} {z : Key}, 0 ≤ v → v < K.length → RunP p m c G (ptP K π v) R z → ∃ u, Way w.next M v R u ∧ (0 ≤ u ∧ u < K.length) ∧ ptP K π u = z
 | [], v, z, v0, v1, hr => ⟨v, rfl, ⟨v0, v1⟩, (show z = ptP K π v from hr).symm⟩
 | j :: R, v, z, v0, v1, ⟨i0, i1, hg, hr⟩ => by
  obtain ⟨t1, t2, t3⟩ := tab_prod h.prod v0 v1 i0 (by omega)
  have hrl := h.prod.rl
  obtain ⟨row, hrow⟩ := idx_some (xs := w.next) (i := v) v0 (by omega)
  have hrow' := hrow
  rw [idx_int v0] at hrow'
  obtain ⟨r1, _, _, _⟩ := h.prod.row _ row hrow'
  obtain ⟨x, hx⟩ := idx_some (xs := row) (i := j) i0 (by omega)
  have hE : Eg w.next v j x := ⟨row, hrow, hx⟩
  have e := pt_step h hm hk hn s v0 v1 hE
  rw [hE.tab] at t1 t2
  rw [← e] at hg hr
  obtain ⟨u, u1, u2, u3⟩ := run_way hG t1 t2 hr
  exact ⟨u, ⟨x, hE, hG x t1 t2 hg, u1⟩, u2, u3⟩
end
theorem hit_iff {p : Sig} {m : Machine} {cs : List Clause} {n k : Nat} {D : Det} {K : List Key} {w : watch} (h : AK p m cs n k D K w) {i : Nat} {pr : Pair} (hpr : w.pairs[i]? = some pr) {c : Clause} (hc : cs[i]? = some c) : hitP w.next pr ≠ [] ↔ Cnd p m c := by
 have hcc := h.hc
 unfold clausesOk at hcc
 rw [Bool.and_eq_true, List.all_eq_true] at hcc
 obtain ⟨π, sm⟩ := h.pr.sm h.ln hcc.2 i c hc
 obtain ⟨dp, d1, d2⟩ := sm.pair
 have hpe : pr = partP K dp := by
  rw [h.wk.pairs, List.getElem?_map, d1] at hpr
  exact (Option.some.inj hpr).symm
 have hkin : ∀ y : Int, 0 ≤ y → y < K.length → 0 ≤ (keyAt K y).2 ∧ (keyAt K y).2 < D.Next.length := fun y y0 y1 => (h.wk.kin _ (List.mem_of_getElem? (keyAt_get y0 y1))).2.2
 have hask : ∀ y : Int, 0 ≤ y → y < K.length → (y ∈ pr.Ask ↔ (ptP K π y).2 ∈ (monPair c.Kind).Ask) := fun y y0 y1 => by
  obtain ⟨a, b⟩ := hkin y y0 y1
  rw [hpe]
  show y ∈ partN K dp.Ask K.length ↔ _
  rw [partN_plK _ _ _ (Nat.le_refl _), plK_at y0 y1]
  exact (d2 _ a b).1
 have hgive : ∀ y : Int, 0 ≤ y → y < K.length → (In (mayM K.length pr.Give) y ↔ (ptP K π y).2 ∉ (monPair c.Kind).Give) := fun y y0 y1 => by
  obtain ⟨a, b⟩ := hkin y y0 y1
  rw [mayM_in, hpe]
  show ((0 ≤ y ∧ y < K.length) ∧ y ∉ partN K dp.Give K.length) ↔ _
  rw [partN_plK _ _ _ (Nat.le_refl _), plK_at y0 y1]
  exact ⟨fun h' hg => h'.2 ((d2 _ a b).2.2 hg), fun h' => ⟨⟨y0, y1⟩, fun hg => h' ((d2 _ a b).2.1 hg)⟩⟩
 have h0 : (0 : Int) < K.length := by
  have := (List.getElem?_eq_some_iff.1 h.wk.prod.zero).1
  omega
 have hp0 : ptP K π 0 = (0, 0) := by
  have hK0 : keyAt K 0 = (0, 0) := by
   unfold keyAt
   rw [show (0 : Int).toNat = 0 from rfl, h.wk.prod.zero]; rfl
  unfold ptP
  rw [hK0]
  show ((0 : Int), π 0) = (0, 0)
  rw [sm.zero]
 have g := h.gn
 have hln := g.ln
 have hA := h.ps.2.2 pr (List.mem_of_getElem? hpr)
 have hall : ∀ v : Int, 0 ≤ v → v < K.length → In (mayM K.length []) v := fun v v0 v1 => (mayM_in v).2 ⟨⟨v0, v1⟩, by simp⟩
 constructor
 · intro hne
   obtain ⟨s, t, hst⟩ := List.exists_cons_of_ne_nil hne
   have hsm : s ∈ hitP w.next pr := by rw [hst]; simp
   obtain ⟨hsA, hsF⟩ := (hitP_mem g s).1 hsm
   obtain ⟨s0, s1⟩ := hA.rng s hsA
   obtain ⟨si, hsi⟩ := ex_nat s0
   obtain ⟨R, hR⟩ := wk_reach h.wk hall si (by omega)
   rw [← hsi] at hR
   obtain ⟨y, y1, y2⟩ := hsF
   obtain ⟨dd, hdd⟩ := y2.lv
   obtain ⟨Q, q1, q2⟩ := Lv.way (show Lv (scN w.next (mayM K.length pr.Give)) s (dd + 1) s from ⟨y, y1, hdd⟩)
   have r1 := way_run h.wk h.hm h.kn h.ln sm (M := mayM K.length []) (G := []) (fun y _ _ _ hy => by cases hy) (Int.le_refl _) h0 hR
   have r2 := way_run h.wk h.hm h.kn h.ln sm (fun y y0 y1 hy => (hgive y y0 y1).1 hy) s0 s1 q2
   rw [hp0] at r1
   exact ⟨_, R, Q, r1, (hask s s0 s1).1 hsA, fun e => by rw [e] at q1; simp at q1, r2⟩
 · rintro ⟨z, R, Q, r1, r2, r3, r4⟩
   rw [← hp0] at r1
   obtain ⟨v, v1, v2, v3⟩ := run_way h.wk h.hm h.kn h.ln sm (M := mayM K.length []) (G := []) (fun y y0 y1 _ => hall y y0 y1) (Int.le_refl _) h0 r1
   have hnext : ∀ x : Int, 0 ≤ x ∧ x < K.length ∧ ptP K π x = z → ∃ y : Int, Way w.next (mayM K.length pr.Give) x Q y ∧ (0 ≤ y ∧ y < K.length ∧ ptP K π y = z) := fun x ⟨x0, x1, x2⟩ => by
    obtain ⟨y, y1, y2, y3⟩ := run_way h.wk h.hm h.kn h.ln sm (M := mayM K.length pr.Give) (fun y y0 y1 hy => (hgive y y0 y1).2 hy) x0 x1 (by rw [x2]; exact r4)
    exact ⟨y, y1, y2.1, y2.2, y3⟩
   classical
   let nx : Int → Int := fun x => if hx : 0 ≤ x ∧ x < K.length ∧ ptP K π x = z then (hnext x hx).choose else x
   have hnx : ∀ x : Int, 0 ≤ x ∧ x < K.length ∧ ptP K π x = z → Way w.next (mayM K.length pr.Give) x Q (nx x) ∧ (0 ≤ nx x ∧ nx x < K.length ∧ ptP K π (nx x) = z) := fun x hx => by
    have : nx x = (hnext x hx).choose := dif_pos hx
    rw [this]
    exact (hnext x hx).choose_spec
   let f : Nat → Int := fun j => Nat.rec v (fun _ x => nx x) j
   have hf : ∀ j, 0 ≤ f j ∧ f j < K.length ∧ ptP K π (f j) = z := fun j => by
    induction j with
    | zero => exact ⟨v2.1, v2.2, v3⟩
    | succ j ih => exact (hnx (f j) ih).2
   obtain ⟨a, b, hab, he⟩ := pigeon (n := K.length) (f := f) fun j => ⟨(hf j).1, (hf j).2.1⟩
   have hwalk : ∀ d : Nat, ∃ W : List Int, W ≠ [] ∧ Way w.next (mayM K.length pr.Give) (f a) W (f (a + d + 1)) := fun d => by
    induction d with
    | zero => exact ⟨Q, r3, (hnx (f a) (hf a)).1⟩
    | succ d ih =>
     obtain ⟨W, w1, w2⟩ := ih
     refine ⟨W ++ Q, by simp [w1], w2.append (hnx (f (a + d + 1)) (hf (a + d + 1))).1⟩
   obtain ⟨W, w1, w2⟩ := hwalk (b - a - 1)
   rw [show a + (b - a - 1) + 1 = b from by omega, ← he] at w2
   obtain ⟨x0, x1, x2⟩ := hf a
   have hzG : z.2 ∉ (monPair c.Kind).Give := by
    have hlast : ∀ {Q : List Int} {u v : Key}, Q ≠ [] → RunP p m c (monPair c.Kind).Give u Q v → v.2 ∉ (monPair c.Kind).Give := fun {Q} => by
     induction Q with
     | nil => intro u v hne; exact absurd rfl hne
     | cons j Q ih =>
      intro u v _ ⟨_, _, q1, q2⟩
      by_cases e : Q = []
      · subst e
        have q2 : v = _ := q2
        rw [q2]; exact q1
      · exact ih e q2
    exact hlast r3 r4
   have hM : In (mayM K.length pr.Give) (f a) := (hgive _ x0 x1).2 (by rw [x2]; exact hzG)
   have hsA : f a ∈ pr.Ask := (hask _ x0 x1).2 (by rw [x2]; exact r2)
   have hL := Way.lv hM w2
   obtain ⟨j, W', hW'⟩ := List.exists_cons_of_ne_nil w1
   rw [hW'] at hL
   obtain ⟨u, u1, u2⟩ := hL
   have hF : Far (scN w.next (mayM K.length pr.Give)) (f a) := ⟨u, u1, u2.wy⟩
   have hmem : f a ∈ hitP w.next pr := (hitP_mem g (f a)).2 ⟨hsA, hF⟩
   exact List.ne_nil_of_mem hmem
theorem brk_mem {p : Sig} {m : Machine} {cs : List Clause} {n k : Nat} {D : Det} {K : List Key} {w : watch} (h : AK p m cs n k D K w) (z : Int) : z ∈ brkN w.next w.pairs w.pairs.length ↔ ∃ (i : Nat) (c : Clause), z = (i : Int) ∧ cs[i]? = some c ∧ Cnd p m c := by
 have hps := h.ps.1
 rw [brkN_mem]
 constructor
 · rintro ⟨i, h1, h2, pr, h3, h4⟩
   have hc : cs[i]? = some (cs[i]'(by omega)) := List.getElem?_eq_getElem (by omega)
   exact ⟨i, _, h2, hc, (hit_iff h h3 hc).1 h4⟩
 · rintro ⟨i, c, h1, h2, h3⟩
   have hi := (List.getElem?_eq_some_iff.1 h2).1
   have hp : w.pairs[i]? = some (w.pairs[i]'(by omega)) := List.getElem?_eq_getElem (by omega)
   exact ⟨i, by omega, h1, _, hp, (hit_iff h hp h2).2 h3⟩
end Go.Proofs.Ytcmamhmpoinmnaa
set_option linter.unusedVariables false
set_option linter.unusedSimpArgs false
namespace Go.Proofs.Ytcmamhmpoinmnaa
open Go Go.Wk Go.Proofs
theorem brkN_asc (N : List (List Int)) (ps : List Pair) : ∀ j, Asc (brkN N ps j)
 | 0 => List.Pairwise.nil
 | j + 1 => by
  rw [brkN_succ]
  refine List.pairwise_append.2 ⟨brkN_asc N ps j, ?_, fun a ha b hb => ?_⟩
  · cases ps[j]? with
    | none => exact List.Pairwise.nil
    | some p => dsimp only; split <;> simp
  · obtain ⟨i, h1, h2, _⟩ := (brkN_mem N ps j a).1 ha
    have hb' : b = (j : Int) := by
     cases e : ps[j]? with
     | none => rw [e] at hb; cases hb
     | some p =>
      rw [e] at hb
      dsimp only at hb
      split at hb
      · cases hb
      · simpa using hb
    omega
theorem i_breaks {p : Sig} {m : Machine} {cs : List Clause} (hb : ∀ c ∈ cs, Clause.bd c) (hs : sigOk p = true) (hm : machOk p m = true) (hc : clausesOk p cs = true) (h2 : cs.length ≤ 2) (h16 : m.Next.length ≤ 16) :
 ∃ L, i_BreaksIn p m cs = some L ∧ Asc L ∧ L.length ≤ 4 ∧ ∀ z, z ∈ L ↔ ∃ (i : Nat) (c : Clause), z = (i : Int) ∧ cs[i]? = some c ∧ Cnd p m c := by
 rcases All_same p m hb with ⟨_, _, h3⟩ | ⟨n, k, D, K, w, h, _, e2⟩
 · have := h3 hs hm hc
   omega
 · unfold i_BreaksIn
   rw [e2]
   simp only [Option.bind_some, cond_false, Bool.not_true, Option.getD_some, Option.isSome_some, guardS, if_true]
   rw [i_brokenW h.gn h.ps.2.2 h.ps.2.1 rfl rfl]
   exact ⟨_, rfl, brkN_asc _ _ _, Nat.le_trans (brkN_len _ _ _) h.ps.2.1, brk_mem h⟩
theorem more_same {p : Sig} {m : Machine} {cs : List Clause} (hb : ∀ c ∈ cs, Clause.bd c) (hs : sigOk p = true) (hm : machOk p m = true) (hok : ∀ c ∈ cs, clauseOk p c = true) (h2 : cs.length ≤ 2) (h16 : m.Next.length ≤ 16) (k : Nat) :
 ∃ L2 L3, i_BreaksIn p m cs = some (L2 ++ L3) ∧ i_BreaksIn p m (cs.take k) = some L2 ∧ (L2 ++ L3).length ≤ 4 ∧ (∀ x ∈ L2, x < (k : Int)) ∧ ∀ x ∈ L3, ¬ x < (k : Int) := by
 have hcl : ∀ cs' : List Clause, (∀ c ∈ cs', c ∈ cs) → cs'.length ≤ 2 → clausesOk p cs' = true := fun cs' h hl => by
  unfold clausesOk
  rw [Bool.and_eq_true, decide_eq_true_eq, List.all_eq_true]
  exact ⟨by omega, fun c hc => hok c (h c hc)⟩
 have htl : (cs.take k).length ≤ 2 := by rw [List.length_take]; omega
 have htm : ∀ c ∈ cs.take k, c ∈ cs := fun c hc => List.mem_of_mem_take hc
 obtain ⟨L1, a1, a2, a3, a4⟩ := i_breaks hb hs hm (hcl cs (fun _ h => h) h2) h2 h16
 obtain ⟨L2, b1, b2, b3, b4⟩ := i_breaks (fun c hc => hb c (htm c hc)) hs hm (hcl _ htm htl) htl h16
 have e2 : L2 = L1.filter fun x => decide (x < (k : Int)) := asc_eq b2 (a2.filter _) fun z => by
  rw [b4, List.mem_filter, a4, decide_eq_true_eq]
  constructor
  · rintro ⟨i, c, h1, h3, h4⟩
    have hi := (List.getElem?_eq_some_iff.1 h3).1
    rw [List.length_take] at hi
    rw [List.getElem?_take, if_pos (by omega)] at h3
    exact ⟨⟨i, c, h1, h3, h4⟩, by omega⟩
  · rintro ⟨⟨i, c, h1, h3, h4⟩, h5⟩
    exact ⟨i, c, h1, by rw [List.getElem?_take, if_pos (by omega)]; exact h3, h4⟩
 have e1 : L1 = (L1.filter fun x => decide (x < (k : Int))) ++ (L1.filter fun x => !decide (x < (k : Int))) := by
  refine asc_eq a2 (List.pairwise_append.2 ⟨a2.filter _, a2.filter _, fun a ha b hb => ?_⟩) fun z => ?_
  · have h1 := of_decide_eq_true (List.mem_filter.1 ha).2
    have h2 : ¬ b < (k : Int) := by simpa using (List.mem_filter.1 hb).2
    omega
  · rw [List.mem_append, List.mem_filter, List.mem_filter]
    by_cases h : z < (k : Int)
    · simp [h]
    · simp [h]
 refine ⟨L2, L1.filter fun x => !decide (x < (k : Int)), ?_, b1, ?_, fun x hx => ?_, fun x hx => ?_⟩
 · rw [e2, ← e1]; exact a1
 · rw [e2, ← e1]; exact a3
 · rw [e2] at hx
   exact of_decide_eq_true (List.mem_filter.1 hx).2
 · simpa using (List.mem_filter.1 hx).2
end Go.Proofs.Ytcmamhmpoinmnaa
set_option linter.unusedVariables false
set_option linter.unusedSimpArgs false
namespace Go.Proofs.Ytcmamhmpoinmnaa
open Go Go.Wk Go.Proofs
theorem wr_u {z : Int} (h0 : 0 ≤ z) (h1 : z < 18446744073709551616) : IntKind.u64.wrap z = z := by
 simp [IntKind.wrap, IntKind.bits, IntKind.signed]
 omega
theorem below_ok {d : dice} (hb : ∀ x ∈ d.b, U8 x) (hl : d.b.length ≤ 4096) (i0 : 0 ≤ d.i) (i1 : d.i ≤ 4096) {k : Int} (hk : 1 ≤ k) : ∃ x i h, l_dice_below d k = some (x, i, h) ∧ 0 ≤ x ∧ x < k ∧ 0 ≤ i ∧ i ≤ 4096 := by
 unfold l_dice_below
 have hnz : nz k = some () := by unfold nz; rw [if_neg (by omega)]
 generalize hA : (BitVec.ofInt (IntKind.bits IntKind.u64) (Int.fdiv (IntKind.u64.wrap (IntKind.u64.wrap (d.h * 6364136223846793005) + 1442695040888963407)) (2 ^ (min (Int.toNat 33) (IntKind.bits IntKind.u64))))) = A
 have hy : (BitVec.toNat (A &&& BitVec.ofInt (IntKind.bits IntKind.u64) 16777215)) ≤ 16777215 := by
  rw [BitVec.toNat_and]
  refine Nat.le_trans Nat.and_le_right ?_
  decide
 generalize (BitVec.toNat (A &&& BitVec.ofInt (IntKind.bits IntKind.u64) 16777215)) = y at hy
 rw [wr_u (by omega) (by omega), wr' (z := (y : Int)) (by omega) (by omega)]
 by_cases hlt : d.i < (d.b.length : Int)
 · obtain ⟨x, hx, hm⟩ := get_el (xs := d.b) i0 hlt
   have hx8 := hb x hm
   unfold U8 at hx8
   simp only [hlt, decide_true, cond_true, hx, Option.bind_some, hnz]
   rw [wr' (z := x) (by omega) (by omega), wr' (z := (y : Int) + x) (by omega) (by omega), wr' (by omega) (by omega), Int.tmod_eq_emod_of_nonneg (by omega)]
   exact ⟨_, _, _, rfl, Int.emod_nonneg _ (by omega), Int.emod_lt_of_pos _ (by omega), by omega, by omega⟩
 · simp only [hlt, decide_false, cond_false, Option.bind_some, hnz]
   rw [Int.tmod_eq_emod_of_nonneg (by omega)]
   exact ⟨_, _, _, rfl, Int.emod_nonneg _ (by omega), Int.emod_lt_of_pos _ (by omega), by omega, by omega⟩
theorem roll_ok (b : List Int) (k : Int) : ∃ h, l_roll b k = some ⟨b, 0, h⟩ := by
 unfold l_roll
 obtain ⟨s, h1, _⟩ := cnt_inv (f := l_roll_b0 b) (fun _ _ => True) b.length (s := (IntKind.u64.wrap ((IntKind.u64.wrap (k * 7919)) + (IntKind.u64.wrap (b.length : Int))))) trivial (fun j s hj _ => by
  have hx : b[j]? = some b[j] := by simp [hj]
  unfold l_roll_b0
  rw [idx_nat, hx]
  exact ⟨_, rfl, trivial⟩)
 rw [h1]
 exact ⟨s, rfl⟩
theorem machOk_of {p : Sig} {m : Machine} (h1 : 1 ≤ m.Next.length) (h2 : m.Next.length ≤ 48) (h3 : m.Out.length = m.Next.length) (h4 : ∀ row ∈ m.Next, RowIn m.Next.length (pw p.In) row) (h5 : ∀ row ∈ m.Out, RowIn (pw p.Out) (pw p.In) row) : machOk p m = true := by
 unfold machOk
 rw [h3]
 simp only [Bool.and_eq_true, decide_eq_true_eq, beq_self_eq_true, and_true, List.all_eq_true]
 refine ⟨by omega, fun x hx => ?_⟩
 obtain ⟨row, i⟩ := x
 rw [List.mem_zipIdx_iff_getElem?] at hx
 have hx : m.Next[i]? = some row := hx
 have hlt := (List.getElem?_eq_some_iff.1 hx).1
 have ho : m.Out[i]? = some (m.Out[i]'(by omega)) := List.getElem?_eq_getElem (by omega)
 have hom := h5 _ (List.getElem_mem (by omega : i < m.Out.length))
 obtain ⟨a1, a2⟩ := h4 row (List.mem_of_getElem? hx)
 unfold rowOk
 rw [ho]
 simp only [Bool.and_eq_true, beq_iff_eq, List.all_eq_true, inR_iff]
 exact ⟨⟨⟨a1, by rw [a1]; exact hom.1⟩, a2⟩, hom.2⟩
section
variable {b : List Int} (hb : ∀ x ∈ b, U8 x) (hl : b.length ≤ 4096)
include hb hl
theorem mach_okL {most : Int} (hm1 : 1 ≤ most) (hm2 : most ≤ 40) {p : Sig} (hs : sigOk p = true) {i h : Int} (i0 : 0 ≤ i) (i1 : i ≤ 4096) : ∃ m i' h', l_w9Machine ⟨b, i, h⟩ p most = some (m, i', h') ∧ machOk p m = true ∧ 0 ≤ i' ∧ i' ≤ 4096 ∧ (m.Next.length : Int) ≤ most := by
 obtain ⟨x, i2, h2, a1, a2, a3, a4, a5⟩ := below_ok (d := ⟨b, i, h⟩) hb hl i0 i1 (k := most) (by omega)
 obtain ⟨hi, ho⟩ := sigOk_in hs
 have q1 : (bif (p.In == 2) then some (4 : Int) else some 2) = some (pw p.In) := by rcases hi with e | e <;> rw [e] <;> decide
 have q2 : (bif (p.Out == 2) then some (4 : Int) else some 2) = some (pw p.Out) := by rcases ho with e | e <;> rw [e] <;> decide
 have pI := pw_le p.In
 have pO := pw_le p.Out
 obtain ⟨w, hw⟩ := ex_nat (z := pw p.In) (by omega)
 obtain ⟨n, hn⟩ := ex_nat (z := 1 + x) (by omega)
 have hx1 : IntKind.i64.wrap (1 + x) = (n : Int) := by rw [wr' (by omega) (by omega)]; exact hn
 unfold l_w9Machine
 rw [a1, Option.bind_some, q1, Option.bind_some, q2, Option.bind_some]
 dsimp only
 have hr1 : rng (n : Int) = some () := by unfold rng; rw [if_pos (by omega)]
 have hr2 : rng (w : Int) = some () := by unfold rng; rw [if_pos (by omega)]
 rw [hx1, hr1, Option.bind_some, Int.sub_zero, Int.toNat_natCast, hw]
 obtain ⟨s, k1, k2, k3, k4, k5, k6, k7⟩ := cnt_inv (f := l_w9Machine_b0 ⟨b, i, h⟩ (x, i2, h2) (w : Int) (pw p.Out)) (fun j (s : Int × Int × List (List Int) × List (List Int)) => 0 ≤ s.1 ∧ s.1 ≤ 4096 ∧ s.2.2.1.length = j ∧ s.2.2.2.length = j ∧ (∀ row ∈ s.2.2.1, RowIn n w row) ∧ ∀ row ∈ s.2.2.2, RowIn (pw p.Out) w row) n (s := (i2, h2, [], [])) ⟨a4, a5, rfl, rfl, by simp, by simp⟩ (fun j s hj ⟨c1, c2, c3, c4, c5, c6⟩ => by
  obtain ⟨t, e1, e2, e3, e4, e5, e6, e7⟩ := cnt_inv (f := l_w9Machine_b2 ⟨b, i, h⟩ (x, i2, h2) (pw p.Out)) (fun j (t : List Int × List Int × Int × Int) => 0 ≤ t.2.2.1 ∧ t.2.2.1 ≤ 4096 ∧ t.1.length = j ∧ t.2.1.length = j ∧ (∀ y ∈ t.1, 0 ≤ y ∧ y < n) ∧ ∀ y ∈ t.2.1, 0 ≤ y ∧ y < pw p.Out) w (s := ([], [], s.1, s.2.1)) ⟨c1, c2, rfl, rfl, by simp, by simp⟩ (fun j t hj ⟨f1, f2, f3, f4, f5, f6⟩ => by
   obtain ⟨y, i3, h3, g1, g2, g3, g4, g5⟩ := below_ok (d := ⟨b, t.2.2.1, t.2.2.2⟩) hb hl f1 f2 (k := (n : Int)) (by omega)
   obtain ⟨z, i4, h4, m1, m2, m3, m4, m5⟩ := below_ok (d := ⟨b, i3, h3⟩) hb hl g4 g5 (k := pw p.Out) (by omega)
   unfold l_w9Machine_b2
   dsimp only
   rw [hx1, g1, Option.bind_some, app1 (by omega) rfl, Option.bind_some, m1, Option.bind_some, app1 (by omega) rfl]
   refine ⟨_, rfl, m4, m5, by dsimp only; rw [List.length_append, f3]; rfl, by dsimp only; rw [List.length_append, f4]; rfl, fun v hv => ?_, fun v hv => ?_⟩
   · dsimp only at hv
     rw [List.mem_append, List.mem_singleton] at hv
     rcases hv with hv | rfl
     · exact f5 v hv
     · exact ⟨g2, g3⟩
   · dsimp only at hv
     rw [List.mem_append, List.mem_singleton] at hv
     rcases hv with hv | rfl
     · exact f6 v hv
     · exact ⟨m2, m3⟩)
  unfold l_w9Machine_b0
  rw [hr2, Option.bind_some, Int.sub_zero, Int.toNat_natCast, e1, Option.bind_some, aft_inr, app1 (by omega) rfl, Option.bind_some, app1 (by omega) rfl]
  refine ⟨_, rfl, e2, e3, by dsimp only; rw [List.length_append, c3]; rfl, by dsimp only; rw [List.length_append, c4]; rfl, fun v hv => ?_, fun v hv => ?_⟩
  · dsimp only at hv
    rw [List.mem_append, List.mem_singleton] at hv
    rcases hv with hv | rfl
    · exact c5 v hv
    · exact ⟨by omega, e6⟩
  · dsimp only at hv
    rw [List.mem_append, List.mem_singleton] at hv
    rcases hv with hv | rfl
    · exact c6 v hv
    · exact ⟨by omega, e7⟩)
 rw [k1]
 refine ⟨⟨s.2.2.1, s.2.2.2⟩, s.1, s.2.1, rfl, machOk_of (by dsimp only; omega) (by dsimp only; omega) (by dsimp only; omega) (by dsimp only; rw [k4, hw]; exact k6) (by dsimp only; rw [hw]; exact k7), k2, k3, by dsimp only; omega⟩
end
end Go.Proofs.Ytcmamhmpoinmnaa
set_option linter.unusedVariables false
set_option linter.unusedSimpArgs false
namespace Go.Proofs.Ytcmamhmpoinmnaa
open Go Go.Wk Go.Proofs
theorem St.up {q : Nat} {A : List Int} (h : St q A) : St (q + 1) A := ⟨h.asc, fun x hx => by have := h.rng x hx; omega⟩
theorem St.push {q : Nat} {A : List Int} (h : St q A) : St (q + 1) (A ++ [(q : Int)]) := ⟨List.pairwise_append.2 ⟨h.asc, by simp, fun a ha b hb => by
 rw [List.mem_singleton] at hb
 have := h.rng a ha
 omega⟩, fun x hx => by
 rcases List.mem_append.1 hx with hx | hx
 · have := h.rng x hx; omega
 · rw [List.mem_singleton.1 hx]; omega⟩
section
variable {b : List Int} (hb : ∀ x ∈ b, U8 x) (hl : b.length ≤ 4096)
include hb hl
theorem clauses_okV {i h : Int} (i0 : 0 ≤ i) (i1 : i ≤ 4096) : ∃ cs i' h', l_w9Clauses ⟨b, i, h⟩ 2 = some (cs, i', h') ∧ (∀ c ∈ cs, c.A.length ≤ 4 ∧ c.B.length ≤ 4 ∧ clauseOk ⟨1, 1⟩ c = true) ∧ cs.length ≤ 2 ∧ 0 ≤ i' ∧ i' ≤ 4096 := by
 obtain ⟨x, i2, h2, a1, a2, a3, a4, a5⟩ := below_ok (d := ⟨b, i, h⟩) hb hl i0 i1 (k := 3) (by omega)
 obtain ⟨o, w1, w2⟩ := while_out (f := l_w9Clauses_b0 ⟨b, i, h⟩) (fun j (s : List Clause × Int × Int × Int) => s.2.1 = x - (j : Int) ∧ (j : Int) ≤ x ∧ 0 ≤ s.2.2.1 ∧ s.2.2.1 ≤ 4096 ∧ s.1.length = j ∧ ∀ c ∈ s.1, c.A.length ≤ 4 ∧ c.B.length ≤ 4 ∧ clauseOk ⟨1, 1⟩ c = true) (fun _ => False) (fun s => (∀ c ∈ s.1, c.A.length ≤ 4 ∧ c.B.length ≤ 4 ∧ clauseOk ⟨1, 1⟩ c = true) ∧ s.1.length ≤ 2 ∧ 0 ≤ s.2.2.1 ∧ s.2.2.1 ≤ 4096) 3 (fun j s ⟨b1, b2, b3, b4, b5, b6⟩ => by
  obtain ⟨cs, k, i', h'⟩ := s
  dsimp only at b1 b3 b4 b5 b6
  unfold l_w9Clauses_b0
  dsimp only
  by_cases hlt : 0 < k
  · obtain ⟨y, i3, h3, c1, c2, c3, c4, c5⟩ := below_ok (d := ⟨b, i', h'⟩) hb hl b3 b4 (k := 7) (by omega)
    obtain ⟨t, d1, d2, d3, d4, d5, d6⟩ := cnt_inv (f := l_w9Clauses_b2 ⟨b, i, h⟩ (y, i3, h3)) (fun q (t : Int × Int × List Int × List Int) => 0 ≤ t.1 ∧ t.1 ≤ 4096 ∧ St q t.2.2.1 ∧ St q t.2.2.2 ∧ (t.2.2.2 = [] ∨ 1 + y = 2 ∨ 1 + y = 3 ∨ 1 + y = 7)) 4 (s := (i3, h3, [], [])) ⟨c4, c5, ⟨List.Pairwise.nil, by simp⟩, ⟨List.Pairwise.nil, by simp⟩, .inl rfl⟩ (fun q t hq ⟨e1, e2, e3, e4, e5⟩ => by
     obtain ⟨ti, th, A, B⟩ := t
     dsimp only at e1 e2 e3 e4 e5
     have hle := e3.len
     have hlb := e4.len
     have hy : IntKind.i64.wrap (1 + y) = 1 + y := wr' (by omega) (by omega)
     obtain ⟨u, i4, h4, f1, f2, f3, f4, f5⟩ := below_ok (d := ⟨b, ti, th⟩) hb hl e1 e2 (k := 2) (by omega)
     obtain ⟨v, i5, h5, g1, g2, g3, g4, g5⟩ := below_ok (d := ⟨b, i4, h4⟩) hb hl f4 f5 (k := 2) (by omega)
     unfold l_w9Clauses_b2
     dsimp only
     rw [f1, Option.bind_some]
     obtain ⟨A', hA, hA'⟩ : ∃ A', (bif (u == 0) then Option.bind (appS 8 A [(q : Int)]) fun x33 => some x33 else some A) = some A' ∧ St (q + 1) A' := by
      cases u == 0 with
      | true => exact ⟨A ++ [(q : Int)], by rw [cond_true, app1 (by omega) rfl]; rfl, e3.push⟩
      | false => exact ⟨A, rfl, e3.up⟩
     rw [hA, Option.bind_some, g1, Option.bind_some]
     have hP : ∃ pb, (bif (v == 0) then Option.bind (bif (IntKind.i64.wrap (1 + y) == 2) then some true else some (IntKind.i64.wrap (1 + y) == 3)) fun p46 => Option.bind (bif p46 then some true else some (IntKind.i64.wrap (1 + y) == 7)) fun p51 => some p51 else some false) = some pb ∧ (pb = true → 1 + y = 2 ∨ 1 + y = 3 ∨ 1 + y = 7) := by
      rw [hy]
      cases v == 0 with
      | false => exact ⟨_, rfl, fun e => by cases e⟩
      | true =>
       cases k2 : (1 + y == 2) with
       | true => exact ⟨_, rfl, fun _ => .inl (by simpa using k2)⟩
       | false =>
        cases k3 : (1 + y == 3) with
        | true => exact ⟨_, rfl, fun _ => .inr (.inl (by simpa using k3))⟩
        | false => exact ⟨_, rfl, fun e => .inr (.inr (by simpa using e))⟩
     obtain ⟨pb, hpb, hpk⟩ := hP
     rw [hpb, Option.bind_some]
     obtain ⟨B', hB, hB', hB2⟩ : ∃ B', (bif pb then Option.bind (appS 8 B [(q : Int)]) fun x57 => some x57 else some B) = some B' ∧ St (q + 1) B' ∧ (B' = [] ∨ 1 + y = 2 ∨ 1 + y = 3 ∨ 1 + y = 7) := by
      cases pb with
      | true => exact ⟨B ++ [(q : Int)], by rw [cond_true, app1 (by omega) rfl]; rfl, e4.push, .inr (hpk rfl)⟩
      | false => exact ⟨B, rfl, e4.up, e5⟩
     rw [hB, Option.bind_some]
     exact ⟨_, rfl, g4, g5, hA', hB', hB2⟩)
    rw [decide_eq_true hlt, cond_true, c1, Option.bind_some]
    have e4 : Int.toNat (4 - 0) = 4 := rfl
    rw [e4, d1, Option.bind_some, aft_inr, app1 (by omega) rfl, Option.bind_some]
    refine ⟨_, rfl, by omega, by dsimp only; rw [wr' (by omega) (by omega)]; omega, by omega, d2, d3, by dsimp only; simp [b5], fun c hc => ?_⟩
    rcases List.mem_append.1 hc with hc | hc
    · exact b6 c hc
    · rw [List.mem_singleton.1 hc]
      have hy : IntKind.i64.wrap (1 + y) = 1 + y := wr' (by omega) (by omega)
      have hl4 : ltr (⟨1, 1⟩ : Sig) = 4 := by decide
      refine ⟨d4.len, d5.len, ?_⟩
      unfold clauseOk
      dsimp only
      rw [hy, hl4, decide_eq_true (by omega), decide_eq_true (by omega), d4.ok (by omega), d5.ok (by omega)]
      rcases d6 with e | e | e | e
      · rw [e]; simp
      · rw [e]; rfl
      · rw [e]; rfl
      · rw [e]; rfl
  · rw [decide_eq_false hlt, cond_false]
    exact ⟨_, rfl, b6, by dsimp only; omega, b3, b4⟩) (2 ^ 64) 0 ([], x, i2, h2) (by omega) ⟨by dsimp only; omega, by omega, a4, a5, rfl, by simp⟩ (by omega)
 unfold l_w9Clauses
 rw [wr' (by omega) (by omega), show (2 : Int) + 1 = 3 from rfl, a1, Option.bind_some]
 dsimp only
 match o, w2 with
 | .inr s, w2 =>
  rw [w1, Option.bind_some, aft_inr]
  exact ⟨_, _, _, rfl, w2.1, w2.2.1, w2.2.2.1, w2.2.2.2⟩
end
end Go.Proofs.Ytcmamhmpoinmnaa
set_option linter.unusedVariables false
set_option linter.unusedSimpArgs false
namespace Go.Proofs.Ytcmamhmpoinmnaa
open Go Go.Wk Go.Proofs
theorem more_loop {L2 L3 : List Int} {k : Int} (h4 : (L2 ++ L3).length ≤ 4) (h2 : ∀ x ∈ L2, x < k) (h3 : ∀ x ∈ L3, ¬ x < k) (a b : Int) : cntM (l_FnMoreClauses_b0 (k, a, b) (L2 ++ L3) L2) (L2 ++ L3).length 0 0 = some (.inr (L2.length : Int)) := by
 obtain ⟨s, h1, e1⟩ := cnt_inv (f := l_FnMoreClauses_b0 (k, a, b) (L2 ++ L3) L2) (fun j (s : Int) => s = ((min j L2.length : Nat) : Int)) (L2 ++ L3).length (s := 0) (by simp) (fun j s hj hs => by
  subst hs
  rw [List.length_append] at hj h4
  unfold l_FnMoreClauses_b0
  dsimp only
  by_cases hlt : j < L2.length
  · have hx : L2[j]? = some L2[j] := List.getElem?_eq_getElem hlt
    generalize L2[j] = x at hx
    have hx' : idx (L2 ++ L3) (j : Int) = some x := by rw [idx_nat, List.getElem?_append_left hlt]; exact hx
    have hk := h2 x (List.mem_of_getElem? hx)
    rw [hx', Option.bind_some, decide_eq_true hk, cond_true, Nat.min_eq_left (by omega), decide_eq_false (by omega), cond_false, idx_nat, hx, Option.bind_some, Option.bind_some, bne_self_eq_false, Option.bind_some, cond_false, Option.bind_some, wr' (by omega) (by omega)]
    refine ⟨_, rfl, ?_⟩
    rw [Nat.min_eq_left (by omega)]; omega
  · have hx : L3[j - L2.length]? = some (L3[j - L2.length]'(by omega)) := List.getElem?_eq_getElem (by omega)
    generalize L3[j - L2.length]'(by omega) = x at hx
    have hx' : idx (L2 ++ L3) (j : Int) = some x := by rw [idx_nat, List.getElem?_append_right (by omega)]; exact hx
    have hk := h3 x (List.mem_of_getElem? hx)
    rw [hx', Option.bind_some, decide_eq_false hk, cond_false, Option.bind_some, Nat.min_eq_right (by omega)]
    refine ⟨_, rfl, ?_⟩
    rw [Nat.min_eq_right (by omega)])
 rw [h1, e1, Nat.min_eq_right (by rw [List.length_append]; omega)]
theorem FnMoreClauses_law {p0 : List Int} (ok0 : okS U8 p0) : l_FnMoreClauses p0 = some true := by
 unfold l_FnMoreClauses l_big
 rw [Option.bind_some]
 by_cases hbig : 4096 < (p0.length : Int)
 · rw [decide_eq_true hbig, cond_true]
 · rw [decide_eq_false hbig, cond_false]
   have hb := ok0.1
   have hl : p0.length ≤ 4096 := by omega
   have hs : sigOk ⟨1, 1⟩ = true := by decide
   obtain ⟨h, hr⟩ := roll_ok p0 932
   rw [hr, Option.bind_some]
   obtain ⟨m, i1, h1, a1, a2, a3, a4, a5⟩ := mach_okL hb hl (most := 4) (by omega) (by omega) hs (i := 0) (h := h) (by omega) (by omega)
   rw [a1, Option.bind_some]
   dsimp only
   obtain ⟨cs, i2, h2, b1, b2, b3, b4, b5⟩ := clauses_okV hb hl (h := h1) a3 a4
   rw [b1, Option.bind_some]
   dsimp only
   obtain ⟨k, i3, h3, c1, c2, c3, _, _⟩ := below_ok (d := ⟨p0, i2, h2⟩) hb hl b4 b5 (k := (cs.length : Int) + 1) (by omega)
   rw [wr' (by omega) (by omega), c1, Option.bind_some]
   dsimp only
   have hbd : ∀ c ∈ cs, Clause.bd c := fun c hc => by
    obtain ⟨q1, q2, _⟩ := b2 c hc
    unfold Clause.bd
    exact ⟨trivial, ⟨by omega, fun _ _ => trivial⟩, ⟨by omega, fun _ _ => trivial⟩⟩
   obtain ⟨kn, rfl⟩ := ex_nat c2
   obtain ⟨L2, L3, d1, d2, d3, d4, d5⟩ := more_same hbd hs a2 (fun c hc => (b2 c hc).2.2) b3 (by omega) kn
   have hsub : subS cs 0 (kn : Int) = some (cs.take kn) := by
    unfold subS
    rw [if_pos (by omega), Int.toNat_natCast]; rfl
   rw [d1, Option.bind_some, hsub, Option.bind_some, d2, Option.bind_some, more_loop d3 d4 d5, Option.bind_some, aft_inr]
   -- the monitor of one clause, watched
   have hc4 : clauseOk ⟨1, 1⟩ (⟨4, [0, 1, 2, 3], []⟩ : Clause) = true := by decide
   have hb4 : Clause.bd (⟨4, [0, 1, 2, 3], []⟩ : Clause) := by
    unfold Clause.bd
    exact ⟨trivial, ⟨by simp, fun _ _ => trivial⟩, ⟨by simp, fun _ _ => trivial⟩⟩
   have hl4 : ltr (⟨1, 1⟩ : Sig) = ((4 : Nat) : Int) := by decide
   have hm4 := s_monitor hs hb4 hc4 hl4
   obtain ⟨hd4, hp4⟩ := monD_ok hc4 hl4
   obtain ⟨kk, hkk⟩ := ex_nat (z := pw (⟨1, 1⟩ : Sig).In) (by have := pw_le (⟨1, 1⟩ : Sig).In; omega)
   rw [hm4, Option.bind_some]
   unfold i_WatchOf
   rw [i_isSig_eq, hs, i_isMachine_eq hs, a2, i_isDet_eqD hs (by
    intro x hx
    have hx : x ∈ [monPair 4] := hx
    rw [List.mem_singleton.1 hx]
    exact ⟨by decide, by decide⟩), hd4]
   simp only [Option.bind_some, Bool.not_true, cond_false]
   rcases watchOf_same2 hs a2 hd4 hkk with ⟨_, _, w3⟩ | ⟨gr, w, K, _, w2, _, _, _, w6⟩
   · exfalso
     have := mon_le (⟨4, [0, 1, 2, 3], []⟩ : Clause) 4
     have : m.Next.length * (monD (⟨4, [0, 1, 2, 3], []⟩ : Clause) 4).Next.length ≤ 16 * 4 := Nat.mul_le_mul (by omega) this
     omega
   · rw [w2]
     have hz := (List.getElem?_eq_some_iff.1 w6.prod.zero).1
     have hrl := w6.prod.rl
     have hpl : w.pairs.length = 1 := by rw [w6.pairs, List.length_map, hp4]
     simp only [Option.bind_some, Bool.not_true, cond_false, Option.isSome_some, guardS, if_true, Option.getD_some, beq_self_eq_true, cond_true]
     rw [decide_eq_true (by omega), cond_true, hpl]
     rfl
end Go.Proofs.Ytcmamhmpoinmnaa
