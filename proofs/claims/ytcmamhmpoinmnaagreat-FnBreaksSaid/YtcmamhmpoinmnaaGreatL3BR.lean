/- The reference's way is the least one. -/
import Derived.Test.YtcmamhmpoinmnaaGreatL2BR
import Derived.Test.YtcmamhmpoinmnaaGreatL1BR
import Derived.Test.YtcmamhmpoinmnaaGreatL0BR
set_option linter.unusedVariables false
set_option linter.unusedSimpArgs false
namespace Go.Proofs.YtcmamhmpoinmnaaGreat
open Go Go.Wk Go.Proofs
structure FarT (N : List (List Int)) (M : List Bool) (n : Nat) (s : Int) (F : List Int) : Prop where
 len : F.length = n
 at_ : ∀ k : Int, 0 ≤ k → k < n → ∃ x, idx F k = some x ∧ ((x = -1 ∧ ∀ d, ¬ Lv (scN N M) s d k) ∨ ∃ d : Nat, x = (d : Int) ∧ d < n ∧ Dm (scN N M) s k d)
theorem FarT.of {N : List (List Int)} {M : List Bool} {n : Nat} (g : Gr N M n) {s : Int} (hs : In M s) : ∃ F, s_l30Far N M s = some F ∧ FarT N M n s F := by
 obtain ⟨F, h1, h2, h3⟩ := s_far g hs
 exact ⟨F, h1, h2, h3⟩
structure BestW (N : List (List Int)) (M : List Bool) (s : Int) (row : List Int) (i b : Nat) (x : Int) (e : Nat) : Prop where
 lt : b < i
 get : row[b]? = some x
 dm : Dm (scN N M) s x e
 le : ∀ (j : Nat) y e', j < i → row[j]? = some y → Dm (scN N M) s y e' → e ≤ e'
 fst : ∀ (j : Nat) y e', j < b → row[j]? = some y → Dm (scN N M) s y e' → e < e'
section
variable {N : List (List Int)} {M : List Bool} {n : Nat} (g : Gr N M n) {s : Int} {F : List Int} (hF : FarT N M n s F)
include g hF
theorem s_best {tn : Bool} {out : List Int} {v : Int} {row : List Int} (hr : idx N v = some row) :
 ∃ b q, whileM (s_l30Way_b2 N F (tn, out, v)) (2 ^ 64) (-1, 0) = some (.inr (b, q)) ∧ ((b = -1 ∧ ∀ u ∈ row, ∀ d, ¬ Lv (scN N M) s d u) ∨ ∃ (bi : Nat) (x : Int) (e : Nat), b = (bi : Int) ∧ BestW N M s row row.length bi x e) := by
 obtain ⟨l1, l2⟩ := g.row v row hr
 have hn := g.le
 obtain ⟨o, w1, w2⟩ := while_out (f := s_l30Way_b2 N F (tn, out, v)) (fun i (q : Int × Int) => q.2 = (i : Int) ∧ i ≤ row.length ∧ ((q.1 = -1 ∧ ∀ (j : Nat) y, j < i → row[j]? = some y → ∀ d, ¬ Lv (scN N M) s d y) ∨ ∃ (bi : Nat) (x : Int) (e : Nat), q.1 = (bi : Int) ∧ BestW N M s row i bi x e))
  (fun _ => False) (fun q => (q.1 = -1 ∧ ∀ u ∈ row, ∀ d, ¬ Lv (scN N M) s d u) ∨ ∃ (bi : Nat) (x : Int) (e : Nat), q.1 = (bi : Int) ∧ BestW N M s row row.length bi x e) row.length (fun i q ⟨a1, a2, a3⟩ => by
  obtain ⟨b, i'⟩ := q
  dsimp only at a1 a3
  subst a1
  unfold s_l30Way_b2
  dsimp only
  rw [hr, Option.bind_some]
  by_cases hlt : i < row.length
  · have hu : row[i]? = some row[i] := List.getElem?_eq_getElem hlt
    generalize row[i] = u at hu
    obtain ⟨u0, u1⟩ := l2 u (List.mem_of_getElem? hu)
    obtain ⟨z, z1, z2⟩ := hF.at_ u u0 u1
    rw [decide_eq_true (show (i : Int) < (row.length : Int) by omega), cond_true, Option.bind_some, idx_nat, hu, Option.bind_some, z1, Option.bind_some]
    have wi : IntKind.i64.wrap ((i : Int) + 1) = ((i + 1 : Nat) : Int) := by rw [wr' (by omega) (by omega)]; omega
    rw [wi]
    rcases z2 with ⟨rfl, z2⟩ | ⟨d, rfl, z3, z2⟩
    · rw [decide_eq_false (by omega), cond_false, Option.bind_some, cond_false, Option.bind_some]
      refine ⟨_, rfl, hlt, rfl, by omega, ?_⟩
      rcases a3 with ⟨b1, b2⟩ | ⟨bi, x, e, b1, b2⟩
      · refine .inl ⟨b1, fun j y hj hy => ?_⟩
        by_cases ej : j = i
        · subst ej
          rw [hu] at hy; cases hy
          exact z2
        · exact b2 j y (by omega) hy
      · refine .inr ⟨bi, x, e, b1, ⟨Nat.lt_succ_of_lt b2.lt, b2.get, b2.dm, fun j y e' hj hy hd => ?_, b2.fst⟩⟩
        by_cases ej : j = i
        · subst ej
          rw [hu] at hy; cases hy
          exact absurd hd.1 (z2 e')
        · exact b2.le j y e' (by omega) hy hd
    · rw [decide_eq_true (show (0 : Int) ≤ (d : Int) by omega), cond_true]
      rcases a3 with ⟨b1, b2⟩ | ⟨bi, x, e, b1, b2⟩
      · subst b1
        rw [decide_eq_true (show (-1 : Int) < 0 by omega), cond_true, Option.bind_some, Option.bind_some, cond_true, Option.bind_some]
        refine ⟨_, rfl, hlt, rfl, by omega, .inr ⟨i, u, d, rfl, ⟨Nat.lt_succ_self _, hu, z2, fun j y e' hj hy hd => ?_, fun j y e' hj hy hd => absurd hd.1 (b2 j y hj hy e')⟩⟩⟩
        by_cases ej : j = i
        · subst ej
          rw [hu] at hy; cases hy
          exact Nat.le_of_eq (z2.uniq hd)
        · exact absurd hd.1 (b2 j y (by omega) hy e')
      · subst b1
        obtain ⟨x0, x1⟩ := l2 x (List.mem_of_getElem? b2.get)
        obtain ⟨zx, y1, y2⟩ := hF.at_ x x0 x1
        have hze : zx = (e : Int) := by
         rcases y2 with ⟨_, y2⟩ | ⟨d', y3, _, y2⟩
         · exact absurd b2.dm.1 (y2 e)
         · rw [y3, y2.uniq b2.dm]
        subst hze
        rw [decide_eq_false (show ¬ (bi : Int) < 0 by omega), cond_false, Option.bind_some, Option.bind_some, idx_nat, b2.get, Option.bind_some, y1, Option.bind_some, Option.bind_some, Option.bind_some]
        by_cases hde : d < e
        · rw [decide_eq_true (show (d : Int) < (e : Int) by omega), cond_true, Option.bind_some]
          refine ⟨_, rfl, hlt, rfl, by omega, .inr ⟨i, u, d, rfl, ⟨Nat.lt_succ_self _, hu, z2, fun j y e' hj hy hd => ?_, fun j y e' hj hy hd => ?_⟩⟩⟩
          · by_cases ej : j = i
            · subst ej
              rw [hu] at hy; cases hy
              exact Nat.le_of_eq (z2.uniq hd)
            · have := b2.le j y e' (by omega) hy hd
              omega
          · have := b2.le j y e' hj hy hd
            omega
        · rw [decide_eq_false (show ¬ (d : Int) < (e : Int) by omega), cond_false, Option.bind_some]
          refine ⟨_, rfl, hlt, rfl, by omega, .inr ⟨bi, x, e, rfl, ⟨Nat.lt_succ_of_lt b2.lt, b2.get, b2.dm, fun j y e' hj hy hd => ?_, b2.fst⟩⟩⟩
          by_cases ej : j = i
          · subst ej
            rw [hu] at hy; cases hy
            have := z2.uniq hd
            omega
          · exact b2.le j y e' (by omega) hy hd
  · have : i = row.length := by omega
    subst this
    rw [decide_eq_false (Int.lt_irrefl _), cond_false]
    refine ⟨_, rfl, ?_⟩
    rcases a3 with ⟨b1, b2⟩ | b2
    · refine .inl ⟨b1, fun u hu => ?_⟩
      obtain ⟨j, hj⟩ := List.getElem?_of_mem hu
      exact b2 j u (List.getElem?_eq_some_iff.1 hj).1 hj
    · exact .inr b2) (2 ^ 64) 0 (-1, 0) (by omega) ⟨rfl, Nat.zero_le _, .inl ⟨rfl, fun j y hj => absurd hj (Nat.not_lt_zero _)⟩⟩ (by omega)
 match o, w2 with
 | .inr (b, q), w2 => exact ⟨b, q, w1, w2⟩
theorem s_wstep {tn : Bool} {out : List Int} {v : Int} (v0 : 0 ≤ v) (v1 : v < n) (ho : out.length ≤ 1000) (hreach : ∃ d, Lv (scN N M) s (d + 1) v) (hc : tn = true ∨ ∃ d, Dm (scN N M) s v (d + 1)) :
 ∃ (b : Nat) (x : Int) (e : Nat) (row : List Int), idx N v = some row ∧ BestW N M s row row.length b x e ∧ In M x ∧ s_l30Way_b0 N F (tn, out, v) = some (.inr (.inr (false, out ++ [(b : Int)], x))) := by
 have hl := g.ln
 obtain ⟨row, hr⟩ := idx_some (xs := N) (i := v) v0 (by omega)
 obtain ⟨b, q, h1, h2⟩ := s_best g hF (tn := tn) (out := out) hr
 rcases h2 with ⟨_, h2⟩ | ⟨bi, x, e, rfl, h2⟩
 · obtain ⟨d, u, hu, hd⟩ := hreach
   obtain ⟨_, _, row', hr', hm⟩ := mem_scN.1 hu
   rw [hr] at hr'; cases hr'
   exact absurd hd (h2 u hm d)
 · have hin : ∀ {d : Nat} {u : Int}, Lv (scN N M) s d u → u ∈ row → In M u ∨ d = 0 := fun {d u} h _ => by
    cases d with
    | zero => exact .inr rfl
    | succ d =>
     obtain ⟨w, hw, _⟩ := h
     exact .inl (mem_scN.1 hw).1
   refine ⟨bi, x, e, row, hr, h2, ?_, ?_⟩
   · rcases hin h2.dm.1 (List.mem_of_getElem? h2.get) with h | h
     · exact h
     · subst h
       have hx : x = s := h2.dm.1
       obtain ⟨d, hd⟩ := hreach
       -- the goal itself may be met, for a way leads to it
       have hg : ∀ {d : Nat} {k : Int}, Lv (scN N M) s (d + 1) k → In M s := fun {d} => by
        induction d with
        | zero =>
         intro k ⟨u, hu, hd⟩
         have hd : u = s := hd
         subst hd
         exact (mem_scN.1 hu).2.1
        | succ d ih => intro k ⟨u, hu, hd⟩; exact ih hd
       rw [hx]
       exact hg hd
   · unfold s_l30Way_b0
     dsimp only
     have hcond : (bif tn then some true else Option.bind (idx F v) fun x20 => some (decide (0 < x20))) = some true := by
      cases tn with
      | true => rfl
      | false =>
       rw [cond_false]
       rcases hc with h | ⟨d, hd⟩
       · cases h
       · obtain ⟨z, z1, z2⟩ := hF.at_ v v0 v1
         rw [z1, Option.bind_some]
         rcases z2 with ⟨_, z2⟩ | ⟨d', rfl, _, z2⟩
         · exact absurd hd.1 (z2 _)
         · have := z2.uniq hd
           rw [decide_eq_true (by omega)]
     rw [hcond, Option.bind_some, cond_true, h1, Option.bind_some, aft_inr]
     dsimp only
     rw [app1 (by omega) rfl, Option.bind_some, hr, Option.bind_some, idx_nat, h2.get, Option.bind_some]
theorem s_greedy : ∀ (d : Nat) {v : Int} {out : List Int} {k : Nat}, 0 ≤ v → v < n → Dm (scN N M) s v d → out.length + d ≤ 1000 → d < k →
 ∃ w, whileM (s_l30Way_b0 N F) k (false, out, v) = some (.inr (false, out ++ w, s)) ∧ w.length = d ∧ Way N M v w s ∧ ∀ t, Way N M v t s → sle w t
 | 0, v, out, k, v0, v1, hd, ho, hk => by
  have hv : v = s := hd.1
  subst hv
  obtain ⟨z, z1, z2⟩ := hF.at_ v v0 v1
  have hz : z = 0 := by
   rcases z2 with ⟨_, z2⟩ | ⟨d', rfl, _, z2⟩
   · exact absurd hd.1 (z2 _)
   · rw [z2.uniq hd]; rfl
  subst hz
  refine ⟨[], ?_, rfl, rfl, fun t _ => sle_pre [] t⟩
  obtain ⟨k, rfl⟩ : ∃ k', k = k' + 1 := ⟨k - 1, by omega⟩
  show Option.bind (s_l30Way_b0 N F (false, out, v)) _ = _
  unfold s_l30Way_b0
  dsimp only
  rw [cond_false, z1, Option.bind_some, decide_eq_false (by omega), Option.bind_some, cond_false, List.append_nil]
  rfl
 | d + 1, v, out, k, v0, v1, hd, ho, hk => by
  obtain ⟨b, x, e, row, hr, hB, hx, hstep⟩ := s_wstep g hF (tn := false) (out := out) v0 v1 (by omega) ⟨d, hd.1⟩ (.inr ⟨d, hd⟩)
  obtain ⟨x0, x1⟩ := In_of g.lm hx
  have hsc : x ∈ scN N M v := by
   obtain ⟨u, hu, _⟩ := hd.1
   exact mem_scN.2 ⟨(mem_scN.1 hu).1, hx, row, hr, List.mem_of_getElem? hB.get⟩
  have he : e = d := by
   obtain ⟨u, hu, hud⟩ := hd.next
   obtain ⟨_, _, row', hr', hm⟩ := mem_scN.1 hu
   rw [hr] at hr'; cases hr'
   obtain ⟨j, hj⟩ := List.getElem?_of_mem hm
   have h1 := hB.le j u d (List.getElem?_eq_some_iff.1 hj).1 hj hud
   have h2 : ¬ e + 1 < d + 1 := fun h => hd.2 (e + 1) h ⟨x, hsc, hB.dm.1⟩
   omega
  subst he
  obtain ⟨k, rfl⟩ : ∃ k', k = k' + 1 := ⟨k - 1, by omega⟩
  obtain ⟨w, w1, w2, w3, w4⟩ := s_greedy e (v := x) (out := out ++ [(b : Int)]) (k := k) x0 x1 hB.dm (by simp only [List.length_append, List.length_cons, List.length_nil]; omega) (by omega)
  have hL := least_step (N := N) (M := M) (s := s) (v := v) (b := (b : Int)) (x := x) (e := e) ⟨row, hr, by rw [idx_nat]; exact hB.get⟩ hx w3 w2 w4 (fun j y e' hj hy hd => by
   obtain ⟨row', hr', hj'⟩ := hj
   rw [hr] at hr'; cases hr'
   obtain ⟨j0, j1, j2⟩ := idx_ok hj'
   exact hB.le j.toNat y e' (by omega) j2 hd) (fun j y e' hjb hj hy hd => by
   obtain ⟨row', hr', hj'⟩ := hj
   rw [hr] at hr'; cases hr'
   obtain ⟨j0, j1, j2⟩ := idx_ok hj'
   exact hB.fst j.toNat y e' (by omega) j2 hd)
  refine ⟨(b : Int) :: w, ?_, by simp [w2], hL.2.1, fun t ht => ?_⟩
  · show Option.bind (s_l30Way_b0 N F (false, out, v)) _ = _
    rw [hstep, Option.bind_some]
    show whileM (s_l30Way_b0 N F) k (false, out ++ [(b : Int)], x) = _
    rw [w1, List.append_assoc]; rfl
  · cases t with
    | nil =>
     have hv : s = v := ht
     exact absurd (show Lv (scN N M) s 0 v from hv.symm) (hd.2 0 (by omega))
    | cons j t => exact hL.2.2 _ (by simp) ht
theorem s_wayL {v : Int} {tn : Bool} (hv : In M v) (hc : tn = true ∨ v ≠ s) (hreach : ∃ d, Lv (scN N M) s (d + 1) v) : ∃ w, s_l30Way N F v tn = some w ∧ w.length ≤ 300 ∧ LeastW N M v s w := by
 obtain ⟨v0, v1⟩ := In_of g.lm hv
 have hn := g.le
 have hc' : tn = true ∨ ∃ d, Dm (scN N M) s v (d + 1) := by
  rcases hc with h | h
  · exact .inl h
  · obtain ⟨d, hd⟩ := hreach
    obtain ⟨e, _, he⟩ := hd.min
    cases e with
    | zero => exact absurd (show v = s from he.1) h
    | succ e => exact .inr ⟨e, he⟩
 obtain ⟨b, x, e, row, hr, hB, hx, hstep⟩ := s_wstep g hF (tn := tn) (out := []) v0 v1 (by simp) hreach hc'
 obtain ⟨x0, x1⟩ := In_of g.lm hx
 have hen : e < n := by
  obtain ⟨z, z1, z2⟩ := hF.at_ x x0 x1
  rcases z2 with ⟨_, z2⟩ | ⟨d', _, z3, z2⟩
  · exact absurd hB.dm.1 (z2 _)
  · rw [← z2.uniq hB.dm]; exact z3
 obtain ⟨w, w1, w2, w3, w4⟩ := s_greedy g hF e (v := x) (out := [(b : Int)]) (k := 2 ^ 64 - 1) x0 x1 hB.dm (by simp only [List.length_cons, List.length_nil]; omega) (by omega)
 have hL := least_step (N := N) (M := M) (s := s) (v := v) (b := (b : Int)) (x := x) (e := e) ⟨row, hr, by rw [idx_nat]; exact hB.get⟩ hx w3 w2 w4 (fun j y e' hj hy hd => by
  obtain ⟨row', hr', hj'⟩ := hj
  rw [hr] at hr'; cases hr'
  obtain ⟨j0, j1, j2⟩ := idx_ok hj'
  exact hB.le j.toNat y e' (by omega) j2 hd) (fun j y e' hjb hj hy hd => by
  obtain ⟨row', hr', hj'⟩ := hj
  rw [hr] at hr'; cases hr'
  obtain ⟨j0, j1, j2⟩ := idx_ok hj'
  exact hB.fst j.toNat y e' (by omega) j2 hd)
 refine ⟨(b : Int) :: w, ?_, by simp only [List.length_cons]; omega, hL⟩
 have hw : whileM (s_l30Way_b0 N F) (2 ^ 64) (tn, [], v) = some (.inr (false, (b : Int) :: w, s)) := by
  revert w1
  have hp : 0 < (2 : Nat) ^ 64 := by omega
  revert hp
  generalize (2 : Nat) ^ 64 = Q
  intro hp w1
  obtain ⟨Q, rfl⟩ : ∃ Q', Q = Q' + 1 := ⟨Q - 1, by omega⟩
  show Option.bind (s_l30Way_b0 N F (tn, [], v)) _ = _
  rw [hstep, Option.bind_some]
  show whileM (s_l30Way_b0 N F) Q (false, [] ++ [(b : Int)], x) = _
  exact w1
 unfold s_l30Way
 rw [hw, Option.bind_some, aft_inr]
end
end Go.Proofs.YtcmamhmpoinmnaaGreat
set_option linter.unusedVariables false
set_option linter.unusedSimpArgs false
namespace Go.Proofs.YtcmamhmpoinmnaaGreat
open Go Go.Wk Go.Proofs
def letP (N L : List (List Int)) : Int → List Int → List Int
 | _, [] => []
 | v, i :: w => tab L v i :: letP N L (tab N v i) w
theorem Eg.tab {N : List (List Int)} {v i x : Int} (h : Eg N v i x) : tab N v i = x := by
 obtain ⟨row, h1, h2⟩ := h
 obtain ⟨v0, _, v2⟩ := idx_ok h1
 obtain ⟨i0, _, i2⟩ := idx_ok h2
 unfold Go.Proofs.YtcmamhmpoinmnaaGreat.tab
 rw [List.getD_eq_getElem?_getD (l := N), v2, Option.getD_some, List.getD_eq_getElem?_getD, i2, Option.getD_some]
theorem letP_snoc {N L : List (List Int)} {M : List Bool} {i : Int} : ∀ {w : List Int} {v u : Int}, Way N M v w u → letP N L v (w ++ [i]) = letP N L v w ++ [tab L u i]
 | [], v, u, h => by
  have h : u = v := h
  subst h; rfl
 | j :: w, v, u, ⟨x, h1, _, h3⟩ => by
  show tab L v j :: letP N L (tab N v j) (w ++ [i]) = _
  rw [h1.tab, letP_snoc h3]
  show _ = tab L v j :: letP N L (tab N v j) w ++ _
  rw [h1.tab]; rfl
theorem letP_len (N L : List (List Int)) : ∀ (w : List Int) (v : Int), (letP N L v w).length = w.length
 | [], _ => rfl
 | i :: w, v => by
  show (letP N L _ w).length + 1 = _
  rw [letP_len N L w]; rfl
def Bef (i' j' i j : Nat) : Prop := i' < i ∨ (i' = i ∧ j' < j)
structure BF (N : List (List Int)) (M : List Bool) (n : Nat) (a b : Int) (T : List Int) (P : List (List Int)) (i j : Nat) : Prop where
 lp : P.length = T.length
 nd : T.Nodup
 t0 : T[0]? = some a
 p0 : P[0]? = some []
 nt : ∀ m, 0 < m → T[m]? ≠ some b
 rg : ∀ x ∈ T, 0 ≤ x ∧ x < n
 way : ∀ (m : Nat) t p, T[m]? = some t → P[m]? = some p → Way N M a p t
 lt : ∀ (m m' : Nat) p p', m < m' → P[m]? = some p → P[m']? = some p' → slt p p'
 org : ∀ (m : Nat) p, 0 < m → P[m]? = some p → ∃ (i' j' : Nat) (p' : List Int), p = p' ++ [(j' : Int)] ∧ P[i']? = some p' ∧ Bef i' j' i j
 pl : ∀ (m : Nat) p, P[m]? = some p → p.length ≤ m
 dn : ∀ (i' j' : Nat) t p x, Bef i' j' i j → T[i']? = some t → P[i']? = some p → Eg N t (j' : Int) x → In M x → x ≠ b ∧ ∃ (m : Nat) (p' : List Int), T[m]? = some x ∧ P[m]? = some p' ∧ sle p' (p ++ [(j' : Int)])
section
variable {N : List (List Int)} {M : List Bool} {n : Nat} {a b : Int} {T : List Int} {P : List (List Int)} {i j : Nat}
theorem BF.getP (h : BF N M n a b T P i j) {m : Nat} {t : Int} (ht : T[m]? = some t) : ∃ p, P[m]? = some p := ⟨_, List.getElem?_eq_getElem (by have := (List.getElem?_eq_some_iff.1 ht).1; have := h.lp; omega)⟩
theorem BF.leave (h : BF N M n a b T P i j) : ∀ (R : List Int) (m : Nat) (t : Int) (p q : List Int), T[m]? = some t → P[m]? = some p → sle p q → Way N M t R b → R ≠ [] → ∃ (m' r : Nat) (p' : List Int), m' < T.length ∧ P[m']? = some p' ∧ ¬ Bef m' r i j ∧ sle (p' ++ [(r : Int)]) (q ++ R)
 | [], _, _, _, _, _, _, _, _, hR => absurd rfl hR
 | r :: R, m, t, p, q, ht, hp, hs, ⟨x, h1, h2, h3⟩, _ => by
  have h1' := h1
  obtain ⟨row, e1, e2⟩ := h1'
  obtain ⟨r', rfl⟩ := ex_nat (idx_ok e2).1
  have hass : q ++ ((r' : Int) :: R) = (q ++ [(r' : Int)]) ++ R := by simp
  by_cases hb : Bef m r' i j
  · obtain ⟨x1, m2, p2, k1, k2, k3⟩ := h.dn m r' t p x hb ht hp h1 h2
    have hR : R ≠ [] := fun e => by
     subst e
     exact x1 (show b = x from h3).symm
    obtain ⟨m', r'', p', g1, g2, g3, g4⟩ := h.leave R m2 x p2 (q ++ [(r' : Int)]) k1 k2 (k3.trans (hs.app _)) h3 hR
    exact ⟨m', r'', p', g1, g2, g3, by rw [hass]; exact g4⟩
  · refine ⟨m, r', p, (List.getElem?_eq_some_iff.1 ht).1, hp, hb, ?_⟩
    rw [hass]
    exact (hs.app _).trans (sle_pre _ _)
theorem BF.found (h : BF N M n a b T P i j) {t : Int} {p : List Int} (ht : T[i]? = some t) (hp : P[i]? = some p) (hE : Eg N t (j : Int) b) (hM : In M b) : LeastW N M a b (p ++ [(j : Int)]) := by
 refine ⟨by simp, (h.way i t p ht hp).snoc hE hM, fun R hne hR => ?_⟩
 obtain ⟨m', r, p', g1, g2, g3, g4⟩ := h.leave R 0 a [] [] h.t0 h.p0 (.inl rfl) hR hne
 refine sle.trans ?_ (by simpa using g4)
 unfold Bef at g3
 by_cases e : i = m'
 · subst e
   rw [hp] at g2
   cases g2
   by_cases e' : j = r
   · rw [e']; exact .inl rfl
   · exact .inr (slt.last (by omega) p)
 · exact .inr ((h.lt i m' p p' (by omega) hp g2).app)
theorem BF.never_le (h : BF N M n a b T P i j) (hi : T.length ≤ i) {R : List Int} (hR : Way N M a R b) (hne : R ≠ []) : False := by
 obtain ⟨m', r, p', g1, g2, g3, g4⟩ := h.leave R 0 a [] [] h.t0 h.p0 (.inl rfl) hR hne
 exact g3 (.inl (by omega))
theorem BF.row (h : BF N M n a b T P i j) {t : Int} {row : List Int} (ht : T[i]? = some t) (hr : idx N t = some row) (hj : row.length ≤ j) : BF N M n a b T P (i + 1) 0 :=
 { h with
  org := fun m p hm hp => by
   obtain ⟨i', j', p', e1, e2, e3⟩ := h.org m p hm hp
   exact ⟨i', j', p', e1, e2, .inl (by rcases e3 with e | ⟨e, _⟩ <;> omega)⟩
  dn := fun i' j' t' p x hb ht' hp hE hM => by
   refine h.dn i' j' t' p x ?_ ht' hp hE hM
   rcases hb with hb | ⟨_, hb⟩
   · by_cases e : i' = i
     · subst e
       rw [ht] at ht'; cases ht'
       obtain ⟨row', k1, k2⟩ := hE
       rw [hr] at k1; cases k1
       have := (idx_rng k2).2
       exact .inr ⟨rfl, by omega⟩
     · exact .inl (by omega)
   · omega }
theorem BF.befo (h : BF N M n a b T P i j) {p q : List Int} {m : Nat} (hp : P[i]? = some p) (hq : P[m]? = some q) : slt q (p ++ [(j : Int)]) := by
 by_cases hm : m = 0
 · subst hm
   have := h.p0
   rw [hq] at this
   cases this
   exact .inl (by simp)
 · obtain ⟨i', j', p', e1, e2, e3⟩ := h.org m q (by omega) hq
   subst e1
   rcases e3 with e | ⟨e, e'⟩
   · exact (h.lt i' i p' p e e2 hp).app
   · subst e
     rw [hp] at e2; cases e2
     exact slt.last (by omega) p
theorem BF.skip (h : BF N M n a b T P i j) {t x : Int} {p : List Int} (ht : T[i]? = some t) (hp : P[i]? = some p) (hE : Eg N t (j : Int) x) (hx : In M x → x ≠ b ∧ x ∈ T) : BF N M n a b T P i (j + 1) :=
 { h with
  org := fun m p hm hp => by
   obtain ⟨i', j', p', e1, e2, e3⟩ := h.org m p hm hp
   exact ⟨i', j', p', e1, e2, by rcases e3 with e | ⟨e, e'⟩; exact .inl e; exact .inr ⟨e, by omega⟩⟩
  dn := fun i' j' t' p' x' hb ht' hp' hE' hM => by
   by_cases hb' : Bef i' j' i j
   · exact h.dn i' j' t' p' x' hb' ht' hp' hE' hM
   · have e1 : i' = i := by unfold Bef at hb hb'; omega
     have e2 : j' = j := by unfold Bef at hb hb'; omega
     subst e1 e2
     rw [ht] at ht'; cases ht'
     rw [hp] at hp'; cases hp'
     have := hE.uniq hE'
     subst this
     obtain ⟨x1, x2⟩ := hx hM
     obtain ⟨m, hm⟩ := List.getElem?_of_mem x2
     obtain ⟨q, hq⟩ := h.getP hm
     exact ⟨x1, m, q, hm, hq, .inr (h.befo hp hq)⟩ }
theorem BF.push (h : BF N M n a b T P i j) {t x : Int} {p : List Int} (ht : T[i]? = some t) (hp : P[i]? = some p) (hE : Eg N t (j : Int) x) (hM : In M x) (hxb : x ≠ b) (hxT : x ∉ T) (hx : 0 ≤ x ∧ x < n) : BF N M n a b (T ++ [x]) (P ++ [p ++ [(j : Int)]]) i (j + 1) := by
 have hi := (List.getElem?_eq_some_iff.1 ht).1
 have hlp := h.lp
 have oT : ∀ {m : Nat} {y : Int}, (T ++ [x])[m]? = some y → T[m]? = some y ∨ (m = T.length ∧ y = x) := fun {m y} hy => by
  by_cases e : m < T.length
  · rw [List.getElem?_append_left e] at hy; exact .inl hy
  · have hl := (List.getElem?_eq_some_iff.1 hy).1
    rw [List.length_append] at hl
    simp only [List.length_cons, List.length_nil] at hl
    have : m = T.length := by omega
    subst this
    simp at hy
    exact .inr ⟨rfl, hy.symm⟩
 have oP : ∀ {m : Nat} {q : List Int}, (P ++ [p ++ [(j : Int)]])[m]? = some q → (P[m]? = some q ∧ m < T.length) ∨ (m = T.length ∧ q = p ++ [(j : Int)]) := fun {m q} hq => by
  by_cases e : m < P.length
  · rw [List.getElem?_append_left e] at hq; exact .inl ⟨hq, by omega⟩
  · have hl := (List.getElem?_eq_some_iff.1 hq).1
    rw [List.length_append] at hl
    simp only [List.length_cons, List.length_nil] at hl
    have : m = P.length := by omega
    subst this
    simp at hq
    exact .inr ⟨hlp, hq.symm⟩
 have upT : ∀ {m : Nat} {y : Int}, T[m]? = some y → (T ++ [x])[m]? = some y := fun {m y} hy => by
  rw [List.getElem?_append_left (List.getElem?_eq_some_iff.1 hy).1]; exact hy
 have upP : ∀ {m : Nat} {q : List Int}, P[m]? = some q → (P ++ [p ++ [(j : Int)]])[m]? = some q := fun {m q} hq => by
  rw [List.getElem?_append_left (List.getElem?_eq_some_iff.1 hq).1]; exact hq
 have up : ∀ {i' j' : Nat}, Bef i' j' i j → Bef i' j' i (j + 1) := fun {i' j'} e => by unfold Bef at e ⊢; omega
 refine { lp := by simp [hlp], nd := ?_, t0 := upT h.t0, p0 := upP h.p0, nt := fun m hm hb => ?_, rg := fun y hy => ?_, way := fun m y q hy hq => ?_, lt := fun m m' q q' hm hq hq' => ?_, org := fun m q hm hq => ?_, pl := fun m q hq => ?_, dn := fun i' j' t' p' x' hb ht' hp' hE' hM' => ?_ }
 · refine List.nodup_append.2 ⟨h.nd, by simp, fun u hu v hv e => ?_⟩
   rw [List.mem_singleton] at hv
   exact hxT (by rw [← hv, ← e]; exact hu)
 · rcases oT hb with hb | ⟨_, e⟩
   · exact h.nt m hm hb
   · exact hxb e.symm
 · rcases List.mem_append.1 hy with hy | hy
   · exact h.rg y hy
   · rw [List.mem_singleton.1 hy]; exact hx
 · rcases oT hy with hy | ⟨em, ey⟩
   · rcases oP hq with ⟨hq, _⟩ | ⟨em, _⟩
     · exact h.way m y q hy hq
     · have := (List.getElem?_eq_some_iff.1 hy).1
       omega
   · rcases oP hq with ⟨_, hq⟩ | ⟨_, eq⟩
     · omega
     · rw [ey, eq]
       exact (h.way i t p ht hp).snoc hE hM
 · rcases oP hq with ⟨hq, hl⟩ | ⟨em, eq⟩
   · rcases oP hq' with ⟨hq', _⟩ | ⟨em', eq'⟩
     · exact h.lt m m' q q' hm hq hq'
     · rw [eq']
       exact h.befo hp hq
   · rcases oP hq' with ⟨_, hl⟩ | ⟨em', _⟩ <;> omega
 · rcases oP hq with ⟨hq, _⟩ | ⟨em, eq⟩
   · obtain ⟨i', j', p', e1, e2, e3⟩ := h.org m q hm hq
     exact ⟨i', j', p', e1, upP e2, up e3⟩
   · exact ⟨i, j, p, eq, upP hp, .inr ⟨rfl, Nat.lt_succ_self _⟩⟩
 · rcases oP hq with ⟨hq, _⟩ | ⟨em, eq⟩
   · exact h.pl m q hq
   · have := h.pl i p hp
     rw [eq, List.length_append]
     simp only [List.length_cons, List.length_nil]
     omega
 · by_cases hb' : Bef i' j' i j
   · have hil : i' < T.length := by unfold Bef at hb'; omega
     rcases oT ht' with ht' | ⟨e, _⟩
     · rcases oP hp' with ⟨hp', _⟩ | ⟨e, _⟩
       · obtain ⟨x1, m, q, k1, k2, k3⟩ := h.dn i' j' t' p' x' hb' ht' hp' hE' hM'
         exact ⟨x1, m, q, upT k1, upP k2, k3⟩
       · omega
     · omega
   · have e1 : i' = i := by unfold Bef at hb hb'; omega
     have e2 : j' = j := by unfold Bef at hb hb'; omega
     subst e1 e2
     have ht2 := upT ht
     have hp2 := upP hp
     rw [ht2] at ht'; cases ht'
     rw [hp2] at hp'; cases hp'
     have := hE.uniq hE'
     subst this
     exact ⟨hxb, T.length, p ++ [(j' : Int)], by simp, by rw [← hlp]; simp, .inl rfl⟩
end
end Go.Proofs.YtcmamhmpoinmnaaGreat
set_option linter.unusedVariables false
set_option linter.unusedSimpArgs false
namespace Go.Proofs.YtcmamhmpoinmnaaGreat
open Go Go.Wk Go.Proofs
theorem cnt_esc {ρ σ : Type} {f : Int → σ → Option (ρ ⊕ (σ ⊕ σ))} (I : Nat → σ → Prop) (O : ρ → Prop) (n : Nat) (step : ∀ (j : Nat) s, j < n → I j s → ∃ o, f (j : Int) s = some o ∧ (match o with
 | .inl r => O r
 | .inr (.inl _) => False
 | .inr (.inr s') => I (j + 1) s')) :
 ∀ (k j : Nat) (s : σ), j + k = n → I j s → ∃ o, cntM f k (j : Int) s = some o ∧ (match o with
  | .inl r => O r
  | .inr s' => I n s')
 | 0, j, s, h, hI => by
  have : j = n := by omega
  subst this
  exact ⟨_, rfl, hI⟩
 | k + 1, j, s, h, hI => by
  obtain ⟨o, h1, h2⟩ := step j s (by omega) hI
  show ∃ o, Option.bind (f (j : Int) s) _ = some o ∧ _
  rw [h1, Option.bind_some]
  match o, h2 with
  | .inl r, h2 => exact ⟨_, rfl, h2⟩
  | .inr (.inr s'), h2 =>
   obtain ⟨o', k1, k2⟩ := cnt_esc I O n step k (j + 1) s' (by omega) h2
   exact ⟨o', k1, k2⟩
structure SW (N L : List (List Int)) (n : Nat) (a b : Int) (T : List Int) (P : List (List Int)) (seen : List Bool) (W : List (List Int)) : Prop where
 sl : seen.length = n
 sv : ∀ x : Int, 0 ≤ x → x < n → (In seen x ↔ x ∈ T ∧ (x = a → a ≠ b))
 wl : W.length = n
 wv : ∀ (m : Nat) t p, T[m]? = some t → P[m]? = some p → idx W t = some (letP N L a p)
section
variable {N L : List (List Int)} {M : List Bool} {n : Nat} (g : Gr N M n) (hL : ∀ v row, idx N v = some row → ∃ l, idx L v = some l ∧ l.length = row.length) {w : watch} (hw : w.next = N) (hwl : w.letters = L) {a b : Int}
include g hL hw hwl
omit hw in
theorem i_row {T : List Int} {P : List (List Int)} {i : Nat} {seen : List Bool} {W : List (List Int)} {t : Int} {row : List Int} (hB : BF N M n a b T P i 0) (hS : SW N L n a b T P seen W) (ht : T[i]? = some t) (hr : idx N t = some row) :
 ∃ o, cntM (i_watch_way_b2 w b M t row) row.length 0 (T.drop (i + 1), seen, W) = some o ∧ (match o with
  | .inl r => ∃ R, LeastW N M a b R ∧ r = letP N L a R
  | .inr s => ∃ T' P', BF N M n a b T' P' (i + 1) 0 ∧ SW N L n a b T' P' s.2.1 s.2.2 ∧ s.1 = T'.drop (i + 1) ∧ T'[i]? = some t) := by
 obtain ⟨l1, l2⟩ := g.row t row hr
 have hn := g.le
 have hi := (List.getElem?_eq_some_iff.1 ht).1
 obtain ⟨o, h1, h2⟩ := cnt_esc (f := i_watch_way_b2 w b M t row) (fun j (s : List Int × List Bool × List (List Int)) => ∃ T' P', BF N M n a b T' P' i j ∧ SW N L n a b T' P' s.2.1 s.2.2 ∧ s.1 = T'.drop (i + 1) ∧ T'[i]? = some t) (fun r => ∃ R, LeastW N M a b R ∧ r = letP N L a R) row.length (fun j s hj ⟨T', P', hB, hS, hQ, ht⟩ => by
  obtain ⟨Q, seen, W⟩ := s
  dsimp only at hS hQ
  have hx : row[j]? = some row[j] := List.getElem?_eq_getElem hj
  generalize row[j] = x at hx
  have hx' : idx row (j : Int) = some x := by rw [idx_nat]; exact hx
  obtain ⟨x0, x1⟩ := l2 x (List.mem_of_getElem? hx)
  have hE : Eg N t (j : Int) x := ⟨row, hr, hx'⟩
  obtain ⟨p, hp⟩ := hB.getP ht
  have hMx := In_get (B := M) (v := x) x0 (by have := g.lm; omega)
  have hSx := In_get (B := seen) (v := x) x0 (by have := hS.sl; omega)
  have hsv := hS.sv x x0 x1
  have hbel : ¬ In seen x → x ≠ b → x ∉ T' := fun h1 h2 hm => h1 (hsv.2 ⟨hm, fun e1 e2 => h2 (by rw [e1, e2])⟩)
  unfold i_watch_way_b2
  dsimp only
  rw [hx', Option.bind_some, hMx, Option.bind_some]
  by_cases hM : In M x
  · rw [decide_eq_true hM, Bool.not_true, cond_false, hSx, Option.bind_some, Option.bind_some]
    by_cases hsn : In seen x
    · rw [decide_eq_true hsn, cond_true]
      obtain ⟨k1, k2⟩ := hsv.1 hsn
      have hxb : x ≠ b := fun e => by
       obtain ⟨m, hm⟩ := List.getElem?_of_mem k1
       by_cases m0 : m = 0
       · subst m0
         have := hB.t0
         rw [hm] at this
         cases this
         exact k2 rfl e
       · exact hB.nt m (by omega) (by rw [hm, e])
      exact ⟨_, rfl, T', P', hB.skip ht hp hE (fun _ => ⟨hxb, k1⟩), hS, hQ, ht⟩
    · rw [decide_eq_false hsn, cond_false, Option.bind_some]
      obtain ⟨seen', s1, s2⟩ := setI_some (xs := seen) (i := x) true x0 (by have := hS.sl; omega)
      obtain ⟨lr, r1, r2⟩ := hL t row hr
      obtain ⟨y, hy⟩ := idx_some (xs := lr) (i := (j : Int)) (by omega) (by omega)
      have hyt : tab L t (j : Int) = y := Eg.tab ⟨lr, r1, hy⟩
      have hlen := letP_len N L p a
      have hpl := hB.pl i p hp
      have hin : i < n := by
       have := St.len (n := n) (xs := T'.mergeSort fun x y => decide (x ≤ y)) ⟨sort_asc hB.nd, fun z hz => hB.rg z ((List.mergeSort_perm T' _).mem_iff.1 hz)⟩
       rw [List.length_mergeSort] at this
       have := (List.getElem?_eq_some_iff.1 ht).1
       omega
      obtain ⟨old, ho⟩ := idx_some (xs := W) (i := x) x0 (by have := hS.wl; omega)
      obtain ⟨W', w1, w2⟩ := setI_some (xs := W) (i := x) (letP N L a p ++ [y]) x0 (by have := hS.wl; omega)
      rw [s1, Option.bind_some, hS.wv i t p ht hp, Option.bind_some, hwl, r1, Option.bind_some, hy, Option.bind_some, appL (xs := []) (by simp only [List.length_nil]; omega) rfl, Option.bind_some, List.nil_append, app1 (by omega) rfl, Option.bind_some, ho, Option.bind_some, w1, Option.bind_some]
      have hlp : letP N L a (p ++ [(j : Int)]) = letP N L a p ++ [y] := by rw [letP_snoc (hB.way i t p ht hp), hyt]
      by_cases hxb : x = b
      · subst hxb
        rw [beq_self_eq_true, cond_true]
        have : idx W' x = some (letP N L a p ++ [y]) := by rw [idx_setI w1, if_pos rfl]
        rw [this, Option.bind_some]
        exact ⟨_, rfl, p ++ [(j : Int)], hB.found ht hp hE hM, hlp.symm⟩
      · have hb : (x == b) = false := by rw [beq_eq_false_iff_ne]; exact hxb
        have hxT := hbel hsn hxb
        have hTl : T'.length ≤ n := by
         have := St.len (n := n) (xs := T'.mergeSort fun x y => decide (x ≤ y)) ⟨sort_asc hB.nd, fun z hz => hB.rg z ((List.mergeSort_perm T' _).mem_iff.1 hz)⟩
         rwa [List.length_mergeSort] at this
        rw [hb, cond_false, app1 (by rw [hQ, List.length_drop]; omega) rfl, Option.bind_some]
        have hit := (List.getElem?_eq_some_iff.1 ht).1
        refine ⟨_, rfl, T' ++ [x], P' ++ [p ++ [(j : Int)]], hB.push ht hp hE hM hxb hxT ⟨x0, x1⟩, ⟨by have := hS.sl; dsimp only; omega, fun z z0 z1 => ?_, by have := hS.wl; dsimp only; omega, fun m t' p' hm hp' => ?_⟩, ?_, by rw [List.getElem?_append_left hit]; exact ht⟩
        · unfold In
          dsimp only
          rw [idx_setI s1]
          by_cases e : z = x
          · subst e
            rw [if_pos rfl]
            refine ⟨fun _ => ⟨by simp, fun e1 e2 => hxb (by rw [e1, e2])⟩, fun _ => rfl⟩
          · rw [if_neg e]
            have := hS.sv z z0 z1
            unfold In at this
            rw [this]
            simp [e]
        · dsimp only
          rw [idx_setI w1]
          by_cases e : m < T'.length
          · rw [List.getElem?_append_left e] at hm
            rw [List.getElem?_append_left (by have := hB.lp; omega)] at hp'
            rw [if_neg (fun e' : t' = x => hxT (by rw [← e']; exact List.mem_of_getElem? hm))]
            exact hS.wv m t' p' hm hp'
          · have hl := (List.getElem?_eq_some_iff.1 hm).1
            rw [List.length_append] at hl
            simp only [List.length_cons, List.length_nil] at hl
            have em : m = T'.length := by omega
            subst em
            rw [← hB.lp] at hp'
            simp at hm hp'
            rw [if_pos hm.symm, ← hp', hlp]
        · dsimp only
          rw [hQ, List.drop_append_of_le_length (by omega)]
  · rw [decide_eq_false hM, Bool.not_false, cond_true, Option.bind_some, cond_true]
    exact ⟨_, rfl, T', P', hB.skip ht hp hE (fun h => absurd h hM), hS, hQ, ht⟩) row.length 0 (T.drop (i + 1), seen, W) (by omega) ⟨T, P, hB, hS, rfl, ht⟩
 refine ⟨o, h1, ?_⟩
 match o, h2 with
 | .inl r, h2 => exact h2
 | .inr s, ⟨T', P', k1, k2, k3, k4⟩ => exact ⟨T', P', k1.row k4 hr (Nat.le_refl _), k2, k3, k4⟩
theorem i_wayL {tn : Bool} (ha : 0 ≤ a ∧ a < n) (hb : 0 ≤ b ∧ b < n) (hc : tn = true ∨ a ≠ b) : (∃ R, i_watch_way w a b M tn = some (letP N L a R) ∧ LeastW N M a b R) ∨ (i_watch_way w a b M tn = some [] ∧ ∀ R, R ≠ [] → ¬ Way N M a R b) := by
 have hn := g.le
 have hl := g.ln
 have hcond : (bif (a == b) then some (!tn) else some false) = some false := by
  rcases hc with h | h
  · subst h
    cases a == b <;> rfl
  · rw [beq_eq_false_iff_ne.2 h]; rfl
 obtain ⟨seen, s1, s2⟩ := setI_some (xs := List.replicate n false) (i := a) (a != b) ha.1 (by rw [List.length_replicate]; exact ha.2)
 obtain ⟨z, hz⟩ := idx_some (xs := List.replicate n false) (i := a) ha.1 (by rw [List.length_replicate]; exact ha.2)
 have hseen : ∀ x : Int, 0 ≤ x → x < n → (In seen x ↔ x ∈ [a] ∧ (x = a → a ≠ b)) := fun x x0 x1 => by
  unfold In
  rw [idx_setI s1, List.mem_singleton]
  by_cases e : x = a
  · rw [if_pos e]
    simp [e]
  · rw [if_neg e, idx_int x0, List.getElem?_replicate, if_pos (by omega)]
    simp [e]
 rw [List.length_replicate] at s2
 have hB0 : BF N M n a b [a] [[]] 0 0 := by
  refine { lp := rfl, nd := by simp, t0 := rfl, p0 := rfl, nt := fun m hm => ?_, rg := fun x hx => ?_, way := fun m t p ht hp => ?_, lt := fun m m' p p' h h1 h2 => ?_, org := fun m p h hp => ?_, pl := fun m p hp => ?_, dn := fun i' j' t p x h => ?_ }
  · obtain ⟨m, rfl⟩ : ∃ m', m = m' + 1 := ⟨m - 1, by omega⟩
    simp
  · rw [List.mem_singleton.1 hx]; exact ha
  · cases m with
    | zero => cases ht; cases hp; exact rfl
    | succ m => simp at ht
  · obtain ⟨m', rfl⟩ : ∃ q, m' = q + 1 := ⟨m' - 1, by omega⟩
    simp at h2
  · obtain ⟨m, rfl⟩ : ∃ m', m = m' + 1 := ⟨m - 1, by omega⟩
    simp at hp
  · cases m with
    | zero => cases hp; exact Nat.le_refl _
    | succ m => simp at hp
  · unfold Bef at h
    omega
 have hW0 : ∀ (m : Nat) t p, ([a] : List Int)[m]? = some t → ([[]] : List (List Int))[m]? = some p → idx (List.replicate n ([] : List Int)) t = some (letP N L a p) := fun m t p ht hp => by
  cases m with
  | zero =>
   cases ht; cases hp
   rw [idx_int ha.1, List.getElem?_replicate, if_pos (by omega)]
   rfl
  | succ m => simp at ht
 have hS0 : SW N L n a b [a] [[]] seen (List.replicate n []) := ⟨s2, hseen, by simp, hW0⟩
 obtain ⟨o, w1, w2⟩ := while_out (f := i_watch_way_b0 w b M) (fun i (s : List Int × List Bool × List (List Int)) => ∃ T P, BF N M n a b T P i 0 ∧ SW N L n a b T P s.2.1 s.2.2 ∧ s.1 = T.drop i ∧ i ≤ T.length) (fun r => ∃ R, LeastW N M a b R ∧ r = letP N L a R) (fun _ => ∀ R, R ≠ [] → ¬ Way N M a R b) n (fun i s ⟨T, P, hB, hS, hQ, hiT⟩ => by
  obtain ⟨Q, seen, W⟩ := s
  dsimp only at hS hQ
  subst hQ
  unfold i_watch_way_b0
  dsimp only
  by_cases hlt : i < T.length
  · have ht : T[i]? = some T[i] := List.getElem?_eq_getElem hlt
    have hd : T.drop i = T[i] :: T.drop (i + 1) := List.drop_eq_getElem_cons hlt
    generalize T[i] = t at ht hd
    obtain ⟨t0, t1⟩ := hB.rg t (List.mem_of_getElem? ht)
    obtain ⟨row, hr⟩ := idx_some (xs := N) (i := t) t0 (by omega)
    have hTl : T.length ≤ n := by
     have := St.len (n := n) (xs := T.mergeSort fun x y => decide (x ≤ y)) ⟨sort_asc hB.nd, fun z hz => hB.rg z ((List.mergeSort_perm T _).mem_iff.1 hz)⟩
     rwa [List.length_mergeSort] at this
    have hlen : (T.drop i).length = T.length - i := List.length_drop
    have hsub : subS (T.drop i) 1 ((T.drop i).length : Int) = some (T.drop (i + 1)) := by
     unfold subS
     rw [if_pos (by omega), Int.toNat_natCast, List.take_length, hd]
     rfl
    have hi00 : idx (T.drop i) 0 = some t := by rw [hd]; rfl
    obtain ⟨o, k1, k2⟩ := i_row g hL hwl hB hS ht hr
    rw [decide_eq_true (show (0 : Int) < ((T.drop i).length : Int) by omega), cond_true, hi00, Option.bind_some, hsub, Option.bind_some, hw, hr, Option.bind_some, k1, Option.bind_some]
    match o, k2 with
    | .inl r, k2 => exact ⟨_, rfl, k2⟩
    | .inr s', ⟨T', P', q1, q2, q3, q4⟩ =>
     exact ⟨_, rfl, by omega, T', P', q1, q2, q3, (List.getElem?_eq_some_iff.1 q4).1⟩
  · have hlen : (T.drop i).length = T.length - i := List.length_drop
    rw [decide_eq_false (show ¬ (0 : Int) < ((T.drop i).length : Int) by omega), cond_false]
    exact ⟨_, rfl, fun R hne hR => hB.never_le (by omega) hR hne⟩) (2 ^ 64) 0 ([a], seen, List.replicate n []) (by omega) ⟨[a], [[]], hB0, hS0, rfl, by simp⟩ (by omega)
 unfold i_watch_way
 rw [hcond, Option.bind_some, cond_false, hw, hl, mkS_nat (by omega) rfl, Option.bind_some, hz, Option.bind_some, s1, Option.bind_some, mkS_nat (by omega) rfl, Option.bind_some, w1, Option.bind_some]
 match o, w2 with
 | .inl r, ⟨R, k1, k2⟩ => exact .inl ⟨R, by rw [k2]; rfl, k1⟩
 | .inr s, w2 => exact .inr ⟨rfl, w2⟩
end
end Go.Proofs.YtcmamhmpoinmnaaGreat
set_option linter.unusedVariables false
set_option linter.unusedSimpArgs false
namespace Go.Proofs.YtcmamhmpoinmnaaGreat
open Go Go.Wk Go.Proofs
theorem Way.split {N : List (List Int)} {M : List Bool} {i : Int} {B : List Int} : ∀ {A : List Int} {v u : Int}, Way N M v (A ++ i :: B) u → ∃ x y, Way N M v A x ∧ Eg N x i y ∧ In M y
 | [], v, u, ⟨y, h1, h2, h3⟩ => ⟨v, y, rfl, h1, h2⟩
 | a :: A, v, u, ⟨z, h1, h2, h3⟩ => by
  obtain ⟨x, y, k1, k2, k3⟩ := Way.split h3
  exact ⟨x, y, ⟨z, h1, h2, k1⟩, k2, k3⟩
theorem while_pos1 {ρ σ : Type} (f : σ → Option (ρ ⊕ (σ ⊕ σ))) (s : σ) : whileM f (2 ^ 64) s = Option.bind (f s) (lpK (whileM f (2 ^ 64 - 1))) := by
 have h : 0 < (2 : Nat) ^ 64 := by omega
 revert h
 generalize (2 : Nat) ^ 64 = q
 intro h
 cases q with
 | zero => omega
 | succ q => rfl
theorem nums_get {k i : Nat} (h : i < k) : (nums k)[i]? = some (i : Int) := by
 unfold nums
 rw [List.getElem?_map, List.getElem?_range h]; rfl
theorem nums_lenB (k : Nat) : (nums k).length = k := by simp [nums]
section
variable {p : Sig} {m : Machine} {d : Det} {k : Nat} {K : List Key} {w : watch} (h : WK p m d k K w)
include h
theorem wk_rows : ∀ v row, idx w.next v = some row → ∃ l, idx w.letters v = some l ∧ l.length = row.length := fun v row hr => by
 obtain ⟨v0, v1⟩ := idx_rng hr
 rw [idx_int v0] at hr
 obtain ⟨r1, u, r2, _⟩ := h.prod.row _ row hr
 exact ⟨_, by rw [idx_int v0]; exact h.let_.2 _ u r2, by rw [List.length_map, nums_lenB, r1]⟩
theorem wk_reach {M : List Bool} (hM : ∀ v : Int, 0 ≤ v → v < K.length → In M v) : ∀ (q : Nat), q < K.length → ∃ R, Way w.next M 0 R (q : Int) := fun q => by
 induction q using Nat.strongRecOn with
 | ind q ih =>
  intro hq
  have hu : K[q]? = some K[q] := List.getElem?_eq_getElem hq
  rcases h.prod.src q _ hu with rfl | ⟨j, x, v, a1, a2, a3, a4, a5⟩
  · exact ⟨[], rfl⟩
  · obtain ⟨R, hR⟩ := ih j a1 a2
    have hrl := h.prod.rl
    have hr : w.next[j]? = some w.next[j] := List.getElem?_eq_getElem (by omega)
    obtain ⟨_, v', b1, b2⟩ := h.prod.row j _ hr
    rw [a3] at b1; cases b1
    obtain ⟨y, y1, y2, y3⟩ := b2 x a4
    rw [← a5, ← hu] at y3
    have e := (List.getElem?_inj (by have := (List.getElem?_eq_some_iff.1 (y3.trans hu)).1; exact this) h.prod.nod).1 y3
    have ey : y = (q : Int) := by omega
    subst ey
    exact ⟨R ++ [(x : Int)], hR.snoc ⟨_, by rw [idx_nat]; exact hr, by rw [idx_nat]; exact y1⟩ (hM _ (by omega) (by omega))⟩
theorem wk_edge {v i y : Int} (hE : Eg w.next v i y) {u : Key} (hu : K[v.toNat]? = some u) : 0 ≤ i ∧ i < k ∧ tab w.letters v i = tab m.Out u.1 i * pw p.In + i ∧ ∃ z : Key, K[y.toNat]? = some z ∧ z.1 = tab m.Next u.1 i := by
 obtain ⟨row, e1, e2⟩ := hE
 obtain ⟨v0, _⟩ := idx_rng e1
 obtain ⟨i0, i1⟩ := idx_rng e2
 rw [idx_int v0] at e1
 obtain ⟨r1, u', r2, r3⟩ := h.prod.row _ row e1
 rw [hu] at r2; cases r2
 obtain ⟨i, rfl⟩ := ex_nat i0
 have hik : i < k := by omega
 obtain ⟨y', y1, y2, y3⟩ := r3 i hik
 rw [idx_nat, y1] at e2
 cases e2
 refine ⟨i0, by omega, ?_, _, y3, rfl⟩
 have hl := h.let_.2 _ u hu
 have : Eg w.letters v (i : Int) (letW m (pw p.In) u i) := ⟨_, by rw [idx_int v0]; exact hl, by rw [idx_nat, List.getElem?_map, nums_get hik]; rfl⟩
 exact this.tab
theorem wk_word (hs : sigOk p = true) (hm : machOk p m = true) (hk : pw p.In = (k : Int)) {M : List Bool} {v u : Int} {R : List Int} (hR : Way w.next M v R u) (hl : R.length ≤ 1000) {a : Key} (ha : K[v.toNat]? = some a) :
 s_l29Letters p m a.1 R = some (letP w.next w.letters v R) ∧ ∃ z : Key, K[u.toNat]? = some z ∧ s_l29Behind m a.1 R = some z.1 := by
 obtain ⟨_, _, hlen, n1, n2⟩ := machOk_spec hm
 have pI := pw_le p.In
 obtain ⟨hsi, _⟩ := sigOk_in hs
 have hstep : ∀ j : Nat, j < R.length → ∃ (i x y : Int) (c z : Key), R[j]? = some i ∧ Way w.next M v (R.take j) x ∧ Way w.next M v (R.take (j + 1)) y ∧ K[y.toNat]? = some z ∧ tab w.letters x i = tab m.Out c.1 i * pw p.In + i ∧ K[x.toNat]? = some c ∧ z.1 = tab m.Next c.1 i ∧ 0 ≤ i ∧ i < k ∧ 0 ≤ c.1 ∧ c.1 < m.Next.length := fun j hj => by
  induction j with
  | zero =>
   obtain ⟨i, R', rfl⟩ : ∃ i R', R = i :: R' := by cases R with
    | nil => simp at hj
    | cons i R' => exact ⟨i, R', rfl⟩
   obtain ⟨y, h1, h2, h3⟩ := hR
   obtain ⟨i0, i1, l1, z, z1, z2⟩ := wk_edge h h1 ha
   have hin := h.kin a (List.mem_of_getElem? ha)
   exact ⟨i, v, y, a, z, rfl, rfl, ⟨y, h1, h2, rfl⟩, z1, l1, ha, z2, i0, i1, hin.1, hin.2.1⟩
  | succ j ih =>
   obtain ⟨i', x', y', c', z', g1, g2, g3, g4, _⟩ := ih (by omega)
   have hi : R[j + 1]? = some R[j + 1] := List.getElem?_eq_getElem hj
   generalize R[j + 1] = i at hi
   have hsp : R = R.take (j + 1) ++ i :: R.drop (j + 2) := by
    have hd : R.drop (j + 1) = R[j + 1] :: R.drop (j + 2) := List.drop_eq_getElem_cons hj
    have hi2 : R[j + 1] = i := by
     have := List.getElem?_eq_getElem hj
     rw [this] at hi
     exact Option.some.inj hi
    rw [hi2] at hd
    rw [← hd, List.take_append_drop]
   rw [hsp] at hR
   obtain ⟨x, y, s1, s2, s3⟩ := hR.split
   have := s1.uniq g3
   subst this
   obtain ⟨i0, i1, l1, z, z1, z2⟩ := wk_edge h s2 g4
   have hin := h.kin z' (List.mem_of_getElem? g4)
   refine ⟨i, x, y, z', z, hi, s1, ?_, z1, l1, g4, z2, i0, i1, hin.1, hin.2.1⟩
   rw [List.take_add_one, hi]
   exact s1.snoc s2 s3
 obtain ⟨t, t1, t2⟩ := cnt_inv (f := s_l29Letters_b0 p m R) (fun j (s : Int × List Int) => s.2 = letP w.next w.letters v (R.take j) ∧ ∀ x c, Way w.next M v (R.take j) x → K[x.toNat]? = some c → s.1 = c.1) R.length (s := (a.1, [])) ⟨rfl, fun x c hx hc => by
  have hx : x = v := hx
  subst hx
  rw [ha] at hc; cases hc; rfl⟩ (fun j s hj ⟨a1, a2⟩ => by
  obtain ⟨q, out⟩ := s
  dsimp only at a1 a2
  obtain ⟨i, x, y, c, z, g1, g2, g3, g4, g5, g6, g7, g8, g9, g10, g11⟩ := hstep j hj
  have hq := a2 x c g2 g6
  subst hq
  obtain ⟨rn, f1, f2, f3, f4⟩ := tab_in n1 g10 g11 g8 (by omega)
  obtain ⟨ro, o1, o2, o3, o4⟩ := tab_in n2 g10 (by omega) g8 (by omega)
  have pO := pw_le p.Out
  have hmul : tab m.Out c.1 i * pw p.In ≤ 4 * 4 := Int.mul_le_mul (by omega) (by omega) (by omega) (by omega)
  have hmul0 : 0 ≤ tab m.Out c.1 i * pw p.In := Int.mul_nonneg o3 (by omega)
  have hol : out.length ≤ 1000 := by rw [a1, letP_len, List.length_take]; omega
  have hri : idx R (j : Int) = some i := by rw [idx_nat]; exact g1
  refine ⟨(tab m.Next c.1 i, out ++ [tab m.Out c.1 i * pw p.In + i]), ?_, ?_, fun x' c' hx' hc' => ?_⟩
  · unfold s_l29Letters_b0 s_l29Ins
    dsimp only
    rw [hri, Option.bind_some, Option.bind_some, o1, Option.bind_some, o2, Option.bind_some, s_l23Power_eq hsi, Option.bind_some, Option.bind_some, wr' (z := tab m.Out c.1 i * pw p.In) (by omega) (by omega), wr' (by omega) (by omega), app1 (by omega) rfl, Option.bind_some, Option.bind_some, f1, Option.bind_some, f2]
    rfl
  · dsimp only
    rw [List.take_add_one, g1, a1]
    show _ = letP w.next w.letters v (R.take j ++ [i])
    rw [letP_snoc g2, g5]
  · have := hx'.uniq g3
    subst this
    rw [g4] at hc'; cases hc'
    exact g7.symm)
 obtain ⟨b, b1, b2⟩ := cnt_inv (f := s_l29Behind_b0 m R) (fun j (s : Int) => ∀ x c, Way w.next M v (R.take j) x → K[x.toNat]? = some c → s = c.1) R.length (s := a.1) (fun x c hx hc => by
  have hx : x = v := hx
  subst hx
  rw [ha] at hc; cases hc; rfl) (fun j s hj a2 => by
  obtain ⟨i, x, y, c, z, g1, g2, g3, g4, g5, g6, g7, g8, g9, g10, g11⟩ := hstep j hj
  have hq := a2 x c g2 g6
  subst hq
  obtain ⟨rn, f1, f2, f3, f4⟩ := tab_in n1 g10 g11 g8 (by omega)
  have hri : idx R (j : Int) = some i := by rw [idx_nat]; exact g1
  refine ⟨tab m.Next c.1 i, ?_, fun x' c' hx' hc' => ?_⟩
  · unfold s_l29Behind_b0
    rw [hri, Option.bind_some, f1, Option.bind_some, f2]; rfl
  · have := hx'.uniq g3
    subst this
    rw [g4] at hc'; cases hc'
    exact g7.symm)
 have hend : ∃ z : Key, K[u.toNat]? = some z := by
  by_cases e : R.length = 0
  · have e' : R = [] := List.length_eq_zero_iff.1 e
    subst e'
    have hR : u = v := hR
    exact ⟨a, by rw [hR]; exact ha⟩
  · obtain ⟨i, x, y, c, z, g1, g2, g3, g4, _⟩ := hstep (R.length - 1) (by omega)
    rw [show R.length - 1 + 1 = R.length from by omega, List.take_length] at g3
    have := hR.uniq g3
    exact ⟨z, by rw [this]; exact g4⟩
 obtain ⟨z, hz⟩ := hend
 rw [List.take_length] at t2 b2
 unfold s_l29Letters s_l29Behind
 rw [t1, b1, Option.bind_some, Option.bind_some, aft_inr, aft_inr, t2.1]
 exact ⟨rfl, z, hz, by rw [b2 u z hR hz]⟩
end
theorem BreakOf_way (p : Sig) (m : Machine) {cs : List Clause} (hb : ∀ c ∈ cs, Clause.bd c) : (s_BreaksIn p m cs = some [] ∧ s_BreakOf p m cs = some (⟨[], []⟩, false) ∧ i_BreakOf p m cs = some (⟨[], []⟩, false)) ∨
 ∃ n k D K w, AK p m cs n k D K w ∧ ∃ (i : Nat) (l : List Int) (pr : Pair) (s : Int) (R Q : List Int), s_BreaksIn p m cs = some ((i : Int) :: l) ∧ w.pairs[i]? = some pr ∧ s ∈ pr.Ask ∧ (0 ≤ s ∧ s < K.length) ∧ Way w.next (mayM K.length []) 0 R s ∧ R.length ≤ 300 ∧ LeastW w.next (mayM K.length pr.Give) s s Q ∧ Q.length ≤ 300 ∧
  s_BreakOf p m cs = some (⟨letP w.next w.letters 0 R, letP w.next w.letters s Q⟩, true) ∧ i_BreakOf p m cs = some (⟨letP w.next w.letters 0 R, letP w.next w.letters s Q⟩, true) := by
 unfold s_BreakOf i_BreakOf
 rcases All_same p m hb with ⟨h1, h2, _⟩ | ⟨n, k, D, K, w, h, h1, h2⟩
 · rw [BreaksIn_s0 p m h1, h2]
   exact .inl ⟨rfl, rfl, rfl⟩
 · have g := h.gn
   obtain ⟨_, p4, pSt⟩ := h.ps
   rw [BreaksIn_s p m h h1, h2]
   simp only [Option.bind_some, cond_false, Bool.not_true, Option.getD_some, Option.isSome_some, guardS, if_true]
   rw [i_brokenW g pSt p4 rfl rfl, Option.bind_some]
   have hbm := brkN_mem w.next w.pairs w.pairs.length
   generalize brkN w.next w.pairs w.pairs.length = l at hbm
   cases l with
   | nil => exact .inl ⟨rfl, rfl, rfl⟩
   | cons z0 l =>
    obtain ⟨i, hi, ez, pr, hpr, hhit⟩ := (hbm z0).1 (by simp)
    have hnl : (((z0 :: l).length : Int) == 0) = false := by
     rw [beq_eq_false_iff_ne]
     simp only [List.length_cons]
     omega
    have hi0 : idx (z0 :: l) 0 = some z0 := rfl
    have hA := pSt pr (List.mem_of_getElem? hpr)
    have hpi : idx w.pairs z0 = some pr := by rw [ez, idx_nat]; exact hpr
    obtain ⟨s, t, hst⟩ := List.exists_cons_of_ne_nil hhit
    have hsm : s ∈ hitP w.next pr := by rw [hst]; simp
    obtain ⟨hsA, hsF⟩ := (hitP_mem g s).1 hsm
    obtain ⟨s0, s1⟩ := hA.rng s hsA
    have hln := g.ln
    have hle := g.le
    obtain ⟨M0, m1, m2, m3⟩ := s_may hle []
    obtain ⟨M1, n1, n2, n3⟩ := s_may hle pr.Give
    have e0 : M0 = mayM K.length [] := marks_eq m2 (mayM_len _ _) fun v => by rw [m3, mayM_in]
    have e1 : M1 = mayM K.length pr.Give := marks_eq n2 (mayM_len _ _) fun v => by rw [n3, mayM_in]
    subst e0 e1
    have g0 := g.gr []
    have g1 := g.gr pr.Give
    have hK0 : K[(0 : Int).toNat]? = some (0, 0) := h.wk.prod.zero
    have hKl := (List.getElem?_eq_some_iff.1 hK0).1
    have hz0 : In (mayM K.length []) 0 := (m3 0).2 ⟨⟨Int.le_refl _, by omega⟩, by simp⟩
    have hs0 : In (mayM K.length []) s := (m3 s).2 ⟨⟨s0, s1⟩, by simp⟩
    have hs1 : In (mayM K.length pr.Give) s := by
     exact far_in hsF
    obtain ⟨F0, f1, f2⟩ := FarT.of g0 hs0
    obtain ⟨F1, k1, k2⟩ := FarT.of g1 hs1
    -- the stem
    have hstem : ∃ R, s_l30Way w.next F0 0 false = some R ∧ i_watch_way w 0 s (mayM K.length []) false = some (letP w.next w.letters 0 R) ∧ R.length ≤ 300 ∧ Way w.next (mayM K.length []) 0 R s := by
     by_cases e : (0 : Int) = s
     · subst e
       obtain ⟨x, x1, x2⟩ := f2.at_ 0 (Int.le_refl _) (by omega)
       have hx0 : ¬ 0 < x := by
        rcases x2 with ⟨rfl, _⟩ | ⟨dd, rfl, _, x2⟩
        · omega
        · have := x2.uniq (e := 0) ⟨rfl, fun e he => absurd he (Nat.not_lt_zero _)⟩
          omega
       refine ⟨[], ?_, ?_, Nat.zero_le _, rfl⟩
       · unfold s_l30Way
         have : whileM (s_l30Way_b0 w.next F0) (2 ^ 64) (false, [], 0) = some (.inr (false, [], 0)) := by
          rw [while_pos1]
          unfold s_l30Way_b0
          dsimp only
          rw [cond_false, x1, Option.bind_some, decide_eq_false hx0, Option.bind_some, cond_false]
          rfl
         rw [this]; rfl
       · unfold i_watch_way
         rw [beq_self_eq_true]; rfl
     · obtain ⟨si, hsi⟩ := ex_nat s0
       obtain ⟨R0, hR0⟩ := wk_reach h.wk (M := mayM K.length []) (fun v v0 v1 => (m3 v).2 ⟨⟨v0, v1⟩, by simp⟩) si (by omega)
       rw [← hsi] at hR0
       have hne : R0 ≠ [] := fun e' => by
        subst e'
        exact e (show s = 0 from hR0).symm
       rcases i_wayL g0 (wk_rows h.wk) rfl rfl (a := 0) (b := s) (tn := false) ⟨Int.le_refl _, by omega⟩ ⟨s0, s1⟩ (.inr e) with ⟨R, r1, r2⟩ | ⟨_, r2⟩
       · obtain ⟨R', q1, q2, q3⟩ := s_wayL g0 f2 (tn := false) hz0 (.inr e) (by
          have hw := Way.lv hz0 r2.2.1
          obtain ⟨c, R'', hc⟩ := List.exists_cons_of_ne_nil r2.1
          rw [hc] at hw
          exact ⟨R''.length, hw⟩)
         have := q3.uniq r2
         subst this
         exact ⟨R', q1, r1, q2, r2.2.1⟩
       · exact absurd hR0 (r2 R0 hne)
    obtain ⟨R, r1, r2, r3, r4⟩ := hstem
    -- the loop
    obtain ⟨y, y1, y2⟩ := hsF
    obtain ⟨dd, hd⟩ := y2.lv
    have hLv : Lv (scN w.next (mayM K.length pr.Give)) s (dd + 1) s := ⟨y, y1, hd⟩
    obtain ⟨Q, q1, q2, q3⟩ := s_wayL g1 k2 (tn := true) hs1 (.inl rfl) ⟨dd, hLv⟩
    have hQ : i_watch_way w s s (mayM K.length pr.Give) true = some (letP w.next w.letters s Q) := by
     rcases i_wayL g1 (wk_rows h.wk) rfl rfl (a := s) (b := s) (tn := true) ⟨s0, s1⟩ ⟨s0, s1⟩ (.inl rfl) with ⟨Q', c1, c2⟩ | ⟨_, c2⟩
     · rw [c2.uniq q3] at c1; exact c1
     · exact absurd q3.2.1 (c2 Q q3.1)
    -- the words
    have hbrk := s_brokenP g hA
    rw [hst] at hbrk
    obtain ⟨a1, z, a2, a3⟩ := wk_word h.wk h.hs h.hm h.kn r4 (by omega) hK0
    obtain ⟨b1, _, _, _⟩ := wk_word h.wk h.hs h.hm h.kn q3.2.1 (by omega) a2
    refine .inr ⟨n, k, D, K, w, h, i, l, pr, s, R, Q, by rw [← ez], hpr, hsA, ⟨s0, s1⟩, r4, r3, q3, q2, ?_, ?_⟩
    · rw [hnl, cond_false, h1, Option.bind_some, hi0, Option.bind_some]
      dsimp only
      rw [hpi, Option.bind_some, hbrk, Option.bind_some, List.headD_cons, hln, m1, Option.bind_some, f1, Option.bind_some, r1, Option.bind_some, n1, Option.bind_some, k1, Option.bind_some, q1, Option.bind_some, a3, Option.bind_some, a1, Option.bind_some, b1, Option.bind_some]
    · rw [hnl, cond_false, hi0, Option.bind_some, hpi, Option.bind_some]
      unfold i_watch_counterexample
      have ht0 : idx (hitP w.next pr) 0 = some s := by rw [hst]; rfl
      rw [i_targets g rfl hA, Option.bind_some, ht0, Option.bind_some, i_outside g rfl, Option.bind_some, r2, Option.bind_some, i_outside g rfl, Option.bind_some, hQ, Option.bind_some, Option.bind_some]
end Go.Proofs.YtcmamhmpoinmnaaGreat
set_option linter.unusedVariables false
set_option linter.unusedSimpArgs false
namespace Go.Proofs.YtcmamhmpoinmnaaGreat
open Go Go.Wk Go.Proofs
def mst (c : Clause) (q x : Int) : Int := monNext c.Kind q (decide (x ∈ c.A)) (decide (x ∈ c.B))
theorem tab_nums {a n : Nat} {f : Int → Int → Int} {q x : Int} (q0 : 0 ≤ q) (q1 : q < a) (x0 : 0 ≤ x) (x1 : x < n) : tab ((numsN a).map fun q => (numsN n).map fun x => f q x) q x = f q x := by
 obtain ⟨q, rfl⟩ := ex_nat q0
 obtain ⟨x, rfl⟩ := ex_nat x0
 unfold tab numsN
 rw [Int.toNat_natCast, Int.toNat_natCast]
 simp [List.getD_eq_getElem?_getD, List.getElem?_range (show q < a by omega), List.getElem?_range (show x < n by omega)]
theorem mon_tab {c : Clause} {n : Nat} {q x : Int} (q0 : 0 ≤ q) (q1 : q < monStates c.Kind) (x0 : 0 ≤ x) (x1 : x < n) : tab (monD c n).Next q x = mst c q x :=
 tab_nums (f := fun q x => mst c q x) q0 q1 x0 x1
structure Sm (n : Nat) (D : Det) (c : Clause) (i : Nat) (π : Int → Int) : Prop where
 zero : π 0 = 0
 rng : ∀ r : Int, 0 ≤ r → r < D.Next.length → 0 ≤ π r ∧ π r < monStates c.Kind
 step : ∀ r x : Int, 0 ≤ r → r < D.Next.length → 0 ≤ x → x < n → π (tab D.Next r x) = mst c (π r) x
 pair : ∃ pr, D.Pairs[i]? = some pr ∧ ∀ r : Int, 0 ≤ r → r < D.Next.length → ((r ∈ pr.Ask ↔ π r ∈ (monPair c.Kind).Ask) ∧ (r ∈ pr.Give ↔ π r ∈ (monPair c.Kind).Give))
def keyAt (K : List Key) (r : Int) : Key := (K[r.toNat]?).getD (0, 0)
theorem keyAt_get {K : List Key} {r : Int} (r0 : 0 ≤ r) (r1 : r < K.length) : K[r.toNat]? = some (keyAt K r) := by
 have h : K[r.toNat]? = some (K[r.toNat]'(by omega)) := List.getElem?_eq_getElem (by omega)
 unfold keyAt
 rw [h]; rfl
theorem plK_at {part : Key → Int} {K : List Key} {S : List Int} {r : Int} (r0 : 0 ≤ r) (r1 : r < K.length) : r ∈ plK part K S K.length ↔ part (keyAt K r) ∈ S := by
 rw [plK_mem]
 have hk := keyAt_get r0 r1
 constructor
 · rintro ⟨i, h1, h2, v, h3, h4⟩
   have : r.toNat = i := by omega
   rw [this, h3] at hk
   cases hk
   exact h4
 · intro h
   exact ⟨r.toNat, by omega, by omega, _, hk, h⟩
theorem tab_prod {ky : Key → Int → Key} {k : Nat} {K : List Key} {R : List (List Int)} (h : Prod ky k K K.length R) {r x : Int} (r0 : 0 ≤ r) (r1 : r < K.length) (x0 : 0 ≤ x) (x1 : x < k) : 0 ≤ tab R r x ∧ tab R r x < K.length ∧ keyAt K (tab R r x) = ky (keyAt K r) x := by
 have hrl := h.rl
 have hr : R[r.toNat]? = some (R[r.toNat]'(by omega)) := List.getElem?_eq_getElem (by omega)
 obtain ⟨_, v, b1, b2⟩ := h.row _ _ hr
 obtain ⟨x, rfl⟩ := ex_nat x0
 obtain ⟨y, y1, y2, y3⟩ := b2 x (by omega)
 have hv := keyAt_get r0 r1
 rw [b1] at hv
 have hv' : v = keyAt K r := Option.some.inj hv
 have ht : tab R r (x : Int) = y := by
  unfold tab
  rw [List.getD_eq_getElem?_getD (l := R), hr, Option.getD_some, List.getD_eq_getElem?_getD, Int.toNat_natCast, y1, Option.getD_some]
 have hyl := (List.getElem?_eq_some_iff.1 y3).1
 rw [ht]
 refine ⟨y2, by omega, ?_⟩
 rw [← hv']
 unfold keyAt
 rw [y3]; rfl
theorem PR.len {n : Nat} {cs : List Clause} {D : Det} (h : PR n cs D) : D.Pairs.length = cs.length := by
 induction h with
 | nil => rfl
 | @snoc cs c D K R hp k ih =>
  show (D.Pairs.map _ ++ [_]).length = _
  rw [List.length_append, List.length_map, List.length_append, ih]; rfl
theorem PR.sm {p : Sig} {n : Nat} (hn : ltd p = n) : ∀ {cs : List Clause} {D : Det}, PR n cs D → (∀ c ∈ cs, clauseOk p c = true) → ∀ (i : Nat) c, cs[i]? = some c → ∃ π, Sm n D c i π := fun {cs D} h => by
 induction h with
 | nil => intro _ i c hc; simp at hc
 | @snoc cs c' D K R hp k ih =>
  intro hok i c hc
  have hR : (jD D (monD c' n) K R).Next = R := rfl
  have hRl : R.length = K.length := k.prod.rl
  have hP : (jD D (monD c' n) K R).Pairs = D.Pairs.map (plP (·.1) K) ++ (monD c' n).Pairs.map (plP (·.2) K) := rfl
  have hDl : D.Pairs.length = cs.length := hp.len
  have hz : keyAt K 0 = (0, 0) := by
   unfold keyAt
   rw [show (0 : Int).toNat = 0 from rfl, k.prod.zero]; rfl
  have hkin : ∀ r : Int, 0 ≤ r → r < R.length → 0 ≤ (keyAt K r).1 ∧ (keyAt K r).1 < D.Next.length ∧ 0 ≤ (keyAt K r).2 ∧ (keyAt K r).2 < (monD c' n).Next.length := fun r r0 r1 =>
   k.kin _ (List.mem_of_getElem? (keyAt_get r0 (by omega)))
  have hml : (monD c' n).Next.length = monStates c'.Kind := by
   show ((numsN _).map _).length = _
   rw [List.length_map, numsN_len]
  by_cases hi : i < cs.length
  · rw [List.getElem?_append_left hi] at hc
    obtain ⟨π, s⟩ := ih (fun c hc => hok c (List.mem_append_left _ hc)) i c hc
    refine ⟨fun r => π (keyAt K r).1, ⟨by show π (keyAt K 0).1 = 0; rw [hz]; exact s.zero, fun r r0 r1 => ?_, fun r x r0 r1 x0 x1 => ?_, ?_⟩⟩
    · obtain ⟨a1, a2, _, _⟩ := hkin r r0 r1
      exact s.rng _ a1 a2
    · obtain ⟨a1, a2, _, _⟩ := hkin r r0 r1
      have ht := (tab_prod k.prod r0 (by rw [hR] at r1; omega) x0 x1).2.2
      rw [hR]
      show π (keyAt K (tab R r x)).1 = _
      rw [ht]
      exact s.step _ x a1 a2 x0 x1
    · obtain ⟨pr, p1, p2⟩ := s.pair
      refine ⟨plP (·.1) K pr, ?_, fun r r0 r1 => ?_⟩
      · rw [hP, List.getElem?_append_left (by rw [List.length_map]; omega), List.getElem?_map, p1]; rfl
      · obtain ⟨a1, a2, _, _⟩ := hkin r r0 r1
        have r1' : r < K.length := by rw [hR] at r1; omega
        obtain ⟨b1, b2⟩ := p2 _ a1 a2
        exact ⟨(plK_at r0 r1').trans b1, (plK_at r0 r1').trans b2⟩
  · have hil := (List.getElem?_eq_some_iff.1 hc).1
    rw [List.length_append] at hil
    simp only [List.length_cons, List.length_nil] at hil
    have ei : i = cs.length := by omega
    subst ei
    have hcc : c = c' := by simp at hc; exact hc.symm
    subst hcc
    refine ⟨fun r => (keyAt K r).2, ⟨by show (keyAt K 0).2 = 0; rw [hz], fun r r0 r1 => ?_, fun r x r0 r1 x0 x1 => ?_, ?_⟩⟩
    · obtain ⟨_, _, a1, a2⟩ := hkin r r0 r1
      rw [hml] at a2
      exact ⟨a1, a2⟩
    · obtain ⟨_, _, a1, a2⟩ := hkin r r0 r1
      rw [hml] at a2
      have ht := (tab_prod k.prod r0 (by rw [hR] at r1; omega) x0 x1).2.2
      rw [hR]
      show (keyAt K (tab R r x)).2 = _
      rw [ht]
      exact mon_tab a1 a2 x0 x1
    · refine ⟨plP (·.2) K (monPair c.Kind), ?_, fun r r0 r1 => ?_⟩
      · rw [hP, List.getElem?_append_right (by rw [List.length_map]; omega), List.length_map, hDl, Nat.sub_self]; rfl
      · have r1' : r < K.length := by rw [hR] at r1; omega
        exact ⟨plK_at r0 r1', plK_at r0 r1'⟩
end Go.Proofs.YtcmamhmpoinmnaaGreat
set_option linter.unusedVariables false
set_option linter.unusedSimpArgs false
namespace Go.Proofs.YtcmamhmpoinmnaaGreat
open Go Go.Wk Go.Proofs
def RunC (c : Clause) (G : List Int) : Int → List Int → Int → Prop
 | q, [], q' => q' = q
 | q, x :: l, q' => mst c q x ∉ G ∧ RunC c G (mst c q x) l q'
def NoHold (c : Clause) (S L : List Int) : Prop :=
 if c.Kind = 1 then ∃ x ∈ S ++ L, x ∉ c.A
 else if c.Kind = 2 then ∃ (i : Nat) (x y : Int), (S ++ L)[i]? = some x ∧ (S ++ L)[i + 1]? = some y ∧ x ∈ c.A ∧ y ∉ c.B
 else if c.Kind = 3 then (∀ x ∈ L, x ∉ c.B) ∧ ∃ (i : Nat) (x : Int), (S ++ L)[i]? = some x ∧ x ∈ c.A ∧ ∀ y ∈ (S ++ L).drop i, y ∉ c.B
 else if c.Kind = 4 then ∀ x ∈ L, x ∉ c.A
 else if c.Kind = 5 then ∃ x ∈ L, x ∉ c.A
 else if c.Kind = 6 then ∀ x ∈ S ++ L, x ∉ c.A
 else (∃ x ∈ L, x ∈ c.A) ∧ ∀ x ∈ L, x ∉ c.B
theorem b01_dec {P : Prop} [Decidable P] : b01 (decide P) = if P then 1 else 0 := by by_cases h : P <;> simp [h, b01]
def Tells (c : Clause) (q : Int) (l : List Int) : Prop :=
 if c.Kind = 1 then (q = 1 → ∃ x ∈ l, x ∉ c.A) ∧ (q = 0 ∨ q = 1)
 else if c.Kind = 2 then (q = 2 → ∃ (i : Nat) (x y : Int), l[i]? = some x ∧ l[i + 1]? = some y ∧ x ∈ c.A ∧ y ∉ c.B) ∧ (q = 1 → ∃ l' x, l = l' ++ [x] ∧ x ∈ c.A) ∧ (q = 0 ∨ q = 1 ∨ q = 2)
 else if c.Kind = 3 then (q = 1 → ∃ (i : Nat) (x : Int), l[i]? = some x ∧ x ∈ c.A ∧ ∀ y ∈ l.drop i, y ∉ c.B) ∧ (q = 0 ∨ q = 1)
 else if c.Kind = 6 then (q = 0 → ∀ x ∈ l, x ∉ c.A) ∧ (q = 0 ∨ q = 1)
 else True
theorem Tells.snoc {c : Clause} {q x : Int} {l : List Int} (h : Tells c q l) : Tells c (mst c q x) (l ++ [x]) := by
 unfold Tells at h ⊢
 unfold mst monNext
 by_cases k1 : c.Kind = 1
 · rw [if_pos k1] at h ⊢
   rw [if_pos k1, b01_dec]
   obtain ⟨h1, h2⟩ := h
   by_cases hx : x ∈ c.A
   · rw [if_pos hx]
     unfold mx
     rcases h2 with e | e <;> subst e
     · exact ⟨fun e => by simp at e, .inl rfl⟩
     · obtain ⟨y, y1, y2⟩ := h1 rfl
       exact ⟨fun _ => ⟨y, List.mem_append_left _ y1, y2⟩, .inr rfl⟩
   · rw [if_neg hx]
     unfold mx
     refine ⟨fun _ => ⟨x, by simp, hx⟩, .inr ?_⟩
     rcases h2 with e | e <;> subst e <;> rfl
 · rw [if_neg k1] at h ⊢
   rw [if_neg k1]
   by_cases k2 : c.Kind = 2
   · rw [if_pos k2] at h ⊢
     rw [if_pos k2, b01_dec]
     obtain ⟨h1, h2, h3⟩ := h
     by_cases hb : q = 2 ∨ (q = 1 ∧ decide (x ∈ c.B) = false)
     · rw [if_pos hb]
       refine ⟨fun _ => ?_, fun e => by omega, .inr (.inr rfl)⟩
       rcases hb with e | ⟨e, hb⟩
       · obtain ⟨i, u, y, a1, a2, a3, a4⟩ := h1 e
         refine ⟨i, u, y, ?_, ?_, a3, a4⟩
         · rw [List.getElem?_append_left (List.getElem?_eq_some_iff.1 a1).1]; exact a1
         · rw [List.getElem?_append_left (List.getElem?_eq_some_iff.1 a2).1]; exact a2
       · obtain ⟨l', u, rfl, hu⟩ := h2 e
         refine ⟨l'.length, u, x, by simp, by simp, hu, of_decide_eq_false hb⟩
     · rw [if_neg hb]
       by_cases hx : x ∈ c.A
       · rw [if_pos hx]
         exact ⟨fun e => by omega, fun _ => ⟨l, x, rfl, hx⟩, .inr (.inl rfl)⟩
       · rw [if_neg hx]
         exact ⟨fun e => by omega, fun e => by omega, .inl rfl⟩
   · rw [if_neg k2] at h ⊢
     rw [if_neg k2]
     by_cases k3 : c.Kind = 3
     · rw [if_pos k3] at h ⊢
       rw [if_pos k3, b01_dec]
       obtain ⟨h1, h2⟩ := h
       by_cases hb : x ∈ c.B
       · rw [if_pos (decide_eq_true hb)]
         exact ⟨fun e => by omega, .inl rfl⟩
       · rw [if_neg (by simpa using hb)]
         unfold mx
         by_cases hq : q = 1
         · obtain ⟨i, u, a1, a2, a3⟩ := h1 hq
           subst hq
           have hi := (List.getElem?_eq_some_iff.1 a1).1
           refine ⟨fun _ => ⟨i, u, ?_, a2, fun y hy => ?_⟩, .inr ?_⟩
           · rw [List.getElem?_append_left hi]; exact a1
           · rw [List.drop_append_of_le_length (by omega)] at hy
             rcases List.mem_append.1 hy with hy | hy
             · exact a3 y hy
             · rw [List.mem_singleton.1 hy]; exact hb
           · by_cases hx : x ∈ c.A
             · rw [if_pos hx]; rfl
             · rw [if_neg hx]; rfl
         · have e : q = 0 := by omega
           subst e
           by_cases hx : x ∈ c.A
           · rw [if_pos hx]
             refine ⟨fun _ => ⟨l.length, x, by simp, hx, fun y hy => ?_⟩, .inr rfl⟩
             rw [List.drop_append_of_le_length (Nat.le_refl _), List.drop_length, List.nil_append] at hy
             rw [List.mem_singleton.1 hy]; exact hb
           · rw [if_neg hx]
             exact ⟨fun e => by simp at e, .inl rfl⟩
     · rw [if_neg k3] at h ⊢
       rw [if_neg k3]
       by_cases k6 : c.Kind = 6
       · rw [if_pos k6] at h ⊢
         rw [if_neg (by omega), if_neg (by omega), if_pos k6, b01_dec]
         obtain ⟨h1, h2⟩ := h
         unfold mx
         by_cases hx : x ∈ c.A
         · rw [if_pos hx]
           refine ⟨fun e => ?_, .inr ?_⟩
           · exfalso
             rcases h2 with e' | e' <;> subst e' <;> simp at e
           · rcases h2 with e' | e' <;> subst e' <;> rfl
         · rw [if_neg hx]
           refine ⟨fun e y hy => ?_, ?_⟩
           · rcases List.mem_append.1 hy with hy | hy
             · refine h1 ?_ y hy
               rcases h2 with e' | e'
               · exact e'
               · subst e'; simp at e
             · rw [List.mem_singleton.1 hy]; exact hx
           · rcases h2 with e' | e' <;> subst e'
             · exact .inl rfl
             · exact .inr rfl
       · rw [if_neg k6]
         trivial
theorem Tells.run {c : Clause} {G : List Int} : ∀ {l : List Int} {q q' : Int} {l0 : List Int}, Tells c q l0 → RunC c G q l q' → Tells c q' (l0 ++ l)
 | [], q, q', l0, h, hr => by
  have hr : q' = q := hr
  subst hr
  rw [List.append_nil]; exact h
 | x :: l, q, q', l0, h, ⟨_, hr⟩ => by
  have := Tells.run (h.snoc (x := x)) hr
  rwa [List.append_assoc] at this
theorem RunC.last {c : Clause} {G : List Int} {x : Int} : ∀ {l : List Int} {q q' : Int}, RunC c G q (l ++ [x]) q' → ∃ q0, q' = mst c q0 x
 | [], q, q', ⟨_, h⟩ => ⟨q, h⟩
 | y :: l, q, q', ⟨_, h⟩ => RunC.last h
theorem RunC.each {c : Clause} {G : List Int} : ∀ {l : List Int} {q q' : Int}, RunC c G q l q' → ∀ x ∈ l, ∃ q0, mst c q0 x ∉ G
 | [], _, _, _, x, hx => by cases hx
 | y :: l, q, q', ⟨h1, h2⟩, x, hx => by
  rcases List.mem_cons.1 hx with e | hx
  · subst e; exact ⟨q, h1⟩
  · exact RunC.each h2 x hx
theorem mst_k {c : Clause} {k : Int} (h : c.Kind = k) (q x : Int) : mst c q x = monNext k q (decide (x ∈ c.A)) (decide (x ∈ c.B)) := by unfold mst; rw [h]
theorem no_hold {c : Clause} (k1 : 1 ≤ c.Kind) (k7 : c.Kind ≤ 7) {S L : List Int} {s : Int} (hL : L ≠ []) (h1 : RunC c [] 0 S s) (hA : s ∈ (monPair c.Kind).Ask) (h2 : RunC c (monPair c.Kind).Give s L s) : NoHold c S L := by
 have hT0 : Tells c 0 [] := by
  unfold Tells
  (repeat' split) <;> simp
 have hT := hT0.run h1
 rw [List.nil_append] at hT
 have hT2 := hT.run h2
 obtain ⟨L', z, hz⟩ : ∃ L' z, L = L' ++ [z] := ⟨L.dropLast, L.getLast hL, (List.dropLast_concat_getLast hL).symm⟩
 have hlast : ∃ q0, s = mst c q0 z := by rw [hz] at h2; exact h2.last
 have hzL : z ∈ L := by rw [hz]; simp
 unfold NoHold
 unfold Tells at hT hT2
 rcases kinds k1 k7 with k | k | k | k | k | k | k
 · rw [if_pos k] at hT ⊢
   rw [k] at hA
   obtain ⟨x, x1, x2⟩ := hT.1 (by simpa [monPair] using hA)
   exact ⟨x, List.mem_append_left _ x1, x2⟩
 · rw [if_neg (by omega), if_pos k] at hT ⊢
   rw [k] at hA
   obtain ⟨i, x, y, a1, a2, a3, a4⟩ := hT.1 (by simpa [monPair] using hA)
   refine ⟨i, x, y, ?_, ?_, a3, a4⟩
   · rw [List.getElem?_append_left (List.getElem?_eq_some_iff.1 a1).1]; exact a1
   · rw [List.getElem?_append_left (List.getElem?_eq_some_iff.1 a2).1]; exact a2
 · rw [if_neg (by omega), if_neg (by omega), if_pos k] at hT ⊢
   rw [k] at hA
   have hB : ∀ x ∈ L, x ∉ c.B := fun x hx hb => by
    obtain ⟨q0, hq⟩ := h2.each x hx
    apply hq
    rw [mst_k k, k, decide_eq_true hb]
    show (0 : Int) ∈ [0]
    simp
   obtain ⟨i, x, a1, a2, a3⟩ := hT.1 (by simpa [monPair] using hA)
   have hi := (List.getElem?_eq_some_iff.1 a1).1
   refine ⟨hB, i, x, ?_, a2, fun y hy => ?_⟩
   · rw [List.getElem?_append_left hi]; exact a1
   · rw [List.drop_append_of_le_length (by omega)] at hy
     rcases List.mem_append.1 hy with hy | hy
     · exact a3 y hy
     · exact hB y hy
 · rw [if_neg (by omega), if_neg (by omega), if_neg (by omega), if_pos k]
   intro x hx ha
   obtain ⟨q0, hq⟩ := h2.each x hx
   apply hq
   rw [mst_k k, k, decide_eq_true ha]
   show (1 : Int) ∈ [1]
   simp
 · rw [if_neg (by omega), if_neg (by omega), if_neg (by omega), if_neg (by omega), if_pos k]
   rw [k] at hA
   have hs : s = 1 := by simpa [monPair] using hA
   obtain ⟨q0, hq⟩ := hlast
   refine ⟨z, hzL, fun ha => ?_⟩
   unfold mst monNext at hq
   rw [if_neg (by omega), if_neg (by omega), if_neg (by omega), if_neg (by omega), if_pos k, decide_eq_true ha] at hq
   unfold b01 at hq
   simp at hq
   omega
 · rw [if_neg (by omega), if_neg (by omega), if_neg (by omega), if_neg (by omega), if_neg (by omega), if_pos k]
   rw [if_neg (by omega), if_neg (by omega), if_neg (by omega), if_pos k] at hT2
   rw [k] at hA
   exact hT2.1 (by simpa [monPair] using hA)
 · rw [if_neg (by omega), if_neg (by omega), if_neg (by omega), if_neg (by omega), if_neg (by omega), if_neg (by omega)]
   rw [k] at hA
   have hB : ∀ x ∈ L, x ∉ c.B := fun x hx hb => by
    obtain ⟨q0, hq⟩ := h2.each x hx
    apply hq
    rw [mst_k k, k, decide_eq_true hb]
    show 2 * b01 (decide (x ∈ c.A)) + 1 ∈ ([1, 3] : List Int)
    cases decide (x ∈ c.A) <;> decide
   refine ⟨⟨z, hzL, ?_⟩, hB⟩
   obtain ⟨q0, hq⟩ := hlast
   unfold mst monNext at hq
   rw [if_neg (by omega), if_neg (by omega), if_neg (by omega), if_neg (by omega), if_neg (by omega), if_neg (by omega)] at hq
   by_cases ha : z ∈ c.A
   · exact ha
   · exfalso
     rw [decide_eq_false ha, decide_eq_false (hB z hzL)] at hq
     unfold b01 at hq
     have hs : s = 2 ∨ s = 3 := by simpa [monPair] using hA
     simp at hq
     omega
end Go.Proofs.YtcmamhmpoinmnaaGreat
set_option linter.unusedVariables false
set_option linter.unusedSimpArgs false
namespace Go.Proofs.YtcmamhmpoinmnaaGreat
open Go Go.Wk Go.Proofs
section
variable {p : Sig} {m : Machine} {D : Det} {k : Nat} {K : List Key} {w : watch} (h : WK p m D k K w) (hm : machOk p m = true) (hd : detOk p D = true) (hk : pw p.In = (k : Int)) {n : Nat} (hn : ltd p = n)
include h hm hd hk hn
omit hd in
theorem wk_step {v i x : Int} (v0 : 0 ≤ v) (v1 : v < K.length) (hE : Eg w.next v i x) : 0 ≤ i ∧ i < pw p.In ∧ (0 ≤ x ∧ x < K.length) ∧ 0 ≤ tab w.letters v i ∧ tab w.letters v i < n ∧ tab w.letters v i = tab m.Out (keyAt K v).1 i * pw p.In + i ∧ (keyAt K x).2 = tab D.Next (keyAt K v).2 (tab w.letters v i) ∧ 0 ≤ (keyAt K v).2 ∧ (keyAt K v).2 < D.Next.length := by
 have hu := keyAt_get v0 v1
 obtain ⟨i0, i1, l1, _⟩ := wk_edge h hE hu
 obtain ⟨t1, t2, t3⟩ := tab_prod h.prod v0 v1 i0 i1
 rw [hE.tab] at t1 t2 t3
 obtain ⟨_, _, hlen, n1, n2⟩ := machOk_spec hm
 have hin := h.kin _ (List.mem_of_getElem? hu)
 have pI := pw_le p.In
 have pO := pw_le p.Out
 obtain ⟨ro, o1, o2, o3, o4⟩ := tab_in n2 hin.1 (by omega) i0 (by omega)
 have hmul0 : 0 ≤ tab m.Out (keyAt K v).1 i * pw p.In := Int.mul_nonneg o3 (by omega)
 have hmul : (tab m.Out (keyAt K v).1 i + 1) * pw p.In ≤ pw p.Out * pw p.In := Int.mul_le_mul (by omega) (by omega) (by omega) (by omega)
 have hl : pw p.In * pw p.Out = (n : Int) := hn
 rw [Int.add_mul, Int.one_mul, Int.mul_comm (pw p.Out), hl] at hmul
 refine ⟨i0, by omega, ⟨t1, t2⟩, by rw [l1]; omega, by rw [l1]; omega, l1, ?_, hin.2.2.1, hin.2.2.2⟩
 rw [t3, l1]
 rfl
omit hd in
theorem wk_letters {M : List Bool} : ∀ {R : List Int} {v u : Int}, 0 ≤ v → v < K.length → Way w.next M v R u → (∀ x ∈ letP w.next w.letters v R, 0 ≤ x ∧ x < n) ∧ (letP w.next w.letters v R).map (fun x => x % pw p.In) = R ∧ ∀ i ∈ R, 0 ≤ i ∧ i < pw p.In
 | [], _, _, _, _, _ => ⟨(fun x hx => by cases hx), rfl, (fun x hx => by cases hx)⟩
 | i :: R, v, u, v0, v1, ⟨x, h1, _, h3⟩ => by
  obtain ⟨i0, i1, ⟨x0, x1⟩, l0, l1, l2, _⟩ := wk_step h hm hk hn v0 v1 h1
  have e : letP w.next w.letters v (i :: R) = tab w.letters v i :: letP w.next w.letters x R := by
   show _ :: letP w.next w.letters (tab w.next v i) R = _
   rw [h1.tab]
  obtain ⟨a1, a2, a3⟩ := wk_letters x0 x1 h3
  rw [e]
  refine ⟨fun y hy => ?_, ?_, fun y hy => ?_⟩
  · rcases List.mem_cons.1 hy with e | hy
    · subst e; exact ⟨l0, l1⟩
    · exact a1 y hy
  · rw [List.map_cons, a2, l2, Int.mul_comm, Int.mul_add_emod_self_left, Int.emod_eq_of_lt i0 i1]
  · rcases List.mem_cons.1 hy with e | hy
    · subst e; exact ⟨i0, i1⟩
    · exact a3 y hy
omit hd in
theorem wk_run {c : Clause} {i : Nat} {π : Int → Int} (s : Sm n D c i π) {M : List Bool} {G : List Int} (hG : ∀ y : Int, 0 ≤ y → y < K.length → In M y → π (keyAt K y).2 ∉ G) : ∀ {R : List Int} {v u : Int}, 0 ≤ v → v < K.length → Way w.next M v R u → RunC c G (π (keyAt K v).2) (letP w.next w.letters v R) (π (keyAt K u).2)
 | [], v, u, _, _, hw => by
  have hw : u = v := hw
  rw [hw]; exact rfl
 | j :: R, v, u, v0, v1, ⟨x, h1, h2, h3⟩ => by
  obtain ⟨i0, i1, ⟨x0, x1⟩, l0, l1, l2, l3, l4, l5⟩ := wk_step h hm hk hn v0 v1 h1
  have e : letP w.next w.letters v (j :: R) = tab w.letters v j :: letP w.next w.letters x R := by
   show _ :: letP w.next w.letters (tab w.next v j) R = _
   rw [h1.tab]
  have hst : mst c (π (keyAt K v).2) (tab w.letters v j) = π (keyAt K x).2 := by
   rw [l3, s.step _ _ l4 l5 l0 l1]
  rw [e]
  refine ⟨?_, ?_⟩
  · rw [hst]
    exact hG x x0 x1 h2
  · rw [hst]
    exact wk_run s hG x0 x1 h3
end
theorem break_no {p : Sig} {m : Machine} {cs : List Clause} {n k : Nat} {D : Det} {K : List Key} {w : watch} (h : AK p m cs n k D K w) {i : Nat} {pr : Pair} {s : Int} {R Q : List Int} (hpr : w.pairs[i]? = some pr) (hs : s ∈ pr.Ask) (hsr : 0 ≤ s ∧ s < K.length) (hR : Way w.next (mayM K.length []) 0 R s) (hQ : LeastW w.next (mayM K.length pr.Give) s s Q) :
 ∃ c, cs[i]? = some c ∧ clauseOk p c = true ∧ NoHold c (letP w.next w.letters 0 R) (letP w.next w.letters s Q) := by
 have hcc := h.hc
 unfold clausesOk at hcc
 rw [Bool.and_eq_true, List.all_eq_true] at hcc
 have hps := h.ps.1
 have hi := (List.getElem?_eq_some_iff.1 hpr).1
 have hc : cs[i]? = some (cs[i]'(by omega)) := List.getElem?_eq_getElem (by omega)
 generalize cs[i]'(by omega) = c at hc
 have hok := hcc.2 c (List.mem_of_getElem? hc)
 obtain ⟨π, sm⟩ := h.pr.sm h.ln hcc.2 i c hc
 obtain ⟨dp, d1, d2⟩ := sm.pair
 have hpe : pr = partP K dp := by
  rw [h.wk.pairs, List.getElem?_map, d1] at hpr
  exact (Option.some.inj hpr).symm
 have hkin : ∀ y : Int, 0 ≤ y → y < K.length → 0 ≤ (keyAt K y).2 ∧ (keyAt K y).2 < D.Next.length := fun y y0 y1 => (h.wk.kin _ (List.mem_of_getElem? (keyAt_get y0 y1))).2.2
 have hask : π (keyAt K s).2 ∈ (monPair c.Kind).Ask := by
  obtain ⟨a, b⟩ := hkin s hsr.1 hsr.2
  rw [← (d2 _ a b).1]
  rw [hpe] at hs
  have hs : s ∈ partN K dp.Ask K.length := hs
  rw [partN_plK _ _ _ (Nat.le_refl _)] at hs
  exact (plK_at hsr.1 hsr.2).1 hs
 have hgive : ∀ y : Int, 0 ≤ y → y < K.length → In (mayM K.length pr.Give) y → π (keyAt K y).2 ∉ (monPair c.Kind).Give := fun y y0 y1 hy hg => by
  obtain ⟨a, b⟩ := hkin y y0 y1
  rw [← (d2 _ a b).2] at hg
  have hn := (mayM_in y).1 hy
  apply hn.2
  rw [hpe]
  show y ∈ partN K dp.Give K.length
  rw [partN_plK _ _ _ (Nat.le_refl _)]
  exact (plK_at y0 y1).2 hg
 obtain ⟨k1, k7⟩ := kind_in hok
 have hK0 : keyAt K 0 = (0, 0) := by
  unfold keyAt
  rw [show (0 : Int).toNat = 0 from rfl, h.wk.prod.zero]; rfl
 have h0 : (0 : Int) < K.length := by
  have := (List.getElem?_eq_some_iff.1 h.wk.prod.zero).1
  omega
 have r1 := wk_run h.wk h.hm h.kn h.ln sm (M := mayM K.length []) (G := []) (fun y _ _ _ hy => by cases hy) (Int.le_refl _) h0 hR
 have r2 := wk_run h.wk h.hm h.kn h.ln sm hgive hsr.1 hsr.2 hQ.2.1
 rw [hK0] at r1
 have hz : π (0, 0).2 = 0 := sm.zero
 rw [hz] at r1
 refine ⟨c, hc, hok, no_hold k1 k7 (fun e => hQ.1 ?_) r1 hask r2⟩
 have := letP_len w.next w.letters Q s
 rw [e] at this
 exact List.length_eq_zero_iff.1 this.symm
end Go.Proofs.YtcmamhmpoinmnaaGreat
set_option linter.unusedVariables false
set_option linter.unusedSimpArgs false
namespace Go.Proofs.YtcmamhmpoinmnaaGreat
open Go Go.Wk Go.Proofs
def placeOf (xs : List Int) (v : Int) : Int := match xs.findIdx? (fun x => v == x) with | some i => (i : Int) | none => -1
theorem any_mem (xs : List Int) (v : Int) : xs.any (fun x => v == x) = decide (v ∈ xs) := by
 rw [Bool.eq_iff_iff, List.any_eq_true, decide_eq_true_eq]
 constructor
 · rintro ⟨x, hx, e⟩
   rw [beq_iff_eq] at e
   exact e ▸ hx
 · exact fun h => ⟨v, h, by simp⟩
end Go.Proofs.YtcmamhmpoinmnaaGreat
set_option linter.unusedVariables false
set_option linter.unusedSimpArgs false
namespace Go.Proofs.YtcmamhmpoinmnaaGreat
open Go Go.Wk Go.Proofs
def wordOk (w : Word) (n : Int) : Bool := decide ((w.Stem.length : Int) ≤ 600) && decide (1 ≤ (w.Loop.length : Int)) && decide ((w.Loop.length : Int) ≤ 600) && w.Stem.all (inR n) && w.Loop.all (inR n)
theorem wordOk_spec {w : Word} {n : Int} (h : wordOk w n = true) : w.Stem.length ≤ 600 ∧ 1 ≤ w.Loop.length ∧ w.Loop.length ≤ 600 ∧ w.Stem.all (inR n) = true ∧ w.Loop.all (inR n) = true := by
 simp only [wordOk, Bool.and_eq_true, decide_eq_true_eq] at h
 obtain ⟨⟨⟨⟨h1, h2⟩, h3⟩, h4⟩, h5⟩ := h
 exact ⟨by omega, by omega, by omega, h4, h5⟩
end Go.Proofs.YtcmamhmpoinmnaaGreat
set_option linter.unusedVariables false
set_option linter.unusedSimpArgs false
namespace Go.Proofs.YtcmamhmpoinmnaaGreat
open Go Go.Wk Go.Proofs
end Go.Proofs.YtcmamhmpoinmnaaGreat
set_option linter.unusedVariables false
set_option linter.unusedSimpArgs false
namespace Go.Proofs.YtcmamhmpoinmnaaGreat
open Go Go.Wk Go.Proofs
theorem s_l23Word_eq (w : Word) {n : Int} (h0 : -1000000000000000000 ≤ n) (h1 : n ≤ 1000000000000000000) : s_l23Word w n = some (wordOk w n) := by
 unfold s_l23Word wordOk
 simp only [orE, Option.bind_some, s_l23Below_eq _ h0 h1, andE, gt_not]
 have : decide (1 ≤ (w.Loop.length : Int)) = !((w.Loop.length : Int) == 0) := by
  by_cases h : (w.Loop.length : Int) = 0
  · simp [h]
  · have h1 : 1 ≤ (w.Loop.length : Int) := by omega
    have h2 : ((w.Loop.length : Int) == 0) = false := by rw [beq_eq_false_iff_ne]; exact h
    rw [h2, decide_eq_true h1]; rfl
 rw [this]
 generalize decide ((w.Stem.length : Int) ≤ 600) = b1
 generalize w.Stem.all (inR n) = b2
 generalize decide ((w.Loop.length : Int) ≤ 600) = b3
 generalize w.Loop.all (inR n) = b4
 generalize ((w.Loop.length : Int) == 0) = b5
 cases b1 <;> cases b2 <;> cases b3 <;> cases b4 <;> cases b5 <;> rfl
theorem s_l1Has_eq (row : List Int) (v : Int) : s_l1Has row v = some (decide (v ∈ row)) := by
 unfold s_l1Has
 rw [cnt_all0 (f := s_l1Has_b0 row v) (r := true) (fun x => !(v == x)) (xs := row) rfl (fun i y hy => by
  unfold s_l1Has_b0
  rw [idx_nat, hy, Option.bind_some, show (y == v) = (v == y) from BEq.comm]
  cases v == y <;> rfl), ← any_mem, List.any_eq_not_all_not]
 cases row.all (fun x => !(v == x)) <;> rfl
end Go.Proofs.YtcmamhmpoinmnaaGreat
