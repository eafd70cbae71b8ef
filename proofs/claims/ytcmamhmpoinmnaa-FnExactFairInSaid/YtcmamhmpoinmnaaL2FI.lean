/- Fair parts: both sides compute the same, and what it means. -/
import Derived.Test.YtcmamhmpoinmnaaL1FI
import Derived.Test.YtcmamhmpoinmnaaL0FI
set_option linter.unusedVariables false
set_option linter.unusedSimpArgs false
namespace Go.Proofs.Ytcmamhmpoinmnaa
open Go Go.Wk Go.Proofs
open Classical
def Broken (S : List Int) (p : Pair) : Prop := (∃ x ∈ S, x ∈ p.Ask) ∧ ¬ ∃ x ∈ S, x ∈ p.Give
noncomputable def leftP (pairs : List Pair) (S : List Int) : List Int := S.filter fun x => decide (¬ ∃ p ∈ pairs, Broken S p ∧ x ∈ p.Ask)
theorem leftP_all {pairs : List Pair} {S : List Int} : leftP pairs S = S ↔ ∀ p ∈ pairs, ¬ Broken S p := by
 unfold leftP
 rw [List.filter_eq_self]
 constructor
 · intro h p hp hb
   obtain ⟨x, hx, hxa⟩ := hb.1
   have := h x hx
   rw [decide_eq_true_eq] at this
   exact this ⟨p, hp, hb, hxa⟩
 · intro h x hx
   rw [decide_eq_true_eq]
   rintro ⟨p, hp, hb, _⟩
   exact h p hp hb
theorem leftP_len {pairs : List Pair} {S : List Int} (h : ¬ leftP pairs S = S) : (leftP pairs S).length < S.length := by
 have h1 : (leftP pairs S).length ≤ S.length := List.length_filter_le _ _
 by_cases e : (leftP pairs S).length = S.length
 · exact absurd (List.Sublist.eq_of_length (List.filter_sublist (l := S)) e) h
 · omega
section
variable {n : Nat} {pairs : List Pair} {S : List Int} (hn : n ≤ 256) (hp : ∀ p ∈ pairs, St n p.Ask ∧ St n p.Give) (hpl : pairs.length ≤ 4) (hS : St n S)
include hn hS
theorem i_meets_eq {ys : List Int} (hy : St n ys) : i_meets S ys = some (decide (∃ x ∈ S, x ∈ ys)) := by
 have a := hS.len
 have b := hy.len
 unfold i_meets
 rw [lessOf_eq hy.asc (by omega) (by omega), Option.bind_some]
 congr 1
 apply decide_eq_decide.2
 have hle : (S.filter fun x => !decide (x ∈ ys)).length ≤ S.length := List.length_filter_le _ _
 constructor
 · intro h
   refine Classical.byContradiction fun hno => ?_
   have : (S.filter fun x => !decide (x ∈ ys)) = S := by
    rw [List.filter_eq_self]
    intro x hx
    simp only [Bool.not_eq_true', decide_eq_false_iff_not]
    exact fun hxy => hno ⟨x, hx, hxy⟩
   rw [this] at h
   omega
 · rintro ⟨x, hx, hxy⟩
   refine Classical.byContradiction fun hno => ?_
   have : (S.filter fun x => !decide (x ∈ ys)) = S := List.Sublist.eq_of_length List.filter_sublist (by omega)
   rw [List.filter_eq_self] at this
   have := this x hx
   simp [hxy] at this
include hp hpl
theorem i_brokenBy_eq : ∃ K, i_brokenBy pairs S = some K ∧ K.length ≤ 4 ∧ ∀ k, k ∈ K ↔ ∃ p, idx pairs k = some p ∧ Broken S p := by
 obtain ⟨K, h1, h2, h3⟩ := cnt_inv (f := i_brokenBy_b0 pairs S) (fun j K => K.length ≤ j ∧ ∀ k, k ∈ K ↔ k < (j : Int) ∧ ∃ p, idx pairs k = some p ∧ Broken S p) pairs.length (s := []) ⟨Nat.le_refl _, fun k => by
  constructor
  · intro h; cases h
  · rintro ⟨h, p, e, _⟩
    have := (idx_rng e).1
    omega⟩ (fun j K hj ⟨a1, a2⟩ => by
  have hpj : pairs[j]? = some pairs[j] := by simp [hj]
  generalize pairs[j] = p at hpj
  obtain ⟨p1, p2⟩ := hp p (List.mem_of_getElem? hpj)
  have hcond : (Option.bind (bif decide (∃ x ∈ S, x ∈ p.Ask) then Option.bind (i_meets S p.Give) fun x24 => some (!x24) else some false) fun b => if b = decide (Broken S p) then some () else none) = some () := by
   by_cases h : ∃ x ∈ S, x ∈ p.Ask
   · rw [decide_eq_true h, cond_true, i_meets_eq hn hS p2, Option.bind_some, Option.bind_some, if_pos]
     rw [← decide_not]
     exact decide_eq_decide.2 ⟨fun k => ⟨h, k⟩, fun k => k.2⟩
   · rw [decide_eq_false h, cond_false, Option.bind_some, if_pos]
     exact (decide_eq_false fun k => h k.1).symm
  obtain ⟨b, hb1, hb2⟩ := Option.bind_eq_some_iff.1 hcond
  have hb : b = decide (Broken S p) := Classical.byContradiction fun hne => by rw [if_neg hne] at hb2; cases hb2
  unfold i_brokenBy_b0
  rw [idx_nat, hpj, Option.bind_some, i_meets_eq hn hS p1, Option.bind_some, hb1, Option.bind_some, hb]
  by_cases h : Broken S p
  · rw [decide_eq_true h, cond_true, app1 (by omega) rfl, Option.bind_some, Option.bind_some]
    refine ⟨_, rfl, by simp; omega, fun k => ?_⟩
    rw [List.mem_append, List.mem_singleton, a2]
    constructor
    · rintro (⟨k1, k2⟩ | e)
      · exact ⟨by omega, k2⟩
      · subst e; exact ⟨by omega, p, by rw [idx_nat]; exact hpj, h⟩
    · rintro ⟨k1, k2⟩
      by_cases e : k = (j : Int)
      · exact .inr e
      · exact .inl ⟨by omega, k2⟩
  · rw [decide_eq_false h, cond_false, Option.bind_some]
    refine ⟨_, rfl, by omega, fun k => ?_⟩
    rw [a2]
    constructor
    · rintro ⟨k1, k2⟩; exact ⟨by omega, k2⟩
    · rintro ⟨k1, q, e, hq⟩
      by_cases ek : k = (j : Int)
      · subst ek
        rw [idx_nat, hpj] at e
        cases e; exact absurd hq h
      · exact ⟨by omega, q, e, hq⟩)
 unfold i_brokenBy
 rw [h1, Option.bind_some, aft_inr]
 refine ⟨K, rfl, by omega, fun k => ?_⟩
 rw [h3]
 exact ⟨fun h => h.2, fun ⟨p, e, h⟩ => ⟨(idx_rng e).2, p, e, h⟩⟩
theorem i_left : ∃ K, i_brokenBy pairs S = some K ∧ cntM (i_fairIn_b2 pairs K) K.length 0 S = some (.inr (leftP pairs S)) := by
 obtain ⟨K, k1, k2, k3⟩ := i_brokenBy_eq hn hp hpl hS
 refine ⟨K, k1, ?_⟩
 obtain ⟨s, h1, h2⟩ := cnt_inv (f := i_fairIn_b2 pairs K) (fun j s => s = S.filter fun x => decide (¬ ∃ k ∈ K.take j, ∃ p, idx pairs k = some p ∧ x ∈ p.Ask)) K.length (s := S) (by
  symm; rw [List.filter_eq_self]; intro x _; simp) (fun j s hj hs => by
  have hk : K[j]? = some K[j] := by simp [hj]
  generalize K[j] = k at hk
  obtain ⟨p, e, hb⟩ := (k3 k).1 (List.mem_of_getElem? hk)
  have hpm : p ∈ pairs := by
   obtain ⟨k0, _⟩ := idx_rng e
   rw [idx_int k0] at e
   exact List.mem_of_getElem? e
  have a := hS.len
  have b := (hp p hpm).1.len
  have hl : s.length ≤ 100000 := by rw [hs]; exact Nat.le_trans (List.length_filter_le _ _) (by omega)
  unfold i_fairIn_b2
  rw [idx_nat, hk, Option.bind_some, e, Option.bind_some, lessOf_eq (hp p hpm).1.asc (by omega) hl, Option.bind_some]
  refine ⟨_, rfl, ?_⟩
  rw [hs, List.filter_filter]
  refine List.filter_congr fun x _ => ?_
  rw [List.take_add_one, hk, Bool.eq_iff_iff]
  simp only [Option.toList_some, Bool.and_eq_true, Bool.not_eq_true', decide_eq_false_iff_not, decide_eq_true_eq, List.mem_append, List.mem_singleton]
  constructor
  · rintro ⟨h1, h2⟩ ⟨k', h3 | h3, q, e', h4⟩
    · exact h2 ⟨k', h3, q, e', h4⟩
    · subst h3; rw [e] at e'; cases e'; exact h1 h4
  · intro h
    exact ⟨fun hx => h ⟨k, .inr rfl, p, e, hx⟩, fun ⟨k', h3, q, e', h4⟩ => h ⟨k', .inl h3, q, e', h4⟩⟩)
 rw [h1, h2, List.take_length]
 congr 2
 unfold leftP
 refine List.filter_congr fun x _ => decide_eq_decide.2 (not_congr ?_)
 constructor
 · rintro ⟨k, hk, p, e, hx⟩
   obtain ⟨q, e', hb⟩ := (k3 k).1 hk
   rw [e] at e'; cases e'
   obtain ⟨k0, _⟩ := idx_rng e
   rw [idx_int k0] at e
   exact ⟨p, List.mem_of_getElem? e, hb, hx⟩
 · rintro ⟨p, hpm, hb, hx⟩
   obtain ⟨i, hi⟩ := List.getElem?_of_mem hpm
   exact ⟨(i : Int), (k3 _).2 ⟨p, by rw [idx_nat]; exact hi, hb⟩, p, by rw [idx_nat]; exact hi, hx⟩
omit hpl in
theorem s_vain : ∃ R, s_l33Vain pairs S = some R ∧ St n R ∧ ∀ z, z ∈ R ↔ ∃ p ∈ pairs, Broken S p ∧ z ∈ S ∧ z ∈ p.Ask := by
 obtain ⟨R, h1, h2, h3⟩ := cnt_inv (f := s_l33Vain_b0 pairs S) (fun j R => St n R ∧ ∀ z, z ∈ R ↔ ∃ p ∈ pairs.take j, Broken S p ∧ z ∈ S ∧ z ∈ p.Ask) pairs.length (s := []) ⟨⟨List.Pairwise.nil, fun x h => by cases h⟩, fun z => by simp⟩ (fun j R hj ⟨a1, a2⟩ => by
  have hpj : pairs[j]? = some pairs[j] := by simp [hj]
  generalize pairs[j] = p at hpj
  obtain ⟨p1, p2⟩ := hp p (List.mem_of_getElem? hpj)
  have hA : ∀ q : List Int, decide ((0 : Int) < ((S.filter fun x => decide (x ∈ q)).length : Int)) = decide (∃ x ∈ S, x ∈ q) := fun q => decide_eq_decide.2 (by
   constructor
   · intro h
     obtain ⟨x, hx⟩ := List.exists_mem_of_length_pos (l := S.filter fun x => decide (x ∈ q)) (by omega)
     obtain ⟨h1, h2⟩ := List.mem_filter.1 hx
     exact ⟨x, h1, by simpa using h2⟩
   · rintro ⟨x, h1, h2⟩
     have := List.length_pos_of_mem (List.mem_filter.2 ⟨h1, decide_eq_true h2⟩ : x ∈ S.filter fun x => decide (x ∈ q))
     omega)
  have hcond : (Option.bind (bif decide ((0 : Int) < ((S.filter fun x => decide (x ∈ p.Ask)).length : Int)) then Option.bind (idx pairs (j : Int)) fun x29 => Option.bind (s_MeetOf S x29.Give) fun x32 => some ((x32.length : Int) == 0) else some false) fun b => if b = decide (Broken S p) then some () else none) = some () := by
   rw [hA]
   by_cases h : ∃ x ∈ S, x ∈ p.Ask
   · rw [decide_eq_true h, cond_true, idx_nat, hpj, Option.bind_some, s_MeetOf_eq hn hS p2, Option.bind_some, Option.bind_some, if_pos]
     have h0 := hA p.Give
     by_cases hg : ∃ x ∈ S, x ∈ p.Give
     · rw [decide_eq_true hg, decide_eq_true_eq] at h0
       rw [decide_eq_false (fun k : Broken S p => k.2 hg), beq_eq_false_iff_ne]
       omega
     · rw [decide_eq_false hg, decide_eq_false_iff_not] at h0
       rw [decide_eq_true (show Broken S p from ⟨h, hg⟩), beq_iff_eq]
       omega
   · rw [decide_eq_false h, cond_false, Option.bind_some, if_pos]
     exact (decide_eq_false fun k => h k.1).symm
  obtain ⟨b, hb1, hb2⟩ := Option.bind_eq_some_iff.1 hcond
  have hb : b = decide (Broken S p) := Classical.byContradiction fun hne => by rw [if_neg hne] at hb2; cases hb2
  unfold s_l33Vain_b0
  rw [idx_nat, hpj, Option.bind_some, s_MeetOf_eq hn hS p1, Option.bind_some]
  rw [idx_nat, hpj] at hb1
  rw [hb1, Option.bind_some, hb, List.take_add_one, hpj]
  by_cases h : Broken S p
  · obtain ⟨R', r1, r2, r3⟩ := s_BothOf_eq hn a1 (hS.filter fun x => decide (x ∈ p.Ask))
    rw [decide_eq_true h, cond_true, r1, Option.bind_some, Option.bind_some]
    refine ⟨_, rfl, r2, fun z => ?_⟩
    rw [r3, a2, List.mem_filter, decide_eq_true_eq]
    simp only [Option.toList_some, List.mem_append, List.mem_singleton]
    constructor
    · rintro (⟨q, h1, h2⟩ | h1)
      · exact ⟨q, .inl h1, h2⟩
      · exact ⟨p, .inr rfl, h, h1⟩
    · rintro ⟨q, h1 | h1, h2, h3⟩
      · exact .inl ⟨q, h1, h2, h3⟩
      · subst h1; exact .inr h3
  · rw [decide_eq_false h, cond_false, Option.bind_some]
    refine ⟨_, rfl, a1, fun z => ?_⟩
    rw [a2]
    simp only [Option.toList_some, List.mem_append, List.mem_singleton]
    constructor
    · rintro ⟨q, h1, h2⟩; exact ⟨q, .inl h1, h2⟩
    · rintro ⟨q, h1 | h1, h2, h3⟩
      · exact ⟨q, h1, h2, h3⟩
      · subst h1; exact absurd h2 h)
 rw [List.take_length] at h3
 unfold s_l33Vain
 rw [h1, Option.bind_some, aft_inr]
 exact ⟨R, rfl, h2, h3⟩
end
noncomputable def scP (N : List (List Int)) (C : Int → Prop) (v : Int) : List Int := if C v then (rowI' N v).filter (fun u => decide (C u)) else []
theorem mem_scP {N : List (List Int)} {C : Int → Prop} {v u : Int} : u ∈ scP N C v ↔ C v ∧ C u ∧ u ∈ rowI' N v := by
 unfold scP
 by_cases h : C v
 · rw [if_pos h, List.mem_filter, decide_eq_true_eq]; simp [h, and_comm]
 · rw [if_neg h]; simp [h]
theorem scN_scP (N : List (List Int)) (M : List Bool) : scN N M = scP N (In M) := funext fun v => by
 by_cases h : In M v
 · unfold scN scP rowI'
   rw [if_pos h, if_pos h]
   exact List.filter_congr fun u _ => decide_eq_decide.2 Iff.rfl
 · unfold scN scP
   rw [if_neg h, if_neg h]
theorem Wy.sub {N : List (List Int)} {C D : Int → Prop} (h : ∀ x, C x → D x) {v u : Int} (w : Wy (scP N C) noV v u) : Wy (scP N D) noV v u := by
 induction w with
 | one k => exact .one k
 | cons k e _ ih =>
  obtain ⟨a, b, c⟩ := mem_scP.1 e
  exact .cons k (mem_scP.2 ⟨h _ a, h _ b, c⟩) ih
structure FairC (N : List (List Int)) (pairs : List Pair) (C : List Int) : Prop where
 ne : C ≠ []
 con : ∀ x ∈ C, ∀ y ∈ C, Far2 (scP N (fun z => z ∈ C)) x y
 ok : ∀ p ∈ pairs, ¬ Broken C p
def FairP (N : List (List Int)) (pairs : List Pair) (S : List Int) : Prop := ∃ C, (∀ x ∈ C, x ∈ S) ∧ FairC N pairs C
theorem part_con {N : List (List Int)} {M : List Bool} {v : Int} (hf : Far (scN N M) v) : ∀ x ∈ partG N M v, ∀ y ∈ partG N M v, Far2 (scP N (fun z => z ∈ partG N M v)) x y := by
 have key : ∀ {a b : Int}, Wy (scN N M) noV a b → Akin (scN N M) v a → Wy (scN N M) noV b v → Wy (scP N (fun z => z ∈ partG N M v)) noV a b := fun {a b} w => by
  induction w with
  | one _ => exact fun _ _ => .one id
  | @cons a c b h e w ih =>
   intro ha hb
   have hc : Akin (scN N M) v c := ⟨ha.1.snoc e id, w.trans hb⟩
   have hm := mem_scN.1 e
   refine .cons id (mem_scP.2 ⟨mem_partG.2 ⟨hm.1, ha⟩, mem_partG.2 ⟨hm.2.1, hc⟩, ?_⟩) (ih hc hb)
   obtain ⟨_, _, r, hr, hu⟩ := hm
   unfold rowI'; rw [hr]; exact hu
 intro x hx y hy
 have ax := (mem_partG.1 hx).2
 have ay := (mem_partG.1 hy).2
 have : Far2 (scN N M) x y := by
  by_cases e : x = y
  · subst e
    exact hf.akin ax
  · exact (ax.symm.trans ay).1.far e
 obtain ⟨z, hz, w⟩ := this
 have hm := mem_scN.1 hz
 have hzA : Akin (scN N M) v z := ⟨ax.1.snoc hz id, w.trans ay.2⟩
 refine ⟨z, mem_scP.2 ⟨hx, mem_partG.2 ⟨hm.2.1, hzA⟩, ?_⟩, key w hzA ay.2⟩
 obtain ⟨_, _, r, hr, hu⟩ := hm
 unfold rowI'; rw [hr]; exact hu
theorem mem_loops {N : List (List Int)} {M : List Bool} {S : List Int} (h : S ∈ loopsN N M) : ∃ v, In M v ∧ Lead (scN N M) v ∧ S = partG N M v := by
 unfold loopsN at h
 obtain ⟨v, h1, h2⟩ := List.mem_map.1 h
 obtain ⟨h3, h4⟩ := List.mem_filter.1 h1
 exact ⟨v, mem_marksL.1 h3, of_decide_eq_true h4, h2.symm⟩
theorem loops_mem {N : List (List Int)} {M : List Bool} {v : Int} (hf : Far (scN N M) v) : partG N M v ∈ loopsN N M := by
 obtain ⟨t, h1, h2, h3⟩ := partG_hd hf
 unfold loopsN
 refine List.mem_map.2 ⟨hdI (partG N M v), List.mem_filter.2 ⟨mem_marksL.2 (far_in h3.1), decide_eq_true h3⟩, (partG_eq h2).symm⟩
theorem left_fair {N : List (List Int)} {pairs : List Pair} {S C : List Int} (hC : FairC N pairs C) (hs : ∀ x ∈ C, x ∈ S) : ∀ x ∈ C, x ∈ leftP pairs S := fun x hx => by
 unfold leftP
 refine List.mem_filter.2 ⟨hs x hx, decide_eq_true ?_⟩
 rintro ⟨p, hp, hb, hxa⟩
 exact hC.ok p hp ⟨⟨x, hx, hxa⟩, fun ⟨y, hy, hyg⟩ => hb.2 ⟨y, hs y hy, hyg⟩⟩
section
variable {N : List (List Int)} {n : Nat} {pairs : List Pair} (hN : N.length = n) (hn : n ≤ 256) (hr : ∀ v r, idx N v = some r → r.length ≤ 10000 ∧ ∀ u ∈ r, 0 ≤ u ∧ u < n) (hp : ∀ p ∈ pairs, St n p.Ask ∧ St n p.Give) (hpl : pairs.length ≤ 4)
include hN hn hr hp hpl
theorem fair_same : ∀ (k : Nat) (S : List Int), S.length ≤ k → St n S → ∀ m m', k < m → k < m' → ∃ b, s_l33Fair m N pairs S = some b ∧ i_fairIn m' N pairs S = some b ∧ (b = true ↔ FairP N pairs S) := by
 intro k
 induction k with
 | zero =>
  intro S hl hS m m' hm hm'
  exact fair_step hN hn hr hp hpl 0 (fun S' hl' => absurd hl' (by omega)) S hl hS m m' hm hm'
 | succ k ih =>
  intro S hl hS m m' hm hm'
  exact fair_step hN hn hr hp hpl (k + 1) (fun S' hl' hS' m m' h h' => ih S' (by omega) hS' m m' (by omega) (by omega)) S hl hS m m' hm hm'
where fair_step (hN : N.length = n) (hn : n ≤ 256) (hr : ∀ v r, idx N v = some r → r.length ≤ 10000 ∧ ∀ u ∈ r, 0 ≤ u ∧ u < n) (hp : ∀ p ∈ pairs, St n p.Ask ∧ St n p.Give) (hpl : pairs.length ≤ 4) (k : Nat) (ih : ∀ (S : List Int), S.length < k → St n S → ∀ m m', k ≤ m → k ≤ m' → ∃ b, s_l33Fair m N pairs S = some b ∧ i_fairIn m' N pairs S = some b ∧ (b = true ↔ FairP N pairs S)) : ∀ (S : List Int), S.length ≤ k → St n S → ∀ m m', k < m → k < m' → ∃ b, s_l33Fair m N pairs S = some b ∧ i_fairIn m' N pairs S = some b ∧ (b = true ↔ FairP N pairs S)
 | S, hl, hS, 0, _, h, _ => absurd h (Nat.not_lt_zero _)
 | S, hl, hS, _ + 1, 0, _, h => absurd h (Nat.not_lt_zero _)
 | S, hl, hS, m + 1, m' + 1, hm, hm' => by
  obtain ⟨M, m1, m2, m3⟩ := s_marks hn hS.rng
  have g : Gr N M n := ⟨hN, m2, hn, hr⟩
  have hset : S = marksL M M.length := asc_eq hS.asc (marksL_asc _ _) fun z => by rw [mem_marksL, m3]
  obtain ⟨M', e1, e2⟩ := mark_loop (f := i_markAll_b0 S) (set := S) (n := n) (d := List.replicate n false) (by simp) hS.rng (fun i x s hx _ => by
   unfold i_markAll_b0
   rw [idx_nat, hx, Option.bind_some])
  have hMM : M' = M := List.ext_getElem? fun i => by
   by_cases hi : i < n
   · rw [← idx_nat, ← idx_nat, In_get (B := M') (by omega) (by rw [e2.1]; omega), In_get (B := M) (by omega) (by omega)]
     congr 1
     exact decide_eq_decide.2 (by rw [e2.2, m3]; simp [noIn])
   · rw [List.getElem?_eq_none (by rw [e2.1]; omega), List.getElem?_eq_none (by omega)]
  subst hMM
  have hLs := s_loops g hset m1
  have hLi := i_loops g
  have hpart : ∀ T ∈ loopsN N M', St n T ∧ T.length ≤ S.length ∧ T ≠ [] ∧ (∀ x ∈ T, x ∈ S) ∧ ∀ x ∈ T, ∀ y ∈ T, Far2 (scP N (fun z => z ∈ T)) x y := fun T hT => by
   obtain ⟨v, h1, h2, h3⟩ := mem_loops hT
   subst h3
   have hsub : ∀ x ∈ partG N M' v, x ∈ S := fun x hx => (m3 x).1 (mem_partG.1 hx).1
   refine ⟨⟨partG_asc v, fun x hx => hS.rng x (hsub x hx)⟩, nodup_sub (asc_nodup (partG_asc v)) hsub, fun e => ?_, hsub, part_con h2.1⟩
   have : v ∈ partG N M' v := mem_partG.2 ⟨h1, Akin.refl v⟩
   rw [e] at this; cases this
  have hbody : ∀ (i : Nat) T, (loopsN N M')[i]? = some T → ∃ b, s_l33Fair_b0 (s_l33Fair m) N pairs (loopsN N M') (i : Int) () = some (if b = true then .inl true else .inr (.inr ())) ∧ i_fairIn_b0 (i_fairIn m') N pairs (loopsN N M') (i : Int) () = some (if b = true then .inl true else .inr (.inr ())) ∧ (b = true ↔ FairP N pairs T) := fun i T hT => by
   obtain ⟨t1, t2, t3, t4, t5⟩ := hpart T (List.mem_of_getElem? hT)
   obtain ⟨R, r1, r2, r3⟩ := s_vain hn hp t1
   obtain ⟨K, k1, k2⟩ := i_left hn hp hpl t1
   have hleft : (T.filter fun x => !decide (x ∈ R)) = leftP pairs T := by
    unfold leftP
    refine List.filter_congr fun x hx => ?_
    rw [← decide_not]
    refine decide_eq_decide.2 (not_congr ?_)
    rw [r3]
    exact ⟨fun ⟨p, a, b, _, c⟩ => ⟨p, a, b, c⟩, fun ⟨p, a, b, c⟩ => ⟨p, a, b, hx, c⟩⟩
   have hR : ((R.length : Int) == 0) = decide (leftP pairs T = T) := by
    rw [Bool.eq_iff_iff, beq_iff_eq, decide_eq_true_eq, ← hleft, List.filter_eq_self]
    constructor
    · intro h x hx
      have : R = [] := List.length_eq_zero_iff.1 (by omega)
      simp [this]
    · intro h
      have : R = [] := List.eq_nil_iff_forall_not_mem.2 fun z hz => by
       obtain ⟨_, _, _, hzT, _⟩ := (r3 z).1 hz
       have := h z hzT
       simp [hz] at this
      rw [this]; rfl
   have hI : (((leftP pairs T).length : Int) == (T.length : Int)) = decide (leftP pairs T = T) := by
    rw [Bool.eq_iff_iff, beq_iff_eq, decide_eq_true_eq]
    constructor
    · intro h
      exact Classical.byContradiction fun hne => by have := leftP_len hne; omega
    · intro h; rw [h]
   by_cases hall : leftP pairs T = T
   · refine ⟨true, ?_, ?_, ?_⟩
     · unfold s_l33Fair_b0
       rw [idx_nat, hT, Option.bind_some, r1, Option.bind_some, hR, decide_eq_true hall]
       rfl
     · unfold i_fairIn_b0
       rw [idx_nat, hT, Option.bind_some, k1, Option.bind_some, k2, Option.bind_some, aft_inr, hI, decide_eq_true hall]
       rfl
     · exact ⟨fun _ => ⟨T, fun x h => h, t3, t5, leftP_all.1 hall⟩, fun _ => rfl⟩
   · have hlt := leftP_len hall
     have hst : St n (leftP pairs T) := t1.filter _
     obtain ⟨b, b1, b2, b3⟩ := ih (leftP pairs T) (by omega) hst m m' (by omega) (by omega)
     refine ⟨b, ?_, ?_, ?_⟩
     · unfold s_l33Fair_b0
       rw [idx_nat, hT, Option.bind_some, r1, Option.bind_some, hR, decide_eq_false hall, cond_false, Option.bind_some, s_LessOf_eq hn t1 r2, Option.bind_some, hleft, b1, Option.bind_some, Option.bind_some]
       cases b <;> rfl
     · unfold i_fairIn_b0
       rw [idx_nat, hT, Option.bind_some, k1, Option.bind_some, k2, Option.bind_some, aft_inr, hI, decide_eq_false hall, cond_false, b2, Option.bind_some, Option.bind_some]
       cases b <;> rfl
     · rw [b3]
       constructor
       · rintro ⟨C, h1, h2⟩
         exact ⟨C, fun x hx => (List.mem_filter.1 (h1 x hx)).1, h2⟩
       · rintro ⟨C, h1, h2⟩
         exact ⟨C, left_fair h2 h1, h2⟩
  have hloop : ∀ (us : List (List Int)) (j : Nat), (∀ (i : Nat) T, us[i]? = some T → (loopsN N M')[j + i]? = some T) → ∃ b, cntM (s_l33Fair_b0 (s_l33Fair m) N pairs (loopsN N M')) us.length (j : Int) () = some (if b = true then .inl true else .inr ()) ∧ cntM (i_fairIn_b0 (i_fairIn m') N pairs (loopsN N M')) us.length (j : Int) () = some (if b = true then .inl true else .inr ()) ∧ (b = true ↔ ∃ T ∈ us, FairP N pairs T) := fun us => by
   induction us with
   | nil => exact fun j _ => ⟨false, rfl, rfl, by simp⟩
   | cons T us ihu =>
    intro j h
    obtain ⟨b, b1, b2, b3⟩ := hbody j T (h 0 T rfl)
    cases b with
    | true =>
     refine ⟨true, ?_, ?_, ⟨fun _ => ⟨T, by simp, b3.1 rfl⟩, fun _ => rfl⟩⟩
     · show Option.bind (s_l33Fair_b0 (s_l33Fair m) N pairs (loopsN N M') (j : Int) ()) _ = _
       rw [b1]; rfl
     · show Option.bind (i_fairIn_b0 (i_fairIn m') N pairs (loopsN N M') (j : Int) ()) _ = _
       rw [b2]; rfl
    | false =>
     obtain ⟨c, c1, c2, c3⟩ := ihu (j + 1) (fun i T' hT' => by
      have := h (i + 1) T' (by simpa using hT')
      rw [show j + (i + 1) = (j + 1) + i from by omega] at this
      exact this)
     refine ⟨c, ?_, ?_, ?_⟩
     · show Option.bind (s_l33Fair_b0 (s_l33Fair m) N pairs (loopsN N M') (j : Int) ()) _ = _
       rw [b1]; exact c1
     · show Option.bind (i_fairIn_b0 (i_fairIn m') N pairs (loopsN N M') (j : Int) ()) _ = _
       rw [b2]; exact c2
     · rw [c3]
       constructor
       · rintro ⟨T', h1, h2⟩; exact ⟨T', List.mem_cons_of_mem _ h1, h2⟩
       · rintro ⟨T', h1, h2⟩
         rcases List.mem_cons.1 h1 with e | h1
         · subst e; have := b3.2 h2; cases this
         · exact ⟨T', h1, h2⟩
  obtain ⟨b, b1, b2, b3⟩ := hloop (loopsN N M') 0 (fun i T h => by rw [Nat.zero_add]; exact h)
  refine ⟨b, ?_, ?_, ?_⟩
  · show s_l33Fair_s (s_l33Fair m) N pairs S = _
    unfold s_l33Fair_s
    have b1' : cntM (s_l33Fair_b0 (s_l33Fair m) N pairs (loopsN N M')) (loopsN N M').length 0 () = _ := b1
    rw [hLs, Option.bind_some, b1', Option.bind_some]
    cases b <;> rfl
  · show i_fairIn_s (i_fairIn m') N pairs S = _
    unfold i_fairIn_s i_markAll
    have b2' : cntM (i_fairIn_b0 (i_fairIn m') N pairs (loopsN N M')) (loopsN N M').length 0 () = _ := b2
    rw [hN, mkS_nat (by omega) rfl, Option.bind_some, e1, Option.bind_some, aft_inr, Option.bind_some, hLi, Option.bind_some, b2', Option.bind_some]
    cases b <;> rfl
  · rw [b3]
    constructor
    · rintro ⟨T, hT, C, h1, h2⟩
      exact ⟨C, fun x hx => (hpart T hT).2.2.2.1 x (h1 x hx), h2⟩
    · rintro ⟨C, h1, h2⟩
      obtain ⟨c, hc⟩ := List.exists_mem_of_ne_nil _ h2.ne
      have hCM : ∀ x, x ∈ C → In M' x := fun x hx => (m3 x).2 (h1 x hx)
      have hfar : ∀ x ∈ C, ∀ y ∈ C, Far2 (scN N M') x y := fun x hx y hy => by
       obtain ⟨z, hz, w⟩ := h2.con x hx y hy
       obtain ⟨a1, a2, a3⟩ := mem_scP.1 hz
       rw [scN_scP]
       exact ⟨z, mem_scP.2 ⟨hCM _ a1, hCM _ a2, a3⟩, w.sub hCM⟩
      have hf : Far (scN N M') c := hfar c hc c hc
      exact ⟨partG N M' c, loops_mem hf, C, fun x hx => mem_partG.2 ⟨hCM x hx, (hfar c hc x hx).wy, (hfar x hx c hc).wy⟩, h2⟩
end
end Go.Proofs.Ytcmamhmpoinmnaa
set_option linter.unusedVariables false
set_option linter.unusedSimpArgs false
namespace Go.Proofs.Ytcmamhmpoinmnaa
open Go Go.Wk Go.Proofs
open Classical
theorem FairIn_same {N : List (List Int)} {pairs : List Pair} {S : List Int} (hNb : ∀ r ∈ N, r.length ≤ 1000000000) (hpb : ∀ x ∈ pairs, x.Ask.length ≤ 1000000000 ∧ x.Give.length ≤ 1000000000) (hSb : S.length ≤ 1000000000) :
 ∃ b, s_FairIn N pairs S = some b ∧ i_FairIn N pairs S = some b ∧ (b = true ↔ (N.length ≤ 256 ∧ pairsOk pairs N.length = true ∧ setOk N.length S = true ∧ (∀ r ∈ N, setOk N.length r = true)) ∧ FairP N pairs S) := by
 have h0 : (0 : Int) ≤ (N.length : Int) := by omega
 by_cases h1 : N.length ≤ 256
 · have hd : decide ((256 : Int) < (N.length : Int)) = false := decide_eq_false (by omega)
   have a1 : s_PairsOk pairs (N.length : Int) = some (pairsOk pairs N.length) := s_PairsOk_eqD h0 (by omega) hpb
   have a2 : i_arePairs pairs (N.length : Int) = some (pairsOk pairs N.length) := i_arePairs_eqD hpb
   have a3 : s_l1Set S (N.length : Int) = some (setOk N.length S) := s_l1Set_eq h0 (by omega) hSb
   have a4 : i_isSet S (N.length : Int) = some (setOk N.length S) := i_isSet_eq hSb
   unfold s_FairIn i_FairIn
   simp only [hd, cond_false, a1, a2, Option.bind_some]
   cases hp : pairsOk pairs N.length with
   | false => exact ⟨false, rfl, rfl, by simp⟩
   | true =>
    simp only [Bool.not_true, cond_false, a3, a4, Option.bind_some]
    cases hs : setOk (N.length : Int) S with
    | false => exact ⟨false, rfl, rfl, by simp⟩
    | true =>
     simp only [Bool.not_true, cond_false]
     rw [cnt_all0 (f := s_FairIn_b0 N) (r := false) (fun r => setOk (N.length : Int) r) (xs := N) rfl (fun i r hr => by
      have hm := hNb r (List.mem_of_getElem? hr)
      unfold s_FairIn_b0
      rw [idx_nat, hr, Option.bind_some, s_l1Set_eq h0 (by omega) hm, Option.bind_some]
      cases setOk (N.length : Int) r <;> rfl), cnt_all0 (f := i_FairIn_b0 N) (r := false) (fun r => setOk (N.length : Int) r) (xs := N) rfl (fun i r hr => by
      have hm := hNb r (List.mem_of_getElem? hr)
      unfold i_FairIn_b0
      rw [idx_nat, hr, Option.bind_some, i_isSet_eq hm, Option.bind_some]
      cases setOk (N.length : Int) r <;> rfl)]
     cases hall : N.all (fun r => setOk (N.length : Int) r) with
     | false =>
      refine ⟨false, rfl, rfl, ?_⟩
      rw [List.all_eq_false] at hall
      obtain ⟨r, hr, hn⟩ := hall
      constructor
      · intro h; cases h
      · rintro ⟨⟨_, _, _, h⟩, _⟩
        exact absurd (h r hr) hn
     | true =>
      rw [List.all_eq_true] at hall
      unfold pairsOk at hp
      rw [Bool.and_eq_true, decide_eq_true_eq, List.all_eq_true] at hp
      have hpp : ∀ p ∈ pairs, St N.length p.Ask ∧ St N.length p.Give := fun p hpm => by
       have := hp.2 p hpm
       unfold pairOk at this
       rw [Bool.and_eq_true] at this
       exact ⟨St.of this.1, St.of this.2⟩
      have hrow : ∀ v r, idx N v = some r → r.length ≤ 10000 ∧ ∀ u ∈ r, 0 ≤ u ∧ u < N.length := fun v r e => by
       obtain ⟨v0, _⟩ := idx_rng e
       rw [idx_int v0] at e
       have h := St.of (hall r (List.mem_of_getElem? e))
       have := h.len
       exact ⟨by omega, h.rng⟩
      have hS := St.of hs
      have := hS.len
      obtain ⟨b, b1, b2, b3⟩ := fair_same rfl h1 hrow hpp (by omega) S.length S (Nat.le_refl _) hS (2 ^ 64) (2 ^ 64) (by omega) (by omega)
      simp only [if_true, Option.bind_some, aft_inr, b1, b2]
      refine ⟨b, rfl, rfl, ?_⟩
      rw [b3]
      exact ⟨fun h => ⟨⟨h1, by simp, by simp, hall⟩, h⟩, fun h => h.2⟩
 · have hd : decide ((256 : Int) < (N.length : Int)) = true := decide_eq_true (by omega)
   unfold s_FairIn i_FairIn
   rw [hd]
   exact ⟨false, rfl, rfl, by simp; omega⟩
end Go.Proofs.Ytcmamhmpoinmnaa
set_option linter.unusedVariables false
set_option linter.unusedSimpArgs false
namespace Go.Proofs.Ytcmamhmpoinmnaa
open Go Go.Wk Go.Proofs
theorem FnExactFairIn_law {p0 : List (List Int)} (ok0 : (okS (okS I64)) p0) {p1 : List Pair} (ok1 : (okS Pair.ok) p1) {p2 : List Int} (ok2 : (okS I64) p2) : l_FnExactFairIn p0 p1 p2 = some true :=
 FnExactFairIn_of ok0 ok1 ok2 fun h0 h1 h2 => by
  obtain ⟨b, b1, b2, _⟩ := FairIn_same (N := p0) (pairs := p1) (S := p2) (fun r hr => by have := (h0.2 r hr).1; omega) (fun x hx => by
   have := h1.2 x hx
   unfold Pair.bd at this
   exact ⟨by have := this.1.1; omega, by have := this.2.1; omega⟩) (by have := h2.1; omega)
  exact ⟨b, b1, b2⟩
end Go.Proofs.Ytcmamhmpoinmnaa
