/- Sorting an own slice of words that are only read: the kit's contract of slices.SortFunc in this frame. -/
import Derived.Test.YtcmamhmpoinmnaaFbMC
import Derived.Test.YtcmamhmpoinmnaaCmpMC
import Derived.Shelf.SlSortCmp.Whole1
set_option linter.unusedVariables false
set_option linter.unusedSimpArgs false
namespace Go.Wk
open Go
open Go.Proofs Go.Sort in
theorem swoI {α : Type} (f : α → List Int) : SWO (ltOf fun x y => lexI (f x) (f y)) where
 irrefl x := by
  have := (lexI_zero (xs := f x)).2 rfl
  show decide (lexI (f x) (f x) < 0) = false
  rw [this]; rfl
 trans x y z h1 h2 := by
  unfold ltOf at *
  simp only [decide_eq_true_eq] at *
  exact lexI_trans h1 h2
 ntrans x y z h1 h2 := by
  unfold ltOf at *
  simp only [decide_eq_false_iff_not] at *
  have a := leI_trans (f z) (f y) (f x) (by unfold leI; have := lexI_neg (f y) (f z); simp only [decide_eq_true_eq]; omega) (by unfold leI; have := lexI_neg (f x) (f y); simp only [decide_eq_true_eq]; omega)
  unfold leI at a
  have := lexI_neg (f x) (f z)
  simp only [decide_eq_true_eq] at a
  omega
variable {κ : Col} {w : World} {F : Nat → Prop}
structure Wd (w : World) (F : Nat → Prop) where
 b : Nat
 o : Nat
 c : Nat
 xs : List Int
 sl : Sl (Rp.int .i64) F w (some ⟨b, o, none⟩) c xs
 ne : xs ≠ []
def Wd.enc (t : Wd w F) : Value := .slice (some ⟨t.b, t.o, none⟩) t.xs.length t.c
theorem Wd.hb (t : Wd w F) : F t.b := by
 obtain ⟨h1, h2, h3⟩ := t.sl
 rcases h3 with ⟨e, _⟩ | ⟨b, o, e, hb, _⟩
 · exact absurd e t.ne
 · cases e; exact hb
theorem Wd.hc (t : Wd w F) (j : Nat) (hj : j < t.xs.length) : w.cell? ⟨t.b, t.o + j, none⟩ = some (.int .i64 t.xs[j]!) := by
 obtain ⟨h1, h2, h3⟩ := t.sl
 rcases h3 with ⟨e, _⟩ | ⟨b, o, e, hb, hcs⟩
 · exact absurd e t.ne
 · cases e
   obtain ⟨cs, k1, k2⟩ := hcs j t.xs[j]! (by rw [getElem!_pos t.xs j hj]; exact List.getElem?_eq_getElem hj)
   have k2 : cs = [.int .i64 t.xs[j]!] := k2
   have := k1 0 (.int .i64 t.xs[j]!) (by rw [k2]; rfl)
   rwa [show t.o + j * (Rp.int .i64).size + 0 = t.o + j from by show t.o + j * 1 + 0 = _; omega] at this
theorem Wd.hl (t : Wd w F) : t.xs.length ≤ 9223372036854775807 := by
 have h1 := t.sl.1
 have h2 := t.sl.2.1
 unfold maxLen at h2
 omega
theorem lst_words {T : TypeId} : ∀ {xs : List (List Int)} {S : Nat → Prop} {cells : List Value}, (∀ l ∈ xs, l ≠ []) → LstO (Ep.fz (Rp.sl (Rp.int .i64))) F w S cells xs → ∃ hs : List (Wd w F), cells = hs.map Wd.enc ∧ hs.map Wd.xs = xs
 | [], _, _, _, h => ⟨[], h, rfl⟩
 | x :: r, S, cells, hne, ⟨c1, c2, S1, S2, e, _, _, ⟨a, c, e1, hs⟩, h2⟩ => by
  obtain ⟨hs2, q1, q2⟩ := lst_words (T := T) (fun l hl => hne l (List.mem_cons_of_mem _ hl)) h2
  have hx := hne x (List.mem_cons_self ..)
  have hs0 := hs
  obtain ⟨g1, g2, g3⟩ := hs
  rcases g3 with ⟨e', _⟩ | ⟨b, o, ea, hb, hcs⟩
  · exact absurd e' hx
  · subst ea
    refine ⟨⟨b, o, c, x, hs0, hx⟩ :: hs2, ?_, by rw [List.map_cons, q2]⟩
    rw [e, e1, q1]; rfl
theorem words_lst {w' : World} {F' : Nat → Prop} (hF : ∀ b, F b → F' b ∧ w'.heap[b]? = w.heap[b]?) {S : Nat → Prop} : ∀ hs : List (Wd w F), LstO (Ep.fz (Rp.sl (Rp.int .i64))) F' w' S (hs.map Wd.enc) (hs.map Wd.xs)
 | [] => rfl
 | t :: r => ⟨[t.enc], r.map Wd.enc, fun _ => False, S, rfl, fun _ h => h.elim, fun _ h => h, ⟨_, t.c, rfl, t.sl.st hF⟩, words_lst hF r⟩
theorem toList_of {α : Type} [Inhabited α] (d : Array α) (i : Nat) (h : i < d.size) : d.toList[i]? = some d[i]! := by
 rw [Array.getElem?_toList, getElem!_pos d i h]; exact Array.getElem?_eq_getElem h
open Go.Proofs Go.Sort in
theorem sortf_ok {P : Program} {f g : FuncId} {T : TypeId}
 (hcmp : ∀ (b1 o1 n c b2 o2 m d : Nat) (xs ys : List Int) (w : World), xs.length = n → ys.length = m → n ≤ 9223372036854775807 → m ≤ 9223372036854775807 → (∀ j, j < n → w.cell? ⟨b1, o1 + j, none⟩ = some (.int .i64 xs[j]!)) → (∀ j, j < m → w.cell? ⟨b2, o2 + j, none⟩ = some (.int .i64 ys[j]!)) → Calls P g #[.slice (some ⟨b1, o1, none⟩) n c, .slice (some ⟨b2, o2, none⟩) m d] w fun e w' => e = .returned (.int .i64 (lexI xs ys)) ∧ w' = w)
 (hN : ∀ (p : Option Addr) (cap : Nat) (fv : Value) (w : World), Calls P f #[.slice p 0 cap, fv] w fun e w' => e = .returned (.tuple #[]) ∧ w' = w)
 (hC : ∀ {α : Type} [Inhabited α] (enc : α → Value) (h1 : ∀ x, (enc x).oneCell' = true) (cf : α → α → Int) (hO : SWO (ltOf cf)) (blk off cap : Nat) (d : Array α) (w : World), CmpLays1 P g #[] enc cf blk off d.size w → Holds enc w blk off d → blk < w.heap.size → d.size < 4611686018427387904 → Calls P f #[.slice (some ⟨blk, off, none⟩) d.size cap, .func (.func g) #[] #[]] w fun e w' => e = .returned (.tuple #[]) ∧ ∃ d' n os, PermIn 0 d.size d d' ∧ SortedIn (ltOf cf) 0 d.size d' ∧ w' = sortWorld enc w blk off n d' os)
 {a0 : Option Addr} {u0 : Nat} {p0 : List (List Int)} (g0 : Oc (Ep.fz (Rp.sl (Rp.int .i64))) T κ w 2 a0 u0 p0) (h0 : p0.length < 4611686018427387904) (h1 : ∀ l ∈ p0, l ≠ []) :
 Ret P f [.slice a0 p0.length u0, .func (.func g) #[] #[]] w (fun v w' => ∃ (κ' : Col), v = .tuple #[] ∧ Ent κ w κ' w' ∧ Oc (Ep.fz (Rp.sl (Rp.int .i64))) T κ' w' 2 a0 u0 (p0.mergeSort leI) ∧ p0.length = (p0.mergeSort leI).length) := by
 have hlen : (p0.mergeSort leI).length = p0.length := List.length_mergeSort ..
 by_cases hz : p0 = []
 · subst hz
   refine Calls.mono (hN a0 u0 _ w) fun ex w' ⟨he, hw⟩ => ⟨_, he, κ, rfl, ?_, ?_, hlen.symm⟩
   · rw [hw]; exact Ent.refl _ _
   · rw [hw, show ([] : List (List Int)).mergeSort leI = [] from List.length_eq_zero_iff.1 hlen]; exact g0
 have hpos : 0 < p0.length := List.length_pos_iff.2 hz
 obtain ⟨cells, ⟨hcl, hor⟩, hb, hlst⟩ := g0
 obtain ⟨hs, hcells, hxs⟩ := lst_words (T := T) h1 hlst
 rcases hor with ⟨_, e, _⟩ | ⟨gb, o, cur, e, hg, hnc, hcm, hsz, htk⟩
 · omega
 subst e
 have hsize : (Ep.fz (Rp.sl (Rp.int .i64))).size = 1 := rfl
 rw [hsize, Nat.mul_one] at hcl htk hsz
 obtain ⟨hgs, hgc⟩ := hb gb rfl
 have hq : κ gb = 2 := by simpa using hgc
 have hsl : hs.length = p0.length := by rw [← hxs, List.length_map]
 obtain ⟨t0, ht0⟩ : ∃ t : Wd w (Zl κ w [0]), t ∈ hs := by
  cases hs with
  | nil => simp at hsl; omega
  | cons t r => exact ⟨t, List.mem_cons_self ..⟩
 letI : Inhabited (Wd w (Zl κ w [0])) := ⟨t0⟩
 have hat : ∀ j, j < p0.length → cur[o + j]? = some (Wd.enc hs[j]!) := fun j hj => by
  have h2 : cells[j]? = some (Wd.enc hs[j]!) := by
   rw [hcells, List.getElem?_map, List.getElem?_eq_getElem (by omega), getElem!_pos hs j (by omega)]; rfl
  rw [← htk, List.getElem?_take, if_pos hj, List.getElem?_drop] at h2
  rw [← Array.getElem?_toList]
  exact h2
 have hdz : hs.toArray.size = p0.length := by simpa using hsl
 have hH : Holds Wd.enc w gb o hs.toArray := fun j hj => by
  have hj : j < p0.length := by rw [← hdz]; exact hj
  have e1 : hs.toArray[j]! = hs[j]! := by
   rw [getElem!_pos _ j (by rw [hdz]; exact hj), getElem!_pos hs j (by omega)]; simp
  rw [e1]
  refine ⟨?_, ?_⟩
  · simp only [World.cell?, hg]
    exact hat j hj
  · simp only [World.frozen?, hg]
    simp
 have hkeep : ∀ (m : Nat) (os : Array Obj) (dk : Array (Wd w (Zl κ w [0]))) (b : Nat), Zl κ w [0] b → (sortWorld Wd.enc w gb o m dk os).heap[b]? = w.heap[b]? := fun m os dk b ⟨hbl, hk⟩ => by
  have hne : gb ≠ b := fun e => by rw [← e, hq] at hk; simp at hk
  simp only [sortWorld, Go.Sort.grow, Go.Sort.putRow, Go.Sort.mapBlock, Go.Sort.ahead]
  rw [Array.getElem?_append_left (by simpa using hbl), Array.getElem?_modify, if_neg hne]
 have hL : CmpLays1 P g #[] Wd.enc (fun x y => lexI x.xs y.xs) gb o hs.toArray.size w := fun m os dk _ x y => by
  have hc : ∀ (t : Wd w (Zl κ w [0])) j, j < t.xs.length → (sortWorld Wd.enc w gb o m dk os).cell? ⟨t.b, t.o + j, none⟩ = some (.int .i64 t.xs[j]!) := fun t j hj => by
   rw [World.cell?_of_block (w := w) (hkeep m os dk t.b t.hb)]
   exact t.hc j hj
  refine (hcmp x.b x.o _ x.c y.b y.o _ y.c x.xs y.xs _ rfl rfl x.hl y.hl (hc x) (hc y)).mono fun ex w' ⟨he, hw⟩ => ⟨he, 0, #[], ?_⟩
  rw [hw]
  simp [Go.Sort.grow, World.drewN]
 have hcall := hC Wd.enc (fun x => rfl) (fun x y => lexI x.xs y.xs) (swoI Wd.xs) gb o u0 hs.toArray w hL hH hgs (by rw [hdz]; exact h0)
 rw [hdz] at hcall
 refine Calls.mono hcall fun ex w' ⟨he, d', n, os, hp, hso, hw⟩ => ⟨_, he, fun b => bif Nat.blt b w.heap.size then κ b else 2, rfl, ?_, ?_, hlen.symm⟩
 · subst hw
   refine ⟨rfl, rfl, rfl, ?_, fun b hbl hk => ⟨cond_of (Nat.ble_eq.mpr hbl), ?_⟩⟩
   · simp [sortWorld, Go.Sort.grow, Go.Sort.putRow, Go.Sort.mapBlock, Go.Sort.ahead]
   · have hne : gb ≠ b := fun e => by rw [← e, hq] at hk; omega
     simp only [sortWorld, Go.Sort.grow, Go.Sort.putRow, Go.Sort.mapBlock, Go.Sort.ahead]
     rw [Array.getElem?_append_left (by simpa using hbl), Array.getElem?_modify, if_neg hne]
 · -- the words of the row now
   obtain ⟨hps, _, hpp⟩ := hp
   rw [hdz] at hps
   have ex1 : d'.extract 0 p0.length = d' := by rw [← hps]; exact Array.extract_size
   have ex2 : hs.toArray.extract 0 p0.length = hs.toArray := by rw [← hdz]; exact Array.extract_size
   rw [ex1, ex2] at hpp
   have hperm : d'.toList.Perm hs := hpp
   have hys : d'.toList.map Wd.xs = p0.mergeSort leI := by
    refine List.Perm.eq_of_pairwise (le := fun x y => leI x y = true) (fun a b _ _ h1 h2 => leI_anti h1 h2) ?_ (List.pairwise_mergeSort leI_trans leI_total _) ?_
    · rw [List.pairwise_map, List.pairwise_iff_getElem]
      intro i j hi hj hij
      have hi' : i < d'.size := by simpa using hi
      have hj' : j < d'.size := by simpa using hj
      have := hso i j (Nat.zero_le _) hij (by omega)
      rw [getElem!_pos d' i hi', getElem!_pos d' j hj'] at this
      unfold ltOf at this
      simp only [decide_eq_false_iff_not] at this
      have hn := lexI_neg d'[i].xs d'[j].xs
      unfold leI
      simp only [Array.getElem_toList, decide_eq_true_eq]
      omega
    · refine ((hperm.map Wd.xs).trans ?_).trans (List.mergeSort_perm _ _).symm
      rw [hxs]
   subst hw
   have hheap : (sortWorld Wd.enc w gb o n d' os).heap[gb]? = some (.cells (Go.Sort.putCells Wd.enc o d' cur) T (0, 0)) := by
    simp only [sortWorld, Go.Sort.grow, Go.Sort.putRow, Go.Sort.mapBlock, Go.Sort.ahead]
    rw [Array.getElem?_append_left (by simpa using hgs), Array.getElem?_modify, if_pos rfl, hg]
    rfl
   have hsz' : (Go.Sort.putCells Wd.enc o d' cur).size = cur.size := by simp [Go.Sort.putCells]
   refine ⟨d'.toList.map Wd.enc, ⟨by rw [List.length_map, hsize, Nat.mul_one, hlen, Array.length_toList, hps], .inr ⟨gb, o, _, rfl, hheap, by omega, hcm, by rw [hsz', hsize, Nat.mul_one]; exact hsz, ?_⟩⟩, fun b hb' => ?_, ?_⟩
   · rw [hsize, Nat.mul_one, hlen]
     apply List.ext_getElem?
     intro j
     rw [List.getElem?_take, List.getElem?_map]
     by_cases hj : j < p0.length
     · rw [if_pos hj, List.getElem?_drop, Array.getElem?_toList]
       simp only [Go.Sort.putCells, Array.getElem?_mapIdx]
       have h3 : cur[o + j]? = some (cur[o + j]'(by omega)) := Array.getElem?_eq_getElem (by omega)
       rw [h3, Option.map_some, if_pos ⟨by omega, by omega⟩, Nat.add_sub_cancel_left, toList_of d' j (by omega)]
       rfl
     · rw [if_neg hj, List.getElem?_eq_none (by simp; omega)]; rfl
   · have : b = gb := by simpa [nb] using hb'
     subst this
     refine ⟨Nat.lt_of_lt_of_le hgs ?_, ?_⟩
     · simp [sortWorld, Go.Sort.grow, Go.Sort.putRow, Go.Sort.mapBlock, Go.Sort.ahead]
     · show (bif Nat.blt b w.heap.size then κ b else 2) ∈ [2]
       rw [show Nat.blt b w.heap.size = true from Nat.ble_eq.mpr hgs, cond_true, hq]; simp
   · rw [← hys]
     refine words_lst (fun b hb' => ⟨⟨?_, ?_⟩, hkeep n os d' b hb'⟩) d'.toList
     · refine Nat.lt_of_lt_of_le hb'.1 ?_
       simp [sortWorld, Go.Sort.grow, Go.Sort.putRow, Go.Sort.mapBlock, Go.Sort.ahead]
     · show (bif Nat.blt b w.heap.size then κ b else 2) ∈ [0]
       rw [show Nat.blt b w.heap.size = true from Nat.ble_eq.mpr hb'.1, cond_true]; exact hb'.2
end Go.Wk
