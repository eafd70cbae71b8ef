/- Memory that the call itself makes and writes: slices, boxes; how readings last while it is written. -/
import Derived.Test.YtpmnpdphailagaaLoop
import Derived.Great.BuildSlice
set_option linter.unusedVariables false
set_option linter.unusedSimpArgs false
namespace Go.Wk
open Go

/-- a block's number and one, for an address; nothing: 0 -/
def nb (a : Option Addr) : Nat := match a with
  | some p => p.block + 1
  | none => 0

/-- what was frozen before is frozen now, and is as it was -/
def St (M : List Nat) (w : World) (M' : List Nat) (w' : World) : Prop := ∀ b, Fz M w b → Fz M' w' b ∧ w'.heap[b]? = w.heap[b]?
theorem St.refl (M : List Nat) (w : World) : St M w M w := fun _ h => ⟨h, rfl⟩
theorem St.trans {M M' M'' : List Nat} {w w' w'' : World} (h : St M w M' w') (k : St M' w' M'' w'') : St M w M'' w'' := fun b hb =>
  ⟨(k b (h b hb).1).1, ((k b (h b hb).1).2).trans (h b hb).2⟩
/-- the new list's numbers are old ones, or 0, or lie beyond the world w -/
def Sub (n : Nat) (M M' : List Nat) : Prop := ∀ m, m ∈ M' → m ∈ M ∨ m = 0 ∨ n < m
theorem Sub.refl (n : Nat) (M : List Nat) : Sub n M M := fun _ h => .inl h
theorem Sub.same {n : Nat} {M M' : List Nat} (m : Nat) (h : Sub n M M') : Sub n (m :: M) (m :: M') := fun x hx => by
  rcases List.mem_cons.1 hx with e | hx
  · exact .inl (List.mem_cons.2 (.inl e))
  · exact (h x hx).imp (fun h => List.mem_cons_of_mem _ h) id
theorem Sub.turn {n : Nat} {M M' : List Nat} {m m' : Nat} (hm : m' = m ∨ n < m') (h : Sub n M M') : Sub n (m :: M) (m' :: M') := fun x hx => by
  rcases List.mem_cons.1 hx with e | hx
  · subst e; exact hm.imp (fun e => List.mem_cons.2 (.inl e)) .inr
  · exact (h x hx).imp (fun h => List.mem_cons_of_mem _ h) id
theorem Sub.new {n : Nat} {M M' : List Nat} {m : Nat} (hm : n < m) (h : Sub n M M') : Sub n M (m :: M') := fun x hx => by
  rcases List.mem_cons.1 hx with e | hx
  · subst e; exact .inr (.inr hm)
  · exact h x hx
theorem Sub.newO {n : Nat} {M M' : List Nat} {m : Nat} (hm : m = 0 ∨ n < m) (h : Sub n M M') : Sub n M (m :: M') := fun x hx => by
  rcases List.mem_cons.1 hx with e | hx
  · subst e; exact .inr hm
  · exact h x hx
theorem Sub.drop {n : Nat} {M M' : List Nat} {m : Nat} (h : Sub n M M') : Sub n (m :: M) M' := fun x hx => (h x hx).imp (fun h => List.mem_cons_of_mem _ h) id
theorem St.of {M M' : List Nat} {w w' : World} (hs : Sub w.heap.size M M') (hz : w.heap.size ≤ w'.heap.size) (hb : ∀ b, Fz M w b → w'.heap[b]? = w.heap[b]?) : St M w M' w' := fun b h =>
  ⟨⟨Nat.lt_of_lt_of_le h.1 hz, fun hm => (hs _ hm).elim h.2 fun hlt => by have := h.1; omega⟩, hb b h⟩
theorem St.ext {M M' : List Nat} {w w' : World} (hs : Sub w.heap.size M M') (h : Ext w w') : St M w M' w' := St.of hs h.size fun b hb => h.block b hb.1

theorem Sl.stp {α : Type} {E : Rp α} {M M' : List Nat} {w w' : World} {a : Option Addr} {c : Nat} {xs : List α} (h : Sl E (Fz M w) w a c xs) (s : St M w M' w') : Sl E (Fz M' w') w' a c xs := Sl.st s h
theorem Fz.fz {M : List Nat} {w : World} {b : Nat} (h : Fz M w b) : Fz [] w b := ⟨h.1, by simp⟩
theorem Sl.toFz {α : Type} {E : Rp α} {M : List Nat} {w : World} {a : Option Addr} {c : Nat} {xs : List α} (h : Sl E (Fz M w) w a c xs) : Sl E (Fz [] w) w a c xs := Sl.st (fun _ hb => ⟨hb.fz, rfl⟩) h
theorem Bf.stp {M M' : List Nat} {w w' : World} {b : Nat} {T : TypeId} {cs : List Value} (h : Bf M w b T cs) (s : St M w M' w') : Bf M' w' b T cs := ⟨(s b h.2).2.trans h.1, (s b h.2).1⟩
theorem Bf.all {M : List Nat} {w w' : World} {b : Nat} {T : TypeId} {cs : List Value} (h : Bf M w b T cs) (e : Ext w w') : Bf [] w' b T cs := Bf.of (h.1.ext e)

/-! the cells of a list -/
def Lst {α : Type} (E : Rp α) (S : Nat → Prop) (w : World) : List Value → List α → Prop
  | cells, [] => cells = []
  | cells, x :: r => ∃ c1 c2, cells = c1 ++ c2 ∧ E.rel S w c1 x ∧ Lst E S w c2 r
theorem Lst.st {α : Type} {E : Rp α} {S S' : Nat → Prop} {w w' : World} (h : ∀ b, S b → S' b ∧ w'.heap[b]? = w.heap[b]?) : ∀ {xs : List α} {cells : List Value}, Lst E S w cells xs → Lst E S' w' cells xs
  | [], _, hl => hl
  | _ :: _, _, ⟨c1, c2, e, h1, h2⟩ => ⟨c1, c2, e, E.st h h1, Lst.st h h2⟩
theorem Lst.len {α : Type} {E : Rp α} {S : Nat → Prop} {w : World} : ∀ {xs : List α} {cells : List Value}, Lst E S w cells xs → cells.length = xs.length * E.size
  | [], _, hl => by rw [hl]; simp
  | x :: r, _, ⟨c1, c2, e, h1, h2⟩ => by rw [e, List.length_append, E.len h1, h2.len, List.length_cons, Nat.add_mul, Nat.one_mul, Nat.add_comm]
theorem Lst.append {α : Type} {E : Rp α} {S : Nat → Prop} {w : World} {ys : List α} {c2 : List Value} (h2 : Lst E S w c2 ys) : ∀ {xs : List α} {c1 : List Value}, Lst E S w c1 xs → Lst E S w (c1 ++ c2) (xs ++ ys)
  | [], _, hl => by rw [hl]; exact h2
  | x :: r, _, ⟨d1, d2, e, h1, h3⟩ => ⟨d1, d2 ++ c2, by rw [e, List.append_assoc], h1, Lst.append h2 h3⟩
theorem Lst.get {α : Type} {E : Rp α} {S : Nat → Prop} {w : World} : ∀ {xs : List α} {cells : List Value}, Lst E S w cells xs → ∀ (i : Nat) x, xs[i]? = some x → ∃ cs : List Value, (∀ (j : Nat) v, cs[j]? = some v → cells[i * E.size + j]? = some v) ∧ E.rel S w cs x
  | [], _, _, i, x, h => by simp at h
  | y :: r, _, ⟨c1, c2, e, h1, h2⟩, 0, x, h => by
    simp only [List.getElem?_cons_zero, Option.some.injEq] at h
    subst h
    refine ⟨c1, fun j v hv => ?_, h1⟩
    rw [e, Nat.zero_mul, Nat.zero_add, List.getElem?_append_left (List.getElem?_eq_some_iff.1 hv).1]
    exact hv
  | y :: r, _, ⟨c1, c2, e, h1, h2⟩, i + 1, x, h => by
    obtain ⟨cs, h3, h4⟩ := h2.get i x (by simpa using h)
    refine ⟨cs, fun j v hv => ?_, h4⟩
    have hl := E.len h1
    rw [e, List.getElem?_append_right (by rw [hl, Nat.add_mul]; omega), hl, show (i + 1) * E.size + j - E.size = i * E.size + j from by rw [Nat.add_mul]; omega]
    exact h3 j v hv
/-- one element is replaced -/
theorem Lst.set {α : Type} {E : Rp α} {S : Nat → Prop} {w : World} {y : α} {cs : List Value} (hy : E.rel S w cs y) : ∀ {xs : List α} {cells : List Value}, Lst E S w cells xs → ∀ (i : Nat), i < xs.length →
    Lst E S w (cells.take (i * E.size) ++ cs ++ cells.drop (i * E.size + E.size)) (xs.set i y)
  | [], _, _, i, h => by simp at h
  | x :: r, _, ⟨c1, c2, e, h1, h2⟩, 0, _ => by
    have hl := E.len h1
    refine ⟨cs, c2, ?_, hy, h2⟩
    rw [e]
    simp [← hl]
  | x :: r, _, ⟨c1, c2, e, h1, h2⟩, i + 1, h => by
    have hl := E.len h1
    refine ⟨c1, _, ?_, h1, h2.set hy i (by simpa using h)⟩
    rw [e, show (i + 1) * E.size = c1.length + i * E.size from by rw [hl, Nat.add_mul]; omega, List.take_append, List.take_of_length_le (by omega), show c1.length + i * E.size - c1.length = i * E.size from by omega,
      show c1.length + i * E.size + E.size = c1.length + (i * E.size + E.size) from by omega, List.drop_append, List.drop_of_length_le (l := c1) (by omega)]
    simp [List.append_assoc]
theorem Lst.replicate {α : Type} {E : Rp α} {S : Nat → Prop} {w : World} {z : α} {zc : List Value} (hz : E.rel S w zc z) : ∀ n, Lst E S w (List.replicate n zc).flatten (List.replicate n z)
  | 0 => by simp [Lst]
  | n + 1 => ⟨zc, _, by simp [List.replicate_succ], hz, Lst.replicate hz n⟩
theorem Lst.ofVals {α : Type} {E : Rp α} {S : Nat → Prop} {w : World} (f : α → List Value) (h : ∀ x, E.rel S w (f x) x) : ∀ xs : List α, Lst E S w (xs.flatMap f) xs
  | [] => rfl
  | x :: r => ⟨f x, r.flatMap f, by simp, h x, Lst.ofVals f h r⟩

/-- a slice of the call's own: nil, or the head of a block that it holds alone -/
def Ow {α : Type} (E : Rp α) (T : TypeId) (S : Nat → Prop) (w : World) (a : Option Addr) (c : Nat) (xs : List α) : Prop :=
  ∃ cells, w.ownsRow 0 T E.size (.slice a xs.length c) xs.length cells ∧ Lst E S w cells xs

theorem ownsRow_form {w : World} {T : TypeId} {k : Nat} {a : Option Addr} {n c : Nat} {cells : List Value} (h : w.ownsRow 0 T k (.slice a n c) n cells) :
    (a = none ∧ c = 0 ∧ n = 0 ∧ cells = []) ∨ ∃ g cur, a = some ⟨g, 0, none⟩ ∧ w.heap[g]? = some (.cells cur T (0, 0)) ∧ n ≤ c ∧ c ≤ maxLen ∧ cur.size = c * k ∧ cur.toList.take (n * k) = cells := by
  rcases h.2 with ⟨e, hn⟩ | ⟨g, cap, cur, e, _, hg, h1, h2, h3, h4⟩
  · simp only [Value.slice.injEq] at e
    refine .inl ⟨e.1, e.2.2, hn, ?_⟩
    have := h.1
    rw [hn, Nat.zero_mul] at this
    exact List.eq_nil_of_length_eq_zero this
  · simp only [Value.slice.injEq] at e
    obtain ⟨rfl, -, rfl⟩ := e
    exact .inr ⟨g, cur, rfl, hg, h1, h2, h3, h4⟩

theorem Ow.nb_le {α : Type} {E : Rp α} {T : TypeId} {S : Nat → Prop} {w : World} {a : Option Addr} {c : Nat} {xs : List α} (h : Ow E T S w a c xs) : nb a ≤ w.heap.size := by
  obtain ⟨cells, ho, _⟩ := h
  rcases ownsRow_form ho with ⟨rfl, _⟩ | ⟨g, cur, rfl, hg, _⟩
  · exact Nat.zero_le _
  · exact (Array.getElem?_eq_some_iff.1 hg).1

theorem Ow.nil {α : Type} {E : Rp α} {T : TypeId} {S : Nat → Prop} {w : World} : Ow E T S w none 0 ([] : List α) := ⟨[], World.ownsRow_nil _ _ _ _, rfl⟩

/-- the step of a slice that is not touched: its block is as it was -/
theorem Ow.stp {α : Type} {E : Rp α} {T : TypeId} {M M' : List Nat} {w w' : World} {a : Option Addr} {c : Nat} {xs : List α} (h : Ow E T (Fz M w) w a c xs) (s : St M w M' w') (hb : ∀ b, b + 1 = nb a → w'.heap[b]? = w.heap[b]?) : Ow E T (Fz M' w') w' a c xs := by
  obtain ⟨cells, ho, hl⟩ := h
  refine ⟨cells, ⟨ho.1, ?_⟩, hl.st s⟩
  rcases ho.2 with e | ⟨g, cap, cur, e, h0, hg, r⟩
  · exact .inl e
  · refine .inr ⟨g, cap, cur, e, h0, ?_, r⟩
    simp only [Value.slice.injEq] at e
    rw [hb g (by rw [e.1]; rfl)]
    exact hg
theorem Ow.ext {α : Type} {E : Rp α} {T : TypeId} {M M' : List Nat} {w w' : World} {a : Option Addr} {c : Nat} {xs : List α} (h : Ow E T (Fz M w) w a c xs) (hs : Sub w.heap.size M M') (e : Ext w w') : Ow E T (Fz M' w') w' a c xs :=
  h.stp (St.ext hs e) fun b hb => e.block b (by have := h.nb_le; simp only [All]; omega)

/-- from now on nobody writes it -/
theorem Ow.freeze {α : Type} {E : Rp α} {T : TypeId} {S S' : Nat → Prop} {w : World} {a : Option Addr} {c : Nat} {xs : List α} (h : Ow E T S w a c xs) (hs : ∀ b, S b → S' b) (ha : ∀ b, b < w.heap.size → b + 1 = nb a → S' b) : Sl E S' w a c xs := by
  obtain ⟨cells, ho, hl⟩ := h
  rcases ownsRow_form ho with ⟨rfl, rfl, h0, _⟩ | ⟨g, cur, rfl, hg, h1, h2, h3, h4⟩
  · exact ⟨by omega, by simp, .inl ⟨List.eq_nil_of_length_eq_zero h0, fun _ => rfl⟩⟩
  · refine ⟨h1, h2, .inr ⟨g, 0, rfl, ha g (Array.getElem?_eq_some_iff.1 hg).1 rfl, fun i x hx => ?_⟩⟩
    have hl' : Lst E S' w cells xs := hl.st fun b hb => ⟨hs b hb, rfl⟩
    obtain ⟨cs, h5, h6⟩ := hl'.get i x hx
    refine ⟨cs, fun j v hv => ?_, h6⟩
    have h7 := h5 j v hv
    rw [← h4, List.getElem?_take] at h7
    split at h7
    · rw [cell_of_row w g (0 + i * E.size + j) cur T (0, 0) hg, Nat.zero_add]
      simpa using h7
    · cases h7
/-- read while it is still written elsewhere: all blocks -/
theorem Ow.read {α : Type} {E : Rp α} {T : TypeId} {M : List Nat} {w : World} {a : Option Addr} {c : Nat} {xs : List α} (h : Ow E T (Fz M w) w a c xs) : Sl E (Fz [] w) w a c xs :=
  h.freeze (fun _ hb => hb.fz) fun b hb _ => ⟨hb, by simp⟩
/-- frozen: out of the list -/
theorem Ow.frz {α : Type} {E : Rp α} {T : TypeId} {M : List Nat} {w : World} {a : Option Addr} {c : Nat} {xs : List α} (h : Ow E T (Fz (nb a :: M) w) w a c xs) (hm : nb a = 0 ∨ nb a ∉ M) : Sl E (Fz M w) w a c xs :=
  h.freeze (fun _ hb => ⟨hb.1, fun hm => hb.2 (List.mem_cons_of_mem _ hm)⟩) fun b hb e => ⟨hb, by rw [e]; exact hm.elim (fun h0 => by omega) id⟩
/-- membership alone -/
def Sb (M M' : List Nat) : Prop := ∀ m, m ∈ M' → m ∈ M
theorem Sb.refl (M : List Nat) : Sb M M := fun _ h => h
theorem Sb.same {M M' : List Nat} (m : Nat) (h : Sb M M') : Sb (m :: M) (m :: M') := fun x hx => by
  rcases List.mem_cons.1 hx with e | hx
  · exact List.mem_cons.2 (.inl e)
  · exact List.mem_cons_of_mem _ (h x hx)
theorem Sb.drop {M M' : List Nat} {m : Nat} (h : Sb M M') : Sb (m :: M) M' := fun x hx => List.mem_cons_of_mem _ (h x hx)
theorem Sb.head {M M' : List Nat} {m : Nat} (hm : m ∈ M) (h : Sb M M') : Sb M (m :: M') := fun x hx => by
  rcases List.mem_cons.1 hx with e | hx
  · subst e; exact hm
  · exact h x hx
theorem Sb.st {M M' : List Nat} {w : World} (h : Sb M M') : St M w M' w := fun _ hb => ⟨⟨hb.1, fun hm => hb.2 (h _ hm)⟩, rfl⟩
theorem Ow.sb {α : Type} {E : Rp α} {T : TypeId} {M M' : List Nat} {w : World} {a : Option Addr} {c : Nat} {xs : List α} (h : Ow E T (Fz M w) w a c xs) (s : Sb M M') : Ow E T (Fz M' w) w a c xs := h.stp s.st fun _ _ => rfl
theorem Ow.frzG {α : Type} {E : Rp α} {T : TypeId} {M M' : List Nat} {w : World} {a : Option Addr} {c : Nat} {xs : List α} (h : Ow E T (Fz M w) w a c xs) (s : Sb M M') (hm : nb a = 0 ∨ nb a ∉ M') : Sl E (Fz M' w) w a c xs :=
  h.freeze (fun _ hb => ⟨hb.1, fun hx => hb.2 (s _ hx)⟩) fun b hb e => ⟨hb, by rw [e]; exact hm.elim (fun h0 => by omega) id⟩
theorem nin_nil {k : Nat} : k = 0 ∨ k ∉ ([] : List Nat) := .inr (by simp)
theorem nin_cons {k m : Nat} {M : List Nat} (h1 : k = 0 ∨ k ≠ m) (h2 : k = 0 ∨ k ∉ M) : k = 0 ∨ k ∉ m :: M := by
  rcases h1 with h | h1
  · exact .inl h
  · exact h2.imp id fun h hm => (List.mem_cons.1 hm).elim h1 h
theorem nin_base {k n : Nat} {M : List Nat} (hf : k = 0 ∨ n < k) (hM : ∀ m, m ∈ M → m ≤ n) : k = 0 ∨ k ∉ M := hf.imp id fun h hm => by have := hM _ hm; omega

section
variable {P : Program} {n : Nat} {ops : Array Oper} {N : Act → World → Prop} {r : List (Nat × Nat)} {L : Env} {w : World} {i d : Nat} {o : Oper}

def setI {α : Type} (xs : List α) (i : Int) (v : α) : Option (List α) := if 0 ≤ i ∧ i < xs.length then some (xs.set i.toNat v) else none
theorem setI_ok {α : Type} {xs ys : List α} {i : Int} {v : α} (h : setI xs i v = some ys) : 0 ≤ i ∧ i < xs.length ∧ ys = xs.set i.toNat v ∧ ys.length = xs.length := by
  unfold setI at h
  split at h
  · rename_i hh
    simp only [Option.some.injEq] at h
    subst h
    exact ⟨hh.1, hh.2, rfl, by simp⟩
  · cases h
/-- make: n zeros, where there is room for them -/
def mkS {α : Type} (bytes : Nat) (n : Int) (z : α) : Option (List α) := if 0 ≤ n ∧ n ≤ 9223372036854775807 ∧ bytes * n.toNat ≤ 281474976710656 then some (List.replicate n.toNat z) else none
theorem mkS_ok {α : Type} {bytes : Nat} {n : Int} {z : α} {xs : List α} (h : mkS bytes n z = some xs) : 0 ≤ n ∧ n ≤ 9223372036854775807 ∧ bytes * n.toNat ≤ 281474976710656 ∧ xs = List.replicate n.toNat z ∧ (xs.length : Int) = n := by
  unfold mkS at h
  split at h
  · rename_i hh
    simp only [Option.some.injEq] at h
    subst h
    exact ⟨hh.1, hh.2.1, hh.2.2, rfl, by simp; omega⟩
  · cases h
/-- append, where there is room -/
def appS {α : Type} (bytes : Nat) (xs ys : List α) : Option (List α) := if (xs.length + ys.length) * bytes ≤ 140737488355328 ∧ xs.length + ys.length ≤ 9223372036854775807 then some (xs ++ ys) else none
theorem appS_ok {α : Type} {bytes : Nat} {xs ys zs : List α} (h : appS bytes xs ys = some zs) : (xs.length + ys.length) * bytes ≤ 140737488355328 ∧ xs.length + ys.length ≤ 9223372036854775807 ∧ zs = xs ++ ys := by
  unfold appS at h
  split at h
  · rename_i hh
    simp only [Option.some.injEq] at h
    exact ⟨hh.1, hh.2, h.symm⟩
  · cases h

theorem madeCells_flat {zc : List Value} {k : Nat} (hk : zc.length = k) (h0 : 0 < k) : ∀ m, (madeCells zc.toArray (m * k)).toList = (List.replicate m zc).flatten := by
  intro m
  apply List.ext_getElem?
  intro j
  have hL : (madeCells zc.toArray (m * k)).toList[j]? = if j < m * k then some (zc.toArray[j % zc.toArray.size]!) else none := by
    simp only [madeCells, Array.toList_map, Array.toList_range, List.getElem?_map, List.getElem?_range']
    split <;> simp_all
  rw [hL]
  clear hL
  induction m generalizing j with
  | zero => simp
  | succ m ih =>
    rw [List.replicate_succ, List.flatten_cons]
    by_cases hj : j < k
    · rw [List.getElem?_append_left (by omega), if_pos (by rw [Nat.succ_mul]; omega)]
      simp only [List.size_toArray, hk, Nat.mod_eq_of_lt hj]
      rw [getElem!_pos zc.toArray j (by simpa [hk] using hj)]
      simp [hk, hj]
    · have := ih (j - k)
      rw [List.getElem?_append_right (by omega), hk, ← this]
      simp only [List.size_toArray, hk]
      rw [show j % k = (j - k) % k from by rw [Nat.mod_eq_sub_mod (by omega)]]
      by_cases h1 : j < (m + 1) * k
      · rw [if_pos h1, if_pos (by rw [Nat.succ_mul] at h1; omega)]
      · rw [if_neg h1, if_neg (by rw [Nat.succ_mul] at h1; omega)]

theorem WO.make {C : World → Prop} {α : Type} {E : Rp α} {M : List Nat} (ho : ops[i]? = some o) (hg : gd ops L o = some true) (hd : o.dst = some d) (hb : Nat.blt d n = true) {t T : TypeId} {x : Operand} {m : Int} {bytes : Nat} {z : α} {zv : Value} {zc : List Value} {xs : List α} {ti : TypeInfo}
    (hop : o.op = .makeSlice t x x) (hx : opd L x = some (.int .i64 m)) (ht : P.underlying t = some (.slice T)) (hi : P.info? T = some ti) (hz : ti.zero = some zv) (hs : ti.size = E.size) (hby : ti.bytes = bytes) (hzc : zv.cells = zc.toArray) (h0 : 0 < E.size)
    (hrel : ∀ S w, E.rel S w zc z) (hxs : mkS bytes m z = some xs)
    (k : ∀ a c w', Ext w w' → w.heap.size < nb a → Ow E T (Fz (nb a :: M) w') w' a c xs → C w' ∧ WO P n ops C N r ((d, .slice a xs.length c) :: L) w') : WO P n ops C N ((i, 1) :: r) L w :=
  WO.l ho hg hd hb fun a ha => by
    obtain ⟨h1, h2, h3, h4, h5⟩ := mkS_ok hxs
    have hm : ((m.toNat : Nat) : Int) = m := Int.toNat_of_nonneg h1
    obtain ⟨w', hrun, hown, hgr⟩ := run_make_full (P := P) w 0 t T ti zv E.size ht hi hz hs .i64 .i64 m.toNat (by rw [hby]; exact h3) (by unfold maxLen; omega) (Nat.zero_le _)
    rw [hm] at hrun
    unfold Runs
    have : (execOp a.eval o).run P w = .ok (.value (.slice (some ⟨w.heap.size, 0, none⟩) m.toNat m.toNat)) w' := by
      simp only [execOp, hop, ha.eval hx, Sem.run_bind, hrun, Result.andThen_ok, Sem.run_pure]
    rw [this]
    subst h4
    have hk := k (some ⟨w.heap.size, 0, none⟩) m.toNat w' ⟨hgr.os, hgr.tape, hgr.output, hgr.size, fun b hb => hgr.block b hb (by simp)⟩ (by simp [nb])
      ⟨_, by rw [List.length_replicate]; exact hown, by rw [hzc, madeCells_flat (E.len (hrel (fun _ => True) w)) h0]; exact Lst.replicate (hrel _ _) _⟩
    rw [List.length_replicate] at hk
    exact hk
end
end Go.Wk
