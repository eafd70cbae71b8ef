/- How data lie in memory: blocks with colours; readings that last; what the call owns. -/
import Derived.Test.YtndiklipffipcaaOps
import Derived.Great.BuildSlice
set_option linter.unusedVariables false
set_option linter.unusedSimpArgs false
namespace Go.Wk
open Go

/-! ### colours -/
abbrev Col := Nat → Nat
def nin : List Nat → Nat → Bool
  | [], _ => true
  | a :: l, c => bif Nat.beq a c then false else nin l c
theorem nin_false {l : List Nat} {c : Nat} : nin l c = false ↔ c ∈ l := by
  induction l with
  | nil => simp [nin]
  | cons a l ih =>
    simp only [nin, List.mem_cons]
    cases e : Nat.beq a c with
    | true => have := Nat.eq_of_beq_eq_true e; simp [this]
    | false =>
      have : ¬ c = a := fun h => by rw [h, Nat.beq_refl] at e; cases e
      simp [this, ih]
theorem nin_true {l : List Nat} {c : Nat} : nin l c = true ↔ c ∉ l := by
  rw [← nin_false]; cases nin l c <;> simp
theorem nin_append {l m : List Nat} {c : Nat} : nin (l ++ m) c = true ↔ nin l c = true ∧ nin m c = true := by
  simp only [nin_true, List.mem_append, not_or]
/-- no colour of l is in X -/
def apt : List Nat → List Nat → Bool
  | [], _ => true
  | a :: l, X => bif nin X a then apt l X else false
theorem apt_mem {l X : List Nat} (h : apt l X = true) : ∀ c, c ∈ l → c ∉ X := by
  induction l with
  | nil => intro c hc; cases hc
  | cons a l ih =>
    simp only [apt] at h
    cases e : nin X a with
    | false => rw [e] at h; cases h
    | true =>
      rw [e] at h
      intro c hc
      rcases List.mem_cons.1 hc with rfl | hc
      · exact nin_true.1 e
      · exact ih h c hc
/-- the blocks of these colours -/
def Zl (κ : Col) (w : World) (l : List Nat) : Nat → Prop := fun b => b < w.heap.size ∧ κ b ∈ l
theorem Zl.mono {κ : Col} {w : World} {l m : List Nat} (h : ∀ c, c ∈ l → c ∈ m) {b : Nat} (hb : Zl κ w l b) : Zl κ w m b := ⟨hb.1, h _ hb.2⟩

/-- a step of the world; the blocks whose colours are not in X stay as they are, and keep their colours -/
structure Stp (X : List Nat) (κ : Col) (w : World) (κ' : Col) (w' : World) : Prop where
  os : w'.os = w.os
  tape : w'.tape = w.tape
  output : w'.output = w.output
  size : w.heap.size ≤ w'.heap.size
  keep : ∀ b, b < w.heap.size → κ b ∉ X → κ' b = κ b ∧ w'.heap[b]? = w.heap[b]?
theorem Stp.refl (κ : Col) (w : World) : Stp [] κ w κ w := ⟨rfl, rfl, rfl, Nat.le_refl _, fun _ _ _ => ⟨rfl, rfl⟩⟩
theorem Stp.tr {X Y : List Nat} {κ κ' κ'' : Col} {w w' w'' : World} (h : Stp X κ w κ' w') (k : Stp Y κ' w' κ'' w'') : Stp (X ++ Y) κ w κ'' w'' :=
  ⟨k.os.trans h.os, k.tape.trans h.tape, k.output.trans h.output, Nat.le_trans h.size k.size, fun b hb hc => by
    obtain ⟨h1, h2⟩ := h.keep b hb (fun e => hc (List.mem_append_left _ e))
    obtain ⟨h3, h4⟩ := k.keep b (Nat.lt_of_lt_of_le hb h.size) (fun e => hc (List.mem_append_right _ (h1 ▸ e)))
    exact ⟨h3.trans h1, h4.trans h2⟩⟩
theorem Zl.st {X : List Nat} {κ κ' : Col} {w w' : World} {l : List Nat} (s : Stp X κ w κ' w') (h : ∀ c, c ∈ l → c ∉ X) : ∀ b, Zl κ w l b → Zl κ' w' l b ∧ w'.heap[b]? = w.heap[b]? := fun b ⟨hb, hc⟩ => by
  obtain ⟨h1, h2⟩ := s.keep b hb (h _ hc)
  exact ⟨⟨Nat.lt_of_lt_of_le hb s.size, h1 ▸ hc⟩, h2⟩
theorem nin2 {X : List Nat} {i : Nat} (h0 : nin X 0 = true) (hi : nin X i = true) : ∀ c, c ∈ [0, i] → c ∉ X := fun c hc => by
  simp only [List.mem_cons, List.not_mem_nil, or_false] at hc
  rcases hc with rfl | rfl
  · exact nin_true.1 h0
  · exact nin_true.1 hi
theorem nin1 {X : List Nat} {i : Nat} (hi : nin X i = true) : ∀ c, c ∈ [i] → c ∉ X := fun c hc => by
  simp only [List.mem_cons, List.not_mem_nil, or_false] at hc
  subst hc; exact nin_true.1 hi
theorem cond_of {α : Type} {p : Bool} {x y : α} (h : p = true) : (bif p then x else y) = x := by rw [h]; rfl
theorem Stp.ext {κ : Col} {w w' : World} (i : Nat) (e : Ext w w') : Stp [] κ w (fun b => bif Nat.blt b w.heap.size then κ b else i) w' :=
  ⟨e.os, e.tape, e.output, e.size, fun b hb _ => ⟨cond_of (Nat.ble_eq.mpr hb), e.block b hb⟩⟩
theorem Stp.drew {κ : Col} {w : World} : Stp [] κ w κ { w with drawn := w.drawn + 1 } := ⟨rfl, rfl, rfl, Nat.le_refl _, fun _ _ _ => ⟨rfl, rfl⟩⟩

def sbs : List Nat → List Nat → Bool
  | [], _ => true
  | a :: l, X => bif nin X a then false else sbs l X
theorem sbs_mem {X : List Nat} : ∀ {l : List Nat}, sbs l X = true → ∀ c, c ∈ l → c ∈ X
  | [], _, _, h => by cases h
  | a :: l, h, c, hc => by
    simp only [sbs] at h
    cases e : nin X a with
    | true => rw [e] at h; cases h
    | false =>
      rw [e] at h
      rcases List.mem_cons.1 hc with rfl | hc
      · exact nin_false.1 e
      · exact sbs_mem h c hc
theorem Stp.wk {X Y : List Nat} {κ κ' : Col} {w w' : World} (s : Stp Y κ w κ' w') (h : sbs Y X = true) : Stp X κ w κ' w' := ⟨s.os, s.tape, s.output, s.size, fun b hb hc => s.keep b hb fun hm => hc (sbs_mem h _ hm)⟩
def ren : List (Nat × Nat) → Nat → Nat
  | [], c => c
  | (a, b) :: l, c => bif Nat.beq a c then b else ren l c
def ks : List (Nat × Nat) → List Nat
  | [] => []
  | (a, _) :: l => a :: ks l
theorem ren_out {c : Nat} : ∀ {l : List (Nat × Nat)}, c ∉ ks l → ren l c = c
  | [], _ => rfl
  | (a, b) :: l, h => by
    simp only [ks, List.mem_cons, not_or] at h
    simp only [ren]
    cases e : Nat.beq a c with
    | true => exact absurd (Nat.eq_of_beq_eq_true e).symm h.1
    | false => exact ren_out h.2
theorem Stp.ren {X : List Nat} {κ κ' : Col} {w w' : World} (s : Stp X κ w κ' w') (l : List (Nat × Nat)) (h : sbs (ks l) X = true) : Stp X κ w (fun b => Wk.ren l (κ' b)) w' := ⟨s.os, s.tape, s.output, s.size, fun b hb hc => by
  obtain ⟨h1, h2⟩ := s.keep b hb hc
  refine ⟨?_, h2⟩
  show Wk.ren l (κ' b) = κ b
  rw [h1]
  exact ren_out fun hm => hc (sbs_mem h _ hm)⟩

/-- the blocks of the colours 0 and 1 as they were when the call began -/
structure Ent (κ : Col) (w : World) (κ' : Col) (w' : World) : Prop where
  os : w'.os = w.os
  tape : w'.tape = w.tape
  output : w'.output = w.output
  size : w.heap.size ≤ w'.heap.size
  keep : ∀ b, b < w.heap.size → κ b ≤ 1 → κ' b = κ b ∧ w'.heap[b]? = w.heap[b]?
theorem Ent.refl (κ : Col) (w : World) : Ent κ w κ w := ⟨rfl, rfl, rfl, Nat.le_refl _, fun _ _ _ => ⟨rfl, rfl⟩⟩
theorem Ent.stp {X : List Nat} {κ κ' κ'' : Col} {w w' w'' : World} (h : Ent κ w κ' w') (s : Stp X κ' w' κ'' w'') (h0 : nin X 0 = true) (h1 : nin X 1 = true) : Ent κ w κ'' w'' :=
  ⟨s.os.trans h.os, s.tape.trans h.tape, s.output.trans h.output, Nat.le_trans h.size s.size, fun b hb hc => by
    obtain ⟨h3, h4⟩ := h.keep b hb hc
    have h5 : κ' b ∉ X := by
      have : κ' b = 0 ∨ κ' b = 1 := by omega
      rcases this with e | e <;> rw [e]
      · exact nin_true.1 h0
      · exact nin_true.1 h1
    obtain ⟨h6, h7⟩ := s.keep b (Nat.lt_of_lt_of_le hb h.size) h5
    exact ⟨h6.trans h3, h7.trans h4⟩⟩
theorem Ent.map {κ κ' : Col} {w w' : World} (h : Ent κ w κ' w') (g : Nat → Nat) (h0 : g 0 = 0) (h1 : g 1 = 1) : Ent κ w (fun b => g (κ' b)) w' :=
  ⟨h.os, h.tape, h.output, h.size, fun b hb hc => by
    obtain ⟨h3, h4⟩ := h.keep b hb hc
    refine ⟨?_, h4⟩
    show g (κ' b) = κ b
    rw [h3]
    have : κ b = 0 ∨ κ b = 1 := by omega
    rcases this with e | e <;> rw [e] <;> assumption⟩
/-- from the row: every block was of the colour 0 -/
theorem Ent.toExt {κ' : Col} {w w' : World} (h : Ent (fun _ => 0) w κ' w') : Ext w w' := ⟨h.os, h.tape, h.output, h.size, fun b hb => (h.keep b hb (Nat.zero_le _)).2⟩

/-! ### readings -/
structure Rp (α : Type) where
  size : Nat
  rel : (Nat → Prop) → World → List Value → α → Prop
  st : ∀ {S S' : Nat → Prop} {w w' : World} {cs : List Value} {x : α}, (∀ b, S b → S' b ∧ w'.heap[b]? = w.heap[b]?) → rel S w cs x → rel S' w' cs x
  len : ∀ {S : Nat → Prop} {w : World} {cs : List Value} {x : α}, rel S w cs x → cs.length = size
  one : ∀ {S : Nat → Prop} {w : World} {cs : List Value} {x : α}, rel S w cs x → ∀ v ∈ cs, v.oneCell' = true

def Rp.int (k : IntKind) : Rp Int where
  size := 1
  rel _ _ cs x := cs = [.int k x]
  st _ h := h
  len h := by rw [h]; rfl
  one h := by rw [h]; simp [Value.oneCell']
abbrev Rp.i64 : Rp Int := Rp.int .i64
def Rp.bool : Rp Bool where
  size := 1
  rel _ _ cs x := cs = [.bool x]
  st _ h := h
  len h := by rw [h]; rfl
  one h := by rw [h]; simp [Value.oneCell']
def Rp.str : Rp ByteArray where
  size := 1
  rel _ _ cs x := cs = [.string x]
  st _ h := h
  len h := by rw [h]; rfl
  one h := by rw [h]; simp [Value.oneCell']
def Rp.pair {α β : Type} (A : Rp α) (B : Rp β) : Rp (α × β) where
  size := A.size + B.size
  rel S w cs x := ∃ c1 c2, cs = c1 ++ c2 ∧ A.rel S w c1 x.1 ∧ B.rel S w c2 x.2
  st h := fun ⟨c1, c2, e, h1, h2⟩ => ⟨c1, c2, e, A.st h h1, B.st h h2⟩
  len := fun ⟨c1, c2, e, h1, h2⟩ => by rw [e, List.length_append, A.len h1, B.len h2]
  one := fun ⟨c1, c2, e, h1, h2⟩ v hv => by
    rw [e] at hv
    rcases List.mem_append.1 hv with h | h
    · exact A.one h1 v h
    · exact B.one h2 v h
def Rp.iso {α β : Type} (A : Rp α) (f : β → α) : Rp β where
  size := A.size
  rel S w cs x := A.rel S w cs (f x)
  st h := A.st h
  len h := A.len h
  one h := A.one h

def idx {α : Type} (xs : List α) (i : Int) : Option α := if 0 ≤ i then xs[i.toNat]? else none
theorem idx_ok {α : Type} {xs : List α} {i : Int} {x : α} (h : idx xs i = some x) : 0 ≤ i ∧ i < xs.length ∧ xs[i.toNat]? = some x := by
  unfold idx at h
  split at h
  · rename_i h0
    have := (List.getElem?_eq_some_iff.1 h).1
    exact ⟨h0, by omega, h⟩
  · cases h

def Sl {α : Type} (E : Rp α) (S : Nat → Prop) (w : World) (a : Option Addr) (c : Nat) (xs : List α) : Prop :=
  xs.length ≤ c ∧ c ≤ maxLen ∧ ((xs = [] ∧ (a = none → c = 0)) ∨ ∃ b o, a = some ⟨b, o, none⟩ ∧ S b ∧
    ∀ (i : Nat) x, xs[i]? = some x → ∃ cs : List Value, (∀ (j : Nat) v, cs[j]? = some v → w.cell? ⟨b, o + i * E.size + j, none⟩ = some v) ∧ E.rel S w cs x)

theorem Sl.st {α : Type} {E : Rp α} {S S' : Nat → Prop} {w w' : World} {a : Option Addr} {c : Nat} {xs : List α} (h : ∀ b, S b → S' b ∧ w'.heap[b]? = w.heap[b]?) (hs : Sl E S w a c xs) : Sl E S' w' a c xs := by
  obtain ⟨h1, h2, h3⟩ := hs
  refine ⟨h1, h2, h3.imp id fun ⟨b, o, e, hb, hc⟩ => ⟨b, o, e, (h b hb).1, fun i x hx => ?_⟩⟩
  obtain ⟨cs, h4, h5⟩ := hc i x hx
  exact ⟨cs, fun j v hv => by rw [World.cell?_of_block (w := w) (h b hb).2]; exact h4 j v hv, E.st h h5⟩
theorem Sl.nil {α : Type} {E : Rp α} {S : Nat → Prop} {w : World} : Sl E S w none 0 [] := ⟨by simp, by simp, .inl ⟨rfl, fun _ => rfl⟩⟩
theorem Sl.len_le {α : Type} {E : Rp α} {S : Nat → Prop} {w : World} {a : Option Addr} {c : Nat} {xs : List α} (h : Sl E S w a c xs) : (xs.length : Int) ≤ 9223372036854775807 := by
  have h1 := h.1
  have h2 := h.2.1
  unfold maxLen at h2
  omega

def Rp.sl {α : Type} (E : Rp α) : Rp (List α) where
  size := 1
  rel S w cs xs := ∃ a c, cs = [.slice a xs.length c] ∧ Sl E S w a c xs
  st h := fun ⟨a, c, e, hs⟩ => ⟨a, c, e, hs.st h⟩
  len := fun ⟨_, _, e, _⟩ => by rw [e]; rfl
  one := fun ⟨_, _, e, _⟩ => by rw [e]; simp [Value.oneCell']

def aAt (a : Option Addr) (k : Nat) : Addr := match a with
  | some p => p.add k
  | none => ⟨0, 0, none⟩
theorem addb (b o j : Nat) : (⟨b, o, none⟩ : Addr).add j = ⟨b, o + j, none⟩ := by unfold Addr.add; split <;> simp_all
theorem Addr.add_add (b o j k : Nat) : ((⟨b, o, none⟩ : Addr).add j).add k = ⟨b, o + j + k, none⟩ := by rw [addb, addb]

theorem Sl.base {α : Type} {E : Rp α} {S : Nat → Prop} {w : World} {a : Option Addr} {c : Nat} {xs : List α} (hs : Sl E S w a c xs) {i : Int} {x : α} (h : idx xs i = some x) : 0 ≤ i ∧ i < xs.length ∧ ∃ p, a = some p := by
  obtain ⟨h0, h1, h2⟩ := idx_ok h
  refine ⟨h0, h1, ?_⟩
  rcases hs.2.2 with ⟨e, _⟩ | ⟨b, o, e, _⟩
  · subst e; simp at h1; omega
  · exact ⟨_, e⟩
theorem Sl.get {α : Type} {E : Rp α} {S : Nat → Prop} {w : World} {a : Option Addr} {c : Nat} {xs : List α} (hs : Sl E S w a c xs) {i : Int} {x : α} (h : idx xs i = some x) :
    ∃ cs : List Value, E.rel S w cs x ∧ ∀ w' : World, (∀ b, S b → w'.heap[b]? = w.heap[b]?) → ∀ (j : Nat) v, cs[j]? = some v → w'.cell? ((aAt a (i.toNat * E.size)).add j) = some v := by
  obtain ⟨h0, h1, h2⟩ := idx_ok h
  rcases hs.2.2 with ⟨e, _⟩ | ⟨b, o, e, hb, hc⟩
  · subst e; simp at h1; omega
  · obtain ⟨cs, h3, h4⟩ := hc _ _ h2
    refine ⟨cs, h4, fun w' hw' j v hv => ?_⟩
    subst e
    simp only [aAt]
    rw [Addr.add_add, World.cell?_of_block (w := w) (hw' b hb)]
    exact h3 j v hv

/-- the reading of a slice of colour i (its elements' memory too), or of what nobody writes -/
abbrev Rd {α : Type} (E : Rp α) (κ : Col) (w : World) (i : Nat) (a : Option Addr) (c : Nat) (xs : List α) : Prop := Sl E (Zl κ w [0, i]) w a c xs
theorem Sl.stp {α : Type} {E : Rp α} {X : List Nat} {κ κ' : Col} {w w' : World} {i : Nat} {a : Option Addr} {c : Nat} {xs : List α} (h : Rd E κ w i a c xs) (s : Stp X κ w κ' w') (h0 : nin X 0 = true) (hi : nin X i = true) : Rd E κ' w' i a c xs :=
  Sl.st (Zl.st s (nin2 h0 hi)) h
theorem Zl.map {κ : Col} {w : World} {l m : List Nat} (g : Nat → Nat) (h : ∀ c, c ∈ l → g c ∈ m) : ∀ b, Zl κ w l b → Zl (fun b => g (κ b)) w m b ∧ w.heap[b]? = w.heap[b]? := fun b hb => ⟨⟨hb.1, h _ hb.2⟩, rfl⟩
theorem Sl.z1 {α : Type} {E : Rp α} {κ : Col} {w : World} {a : Option Addr} {c : Nat} {xs : List α} (h : Rd E κ w 0 a c xs) : Sl E (Zl κ w [0]) w a c xs := Sl.st (fun b hb => ⟨Zl.mono (by simp) hb, rfl⟩) h
theorem Zl.sp {κ : Col} {w : World} {l1 l2 : List Nat} (h : apt l1 l2 = true) : ∀ b, Zl κ w l1 b → Zl κ w (l1 ++ l2) b ∧ ¬ Zl κ w l2 b := fun b hb => ⟨Zl.mono (fun c hc => List.mem_append_left _ hc) hb, fun h2 => apt_mem h _ hb.2 h2.2⟩
theorem Zl.sr {κ : Col} {w : World} {l1 l2 : List Nat} : ∀ b, Zl κ w l2 b → Zl κ w (l1 ++ l2) b := fun b hb => Zl.mono (fun c hc => List.mem_append_right _ hc) hb
theorem map2 {g : Nat → Nat} {i j : Nat} (h0 : g 0 = 0) (hi : g i = j) : ∀ c, c ∈ [0, i] → g c ∈ [0, j] := fun c hc => by
  simp only [List.mem_cons, List.not_mem_nil, or_false] at hc ⊢
  rcases hc with rfl | rfl
  · exact .inl h0
  · exact .inr hi
theorem map1 {g : Nat → Nat} {i j : Nat} (hi : g i = j) : ∀ c, c ∈ [i] → g c ∈ [j] := fun c hc => by
  simp only [List.mem_cons, List.not_mem_nil, or_false] at hc ⊢
  subst hc; exact hi
theorem Sl.map {α : Type} {E : Rp α} {κ : Col} {w : World} {i j : Nat} {a : Option Addr} {c : Nat} {xs : List α} (h : Rd E κ w i a c xs) (g : Nat → Nat) (h0 : g 0 = 0) (hi : g i = j) : Rd E (fun b => g (κ b)) w j a c xs :=
  Sl.st (Zl.map g (map2 h0 hi)) h

/-! agreeing worlds, for the looks at memory -/
def Ag (l : List Nat) (κ : Col) (w w' : World) : Prop := ∀ b, Zl κ w l b → w'.heap[b]? = w.heap[b]?
def Cl (N : List Nat) (κ : Col) (w w' : World) : Prop := ∀ b, b < w.heap.size → κ b ∈ N → w'.heap[b]? = w.heap[b]?
def lle : List Nat → List Nat → Bool
  | [], _ => true
  | a :: l, N => bif nin N a then false else lle l N
theorem lle_mem {N : List Nat} : ∀ {l : List Nat}, lle l N = true → ∀ c, c ∈ l → c ∈ N
  | [], _, _, h => by cases h
  | a :: l, h, c, hc => by
    simp only [lle] at h
    cases e : nin N a with
    | true => rw [e] at h; cases h
    | false =>
      rw [e] at h
      rcases List.mem_cons.1 hc with rfl | hc
      · exact nin_false.1 e
      · exact lle_mem h c hc
def lgt : List Nat → List Nat → Bool
  | [], _ => true
  | a :: l, N => bif nin N a then lgt l N else false
theorem lgt_mem {N : List Nat} : ∀ {l : List Nat}, lgt l N = true → ∀ c, c ∈ l → c ∉ N
  | [], _, _, h => by cases h
  | a :: l, h, c, hc => by
    simp only [lgt] at h
    cases e : nin N a with
    | false => rw [e] at h; cases h
    | true =>
      rw [e] at h
      rcases List.mem_cons.1 hc with rfl | hc
      · exact nin_true.1 e
      · exact lgt_mem h c hc
theorem Cl.refl (N : List Nat) (κ : Col) (w : World) : Cl N κ w w := fun _ _ _ => rfl
theorem Stp.cl {X : List Nat} {κ κ' : Col} {w w' : World} {N : List Nat} (s : Stp X κ w κ' w') (h : lgt X N = true) : Cl N κ w w' := fun b hb hc => (s.keep b hb fun hm => lgt_mem h _ hm hc).2
/-! steps that turn colours only, of blocks that stay as they are -/
structure Gst (q : Nat) (κ : Col) (w : World) (κ' : Col) (w' : World) : Prop where
  size : w.heap.size ≤ w'.heap.size
  mem : ∀ b, b < w.heap.size → w'.heap[b]? = w.heap[b]?
  col : ∀ b, b < w.heap.size → κ' b = κ b ∨ κ' b = q
structure Ol (N : List Nat) (es : List Nat) (κ0 : Col) (w0 : World) (κ : Col) (w : World) : Prop where
  all : ∀ b, b < w0.heap.size → κ0 b ∈ N → b < w.heap.size ∧ (κ b ∈ N ∨ κ b ∈ es) ∧ w.heap[b]? = w0.heap[b]?
theorem Ol.refl (N : List Nat) (κ : Col) (w : World) : Ol N [] κ w κ w := ⟨fun b hb hc => ⟨hb, .inl hc, rfl⟩⟩
theorem Ol.stp {N : List Nat} {es X : List Nat} {κ0 κ κ' : Col} {w0 w w' : World} (h : Ol N es κ0 w0 κ w) (s : Stp X κ w κ' w') (hX : lgt X N = true) (he : apt es X = true) : Ol N es κ0 w0 κ' w' := ⟨fun b hb hc => by
  obtain ⟨h1, h2, h3⟩ := h.all b hb hc
  obtain ⟨h4, h5⟩ := s.keep b h1 fun hm => by
    rcases h2 with h2 | h2
    · exact lgt_mem hX _ hm h2
    · exact apt_mem he _ h2 hm
  exact ⟨Nat.lt_of_lt_of_le h1 s.size, h4 ▸ h2, h5.trans h3⟩⟩
theorem Ol.gst {N : List Nat} {q : Nat} {es : List Nat} {κ0 κ κ' : Col} {w0 w w' : World} (h : Ol N es κ0 w0 κ w) (g : Gst q κ w κ' w') : Ol N (q :: es) κ0 w0 κ' w' := ⟨fun b hb hc => by
  obtain ⟨h1, h2, h3⟩ := h.all b hb hc
  refine ⟨Nat.lt_of_lt_of_le h1 g.size, ?_, (g.mem b h1).trans h3⟩
  rcases g.col b h1 with e | e
  · rw [e]
    exact h2.imp id (List.mem_cons_of_mem _)
  · rw [e]; exact .inr (List.mem_cons_self ..)⟩
theorem Ol.cl {N : List Nat} {es : List Nat} {κ0 κ : Col} {w0 w : World} (h : Ol N es κ0 w0 κ w) : Cl N κ0 w0 w := fun b hb hc => (h.all b hb hc).2.2
theorem hvC {l : List Nat} {κ : Col} {w : World} {N : List Nat} {p : Addr} {v : Value} (h : ∀ w', Ag l κ w w' → w'.cell? p = some v) (hl : lle l N = true) : ∀ w', Cl N κ w w' → w'.cell? p = some v := fun w' hw => h w' fun b hb => hw b hb.1 (lle_mem hl _ hb.2)
theorem hvE {l : List Nat} {κ : Col} {w : World} {p : Addr} {v : Value} (h : ∀ w', Ag l κ w w' → w'.cell? p = some v) : ∀ w', w' = w → w'.cell? p = some v := fun w' hw => h w' fun b hb => by rw [hw]
theorem haC {l : List Nat} {κ : Col} {w : World} {N : List Nat} {p : Addr} {cs : List Value} (h : ∀ w', Ag l κ w w' → ∀ (j : Nat) v, cs[j]? = some v → w'.cell? (p.add j) = some v) (hl : lle l N = true) : ∀ w', Cl N κ w w' → ∀ (j : Nat) v, cs[j]? = some v → w'.cell? (p.add j) = some v := fun w' hw => h w' fun b hb => hw b hb.1 (lle_mem hl _ hb.2)
theorem haE {l : List Nat} {κ : Col} {w : World} {p : Addr} {cs : List Value} (h : ∀ w', Ag l κ w w' → ∀ (j : Nat) v, cs[j]? = some v → w'.cell? (p.add j) = some v) : ∀ w', w' = w → ∀ (j : Nat) v, cs[j]? = some v → w'.cell? (p.add j) = some v := fun w' hw => h w' fun b hb => by rw [hw]

section
variable {κ : Col} {w : World} {q : Nat} {a : Option Addr} {c : Nat} {i : Int}
theorem Sl.gInt {k : IntKind} {xs : List Int} {x : Int} (hs : Rd (Rp.int k) κ w q a c xs) (h : idx xs i = some x) : ∀ w', Ag [0, q] κ w w' → w'.cell? (aAt a (i.toNat * 1)) = some (.int k x) := by
  obtain ⟨cs, h1, h2⟩ := hs.get h
  have h1 : cs = [.int k x] := h1
  subst h1
  intro w' hw'
  exact h2 w' hw' 0 _ rfl
theorem Sl.gBool {xs : List Bool} {x : Bool} (hs : Rd Rp.bool κ w q a c xs) (h : idx xs i = some x) : ∀ w', Ag [0, q] κ w w' → w'.cell? (aAt a (i.toNat * 1)) = some (.bool x) := by
  obtain ⟨cs, h1, h2⟩ := hs.get h
  have h1 : cs = [.bool x] := h1
  subst h1
  intro w' hw'
  exact h2 w' hw' 0 _ rfl
theorem Sl.gStr {xs : List ByteArray} {x : ByteArray} (hs : Rd Rp.str κ w q a c xs) (h : idx xs i = some x) : ∀ w', Ag [0, q] κ w w' → w'.cell? (aAt a (i.toNat * 1)) = some (.string x) := by
  obtain ⟨cs, h1, h2⟩ := hs.get h
  have h1 : cs = [.string x] := h1
  subst h1
  intro w' hw'
  exact h2 w' hw' 0 _ rfl
theorem Sl.gSl {α : Type} {E : Rp α} {xs : List (List α)} {x : List α} (hs : Rd (Rp.sl E) κ w q a c xs) (h : idx xs i = some x) :
    ∃ a' c', Rd E κ w q a' c' x ∧ ∀ w', Ag [0, q] κ w w' → w'.cell? (aAt a (i.toNat * 1)) = some (.slice a' x.length c') := by
  obtain ⟨cs, ⟨a', c', e, h1⟩, h2⟩ := hs.get h
  subst e
  exact ⟨a', c', h1, fun w' hw' => h2 w' hw' 0 _ rfl⟩
/-- a struct: its cells -/
theorem Sl.gSt {α : Type} {E : Rp α} {xs : List α} {x : α} (hs : Rd E κ w q a c xs) (h : idx xs i = some x) :
    ∃ cs : List Value, E.rel (Zl κ w [0, q]) w cs x ∧ ∀ w', Ag [0, q] κ w w' → ∀ (j : Nat) v, cs[j]? = some v → w'.cell? ((aAt a (i.toNat * E.size)).add j) = some v := hs.get h
end

/-! ### what the call owns -/
/-- like a reading; F: the blocks that nobody writes; S: the blocks that this datum holds alone, each in one place -/
structure Ep (α : Type) where
  size : Nat
  rel : (Nat → Prop) → (Nat → Prop) → World → List Value → α → Prop
  st : ∀ {F F' S S' : Nat → Prop} {w w' : World} {cs : List Value} {x : α}, (∀ b, F b → F' b ∧ w'.heap[b]? = w.heap[b]?) → (∀ b, S b → S' b ∧ w'.heap[b]? = w.heap[b]?) → rel F S w cs x → rel F' S' w' cs x
  len : ∀ {F S : Nat → Prop} {w : World} {cs : List Value} {x : α}, rel F S w cs x → cs.length = size
  one : ∀ {F S : Nat → Prop} {w : World} {cs : List Value} {x : α}, rel F S w cs x → ∀ v ∈ cs, v.oneCell' = true
  rp : Rp α
  rps : rp.size = size
  rd : ∀ {F S G : Nat → Prop} {w : World} {cs : List Value} {x : α}, (∀ b, F b → G b) → (∀ b, S b → G b) → rel F S w cs x → rp.rel G w cs x

/-- what is only read -/
def Ep.fz {α : Type} (E : Rp α) : Ep α where
  size := E.size
  rel F _ w cs x := E.rel F w cs x
  st hF _ h := E.st hF h
  len h := E.len h
  one h := E.one h
  rp := E
  rps := rfl
  rd hF _ h := E.st (fun b hb => ⟨hF b hb, rfl⟩) h
def Ep.int (k : IntKind) : Ep Int := Ep.fz (Rp.int k)
def Ep.bool : Ep Bool := Ep.fz Rp.bool
def Ep.str : Ep ByteArray := Ep.fz Rp.str
def Ep.pair {α β : Type} (A : Ep α) (B : Ep β) : Ep (α × β) where
  size := A.size + B.size
  rel F S w cs x := ∃ c1 c2, ∃ S1 S2 : Nat → Prop, cs = c1 ++ c2 ∧ (∀ b, S1 b → S b ∧ ¬ S2 b) ∧ (∀ b, S2 b → S b) ∧ A.rel F S1 w c1 x.1 ∧ B.rel F S2 w c2 x.2
  st hF hS := fun ⟨c1, c2, S1, S2, e, hs1, hs2, h1, h2⟩ => ⟨c1, c2, S1, S2, e, fun b hb => ⟨(hS b (hs1 b hb).1).1, (hs1 b hb).2⟩, fun b hb => (hS b (hs2 b hb)).1, A.st hF (fun b hb => ⟨hb, (hS b (hs1 b hb).1).2⟩) h1, B.st hF (fun b hb => ⟨hb, (hS b (hs2 b hb)).2⟩) h2⟩
  len := fun ⟨c1, c2, _, _, e, _, _, h1, h2⟩ => by rw [e, List.length_append, A.len h1, B.len h2]
  one := fun ⟨c1, c2, _, _, e, _, _, h1, h2⟩ v hv => by
    rw [e] at hv
    rcases List.mem_append.1 hv with h | h
    · exact A.one h1 v h
    · exact B.one h2 v h
  rp := Rp.pair A.rp B.rp
  rps := by show A.rp.size + B.rp.size = _; rw [A.rps, B.rps]
  rd hF hS := fun ⟨c1, c2, S1, S2, e, hs1, hs2, h1, h2⟩ => ⟨c1, c2, e, A.rd hF (fun b hb => hS b (hs1 b hb).1) h1, B.rd hF (fun b hb => hS b (hs2 b hb)) h2⟩
def Ep.iso {α β : Type} (A : Ep α) (f : β → α) : Ep β where
  size := A.size
  rel F S w cs x := A.rel F S w cs (f x)
  st hF hS h := A.st hF hS h
  len h := A.len h
  one h := A.one h
  rp := Rp.iso A.rp f
  rps := A.rps
  rd hF hS h := A.rd hF hS h

/-- a block's number and one, for an address; nothing: 0 -/
def nb (a : Option Addr) : Nat := match a with
  | some p => p.block + 1
  | none => 0

/-- the cells of a slice that holds its block alone -/
def OwR (w : World) (T : TypeId) (k : Nat) (a : Option Addr) (n c : Nat) (cells : List Value) : Prop :=
  cells.length = n * k ∧ ((a = none ∧ n = 0 ∧ c = 0) ∨ ∃ g o cur, a = some ⟨g, o, none⟩ ∧ w.heap[g]? = some (.cells cur T (0, 0)) ∧ n ≤ c ∧ c ≤ maxLen ∧ o + c * k ≤ cur.size ∧ (cur.toList.drop o).take (n * k) = cells)
theorem OwR.lt {w : World} {T : TypeId} {k : Nat} {a : Option Addr} {n c : Nat} {cells : List Value} (h : OwR w T k a n c cells) {b : Nat} (hb : b + 1 = nb a) : b < w.heap.size := by
  rcases h.2 with ⟨e, _⟩ | ⟨g, o, cur, e, hg, _⟩
  · rw [e] at hb; cases hb
  · rw [e] at hb
    have : b = g := by simpa [nb] using hb
    rw [this]
    exact (Array.getElem?_eq_some_iff.1 hg).1
theorem OwR.same {w w' : World} {T : TypeId} {k : Nat} {a : Option Addr} {n c : Nat} {cells : List Value} (h : OwR w T k a n c cells) (hb : ∀ b, b + 1 = nb a → w'.heap[b]? = w.heap[b]?) : OwR w' T k a n c cells := by
  refine ⟨h.1, h.2.imp id fun ⟨g, o, cur, e, hg, r⟩ => ⟨g, o, cur, e, ?_, r⟩⟩
  rw [hb g (by rw [e]; rfl)]; exact hg
theorem OwR.of_row {w : World} {T : TypeId} {k : Nat} {a : Option Addr} {n c : Nat} {cells : List Value} (h : w.ownsRow 0 T k (.slice a n c) n cells) : OwR w T k a n c cells := by
  refine ⟨h.1, ?_⟩
  rcases h.2 with ⟨e, hn⟩ | ⟨g, cap, cur, e, _, hg, h1, h2, h3, h4⟩
  · simp only [Value.slice.injEq] at e
    exact .inl ⟨e.1, hn, e.2.2⟩
  · simp only [Value.slice.injEq] at e
    obtain ⟨rfl, -, rfl⟩ := e
    exact .inr ⟨g, 0, cur, rfl, hg, h1, h2, by omega, by simpa using h4⟩

/-- the cells of a list; each element holds its blocks alone -/
def LstO {α : Type} (E : Ep α) (F : Nat → Prop) (w : World) : (Nat → Prop) → List Value → List α → Prop
  | _, cells, [] => cells = []
  | S, cells, x :: r => ∃ c1 c2, ∃ S1 S2 : Nat → Prop, cells = c1 ++ c2 ∧ (∀ b, S1 b → S b ∧ ¬ S2 b) ∧ (∀ b, S2 b → S b) ∧ E.rel F S1 w c1 x ∧ LstO E F w S2 c2 r
section
variable {α : Type} {E : Ep α} {F F' : Nat → Prop} {w w' : World}
theorem LstO.st (hF : ∀ b, F b → F' b ∧ w'.heap[b]? = w.heap[b]?) : ∀ {xs : List α} {S S' : Nat → Prop} {cells : List Value}, (∀ b, S b → S' b ∧ w'.heap[b]? = w.heap[b]?) → LstO E F w S cells xs → LstO E F' w' S' cells xs
  | [], _, _, _, _, hl => hl
  | _ :: _, S, S', _, hS, ⟨c1, c2, S1, S2, e, s1, s2, h1, h2⟩ => ⟨c1, c2, S1, S2, e, fun b hb => ⟨(hS b (s1 b hb).1).1, (s1 b hb).2⟩, fun b hb => (hS b (s2 b hb)).1,
      E.st hF (fun b hb => ⟨hb, (hS b (s1 b hb).1).2⟩) h1, LstO.st hF (fun b hb => ⟨hb, (hS b (s2 b hb)).2⟩) h2⟩
theorem LstO.len : ∀ {xs : List α} {S : Nat → Prop} {cells : List Value}, LstO E F w S cells xs → cells.length = xs.length * E.size
  | [], _, _, hl => by rw [hl]; simp
  | x :: r, _, _, ⟨c1, c2, _, _, e, _, _, h1, h2⟩ => by rw [e, List.length_append, E.len h1, h2.len, List.length_cons, Nat.add_mul, Nat.one_mul, Nat.add_comm]
theorem LstO.one : ∀ {xs : List α} {S : Nat → Prop} {cells : List Value}, LstO E F w S cells xs → ∀ v ∈ cells, v.oneCell' = true
  | [], _, _, hl, v, hv => by rw [hl] at hv; cases hv
  | x :: r, _, _, ⟨c1, c2, _, _, e, _, _, h1, h2⟩, v, hv => by
    rw [e] at hv
    rcases List.mem_append.1 hv with h | h
    · exact E.one h1 v h
    · exact h2.one v h
theorem LstO.append {ys : List α} {Sy : Nat → Prop} {c2 : List Value} (h2 : LstO E F w Sy c2 ys) : ∀ {xs : List α} {Sx S : Nat → Prop} {c1 : List Value}, (∀ b, Sx b → S b ∧ ¬ Sy b) → (∀ b, Sy b → S b) → LstO E F w Sx c1 xs → LstO E F w S (c1 ++ c2) (xs ++ ys)
  | [], _, _, _, hx, hy, hl => by rw [hl]; exact LstO.st (fun b hb => ⟨hb, rfl⟩) (fun b hb => ⟨hy b hb, rfl⟩) h2
  | x :: r, Sx, S, _, hx, hy, ⟨d1, d2, S1, S2, e, s1, s2, h1, h3⟩ => ⟨d1, d2 ++ c2, S1, fun b => S2 b ∨ Sy b, by rw [e, List.append_assoc], fun b hb => ⟨(hx b (s1 b hb).1).1, fun h => h.elim (s1 b hb).2 (hx b (s1 b hb).1).2⟩,
      fun b hb => hb.elim (fun h => (hx b (s2 b h)).1) (hy b), h1, LstO.append h2 (fun b hb => ⟨.inl hb, (hx b (s2 b hb)).2⟩) (fun b hb => .inr hb) h3⟩
theorem LstO.get : ∀ {xs : List α} {S : Nat → Prop} {cells : List Value}, LstO E F w S cells xs → ∀ (i : Nat) x, xs[i]? = some x → ∃ cs : List Value, (∀ (j : Nat) v, cs[j]? = some v → cells[i * E.size + j]? = some v) ∧ E.rel F S w cs x
  | [], _, _, _, i, x, h => by simp at h
  | y :: r, S, _, ⟨c1, c2, S1, S2, e, s1, s2, h1, h2⟩, 0, x, h => by
    simp only [List.getElem?_cons_zero, Option.some.injEq] at h
    subst h
    refine ⟨c1, fun j v hv => ?_, E.st (fun b hb => ⟨hb, rfl⟩) (fun b hb => ⟨(s1 b hb).1, rfl⟩) h1⟩
    rw [e, Nat.zero_mul, Nat.zero_add, List.getElem?_append_left (List.getElem?_eq_some_iff.1 hv).1]
    exact hv
  | y :: r, S, _, ⟨c1, c2, S1, S2, e, s1, s2, h1, h2⟩, i + 1, x, h => by
    obtain ⟨cs, h3, h4⟩ := h2.get i x (by simpa using h)
    refine ⟨cs, fun j v hv => ?_, E.st (fun b hb => ⟨hb, rfl⟩) (fun b hb => ⟨s2 b hb, rfl⟩) h4⟩
    have hl := E.len h1
    rw [e, List.getElem?_append_right (by rw [hl, Nat.add_mul]; omega), hl, show (i + 1) * E.size + j - E.size = i * E.size + j from by rw [Nat.add_mul]; omega]
    exact h3 j v hv
/-- one element is replaced; its new blocks are none of the old ones -/
theorem LstO.set {y : α} {cs : List Value} {Sy : Nat → Prop} (hy : E.rel F Sy w cs y) : ∀ {xs : List α} {S S' : Nat → Prop} {cells : List Value}, (∀ b, S b → S' b ∧ ¬ Sy b) → (∀ b, Sy b → S' b) → LstO E F w S cells xs → ∀ (i : Nat), i < xs.length →
    LstO E F w S' (cells.take (i * E.size) ++ cs ++ cells.drop (i * E.size + E.size)) (xs.set i y)
  | [], _, _, _, _, _, _, i, h => by simp at h
  | x :: r, S, S', _, hs, hsy, ⟨c1, c2, S1, S2, e, s1, s2, h1, h2⟩, 0, _ => by
    have hl := E.len h1
    refine ⟨cs, c2, Sy, S2, ?_, fun b hb => ⟨hsy b hb, fun h => (hs b (s2 b h)).2 hb⟩, fun b hb => (hs b (s2 b hb)).1, hy, h2⟩
    rw [e]
    simp [← hl]
  | x :: r, S, S', _, hs, hsy, ⟨c1, c2, S1, S2, e, s1, s2, h1, h2⟩, i + 1, h => by
    have hl := E.len h1
    refine ⟨c1, _, S1, fun b => S2 b ∨ Sy b, ?_, fun b hb => ⟨(hs b (s1 b hb).1).1, fun h => h.elim (s1 b hb).2 (hs b (s1 b hb).1).2⟩, fun b hb => hb.elim (fun h => (hs b (s2 b h)).1) (hsy b), h1,
      h2.set hy (S' := fun b => S2 b ∨ Sy b) (fun b hb => ⟨.inl hb, (hs b (s2 b hb)).2⟩) (fun b hb => .inr hb) i (by simpa using h)⟩
    rw [e, show (i + 1) * E.size = c1.length + i * E.size from by rw [hl, Nat.add_mul]; omega, List.take_append, List.take_of_length_le (by omega), show c1.length + i * E.size - c1.length = i * E.size from by omega,
      show c1.length + i * E.size + E.size = c1.length + (i * E.size + E.size) from by omega, List.drop_append, List.drop_of_length_le (l := c1) (by omega)]
    simp [List.append_assoc]
theorem LstO.drop : ∀ (n : Nat) {xs : List α} {S : Nat → Prop} {cells : List Value}, LstO E F w S cells xs → LstO E F w S (cells.drop (n * E.size)) (xs.drop n)
  | 0, _, _, _, h => by simpa using h
  | n + 1, [], _, _, h => by
    have h : _ = [] := h
    rw [h]; simp; rfl
  | n + 1, x :: r, S, _, ⟨c1, c2, S1, S2, e, s1, s2, h1, h2⟩ => by
    have hl := E.len h1
    rw [e, show (n + 1) * E.size = c1.length + n * E.size from by rw [hl, Nat.add_mul]; omega, List.drop_append, List.drop_of_length_le (l := c1) (by omega), List.nil_append, show c1.length + n * E.size - c1.length = n * E.size from by omega, List.drop_succ_cons]
    exact LstO.st (fun b hb => ⟨hb, rfl⟩) (fun b hb => ⟨s2 b hb, rfl⟩) (h2.drop n)
theorem LstO.take : ∀ (n : Nat) {xs : List α} {S : Nat → Prop} {cells : List Value}, LstO E F w S cells xs → LstO E F w S (cells.take (n * E.size)) (xs.take n)
  | 0, _, _, _, h => by simp [LstO]
  | n + 1, [], _, _, h => by
    have h : _ = [] := h
    rw [h]; simp; rfl
  | n + 1, x :: r, S, _, ⟨c1, c2, S1, S2, e, s1, s2, h1, h2⟩ => by
    have hl := E.len h1
    rw [e, show (n + 1) * E.size = c1.length + n * E.size from by rw [hl, Nat.add_mul]; omega, List.take_append, List.take_of_length_le (l := c1) (by omega), show c1.length + n * E.size - c1.length = n * E.size from by omega, List.take_succ_cons]
    exact ⟨c1, _, S1, S2, rfl, s1, s2, h1, h2.take n⟩
theorem LstO.replicate {z : α} {zc : List Value} {S : Nat → Prop} (hz : E.rel F (fun _ => False) w zc z) : ∀ n, LstO E F w S (List.replicate n zc).flatten (List.replicate n z)
  | 0 => by simp [LstO]
  | n + 1 => ⟨zc, _, fun _ => False, S, by simp [List.replicate_succ], fun _ h => h.elim, fun _ h => h, hz, LstO.replicate hz n⟩
end

/-- a slice of the call's own -/
def Ow {α : Type} (E : Ep α) (T : TypeId) (F S : Nat → Prop) (w : World) (a : Option Addr) (c : Nat) (xs : List α) : Prop :=
  ∃ cells, OwR w T E.size a xs.length c cells ∧ (∀ b, b + 1 = nb a → S b) ∧ LstO E F w (fun b => S b ∧ b + 1 ≠ nb a) cells xs
section
variable {α : Type} {E : Ep α} {T : TypeId} {F F' S S' : Nat → Prop} {w w' : World} {a : Option Addr} {c : Nat} {xs : List α}
theorem Ow.st (hF : ∀ b, F b → F' b ∧ w'.heap[b]? = w.heap[b]?) (hS : ∀ b, S b → S' b ∧ w'.heap[b]? = w.heap[b]?) (h : Ow E T F S w a c xs) : Ow E T F' S' w' a c xs := by
  obtain ⟨cells, h1, h2, h3⟩ := h
  exact ⟨cells, h1.same fun b hb => (hS b (h2 b hb)).2, fun b hb => (hS b (h2 b hb)).1, h3.st hF fun b hb => ⟨⟨(hS b hb.1).1, hb.2⟩, (hS b hb.1).2⟩⟩
theorem Ow.nil : Ow E T F S w none 0 ([] : List α) := ⟨[], ⟨by simp, .inl ⟨rfl, rfl, rfl⟩⟩, fun b hb => by simp [nb] at hb, rfl⟩
theorem Ow.rd {G : Nat → Prop} (hF : ∀ b, F b → G b) (hS : ∀ b, S b → G b) (h : Ow E T F S w a c xs) : Sl E.rp G w a c xs := by
  obtain ⟨cells, h1, h2, h3⟩ := h
  rcases h1.2 with ⟨rfl, hn, rfl⟩ | ⟨g, o, cur, rfl, hg, hnc, hc, hsz, htk⟩
  · exact ⟨by omega, by simp, .inl ⟨List.eq_nil_of_length_eq_zero hn, fun _ => rfl⟩⟩
  · refine ⟨hnc, hc, .inr ⟨g, o, rfl, hS g (h2 g rfl), fun i x hx => ?_⟩⟩
    obtain ⟨cs, h5, h6⟩ := h3.get i x hx
    refine ⟨cs, fun j v hv => ?_, E.rd hF (fun b hb => hS b hb.1) h6⟩
    have h7 := h5 j v hv
    rw [← htk, List.getElem?_take] at h7
    split at h7
    · rw [cell_of_row w g _ cur T (0, 0) hg, E.rps]
      rw [List.getElem?_drop] at h7
      simpa [Nat.add_assoc] using h7
    · cases h7
end

def Ep.own {α : Type} (E : Ep α) (T : TypeId) : Ep (List α) where
  size := 1
  rel F S w cs x := ∃ a c, cs = [.slice a x.length c] ∧ Ow E T F S w a c x
  st hF hS := fun ⟨a, c, e, h⟩ => ⟨a, c, e, h.st hF hS⟩
  len := fun ⟨_, _, e, _⟩ => by rw [e]; rfl
  one := fun ⟨_, _, e, _⟩ => by rw [e]; simp [Value.oneCell']
  rp := Rp.sl E.rp
  rps := rfl
  rd hF hS := fun ⟨a, c, e, h⟩ => ⟨a, c, e, h.rd hF hS⟩

/-- no memory at all -/
def Ep.Pu {α : Type} (E : Ep α) : Prop := ∀ {G F S : Nat → Prop} {w w' : World} {cs : List Value} {x : α}, E.rp.rel G w cs x → E.rel F S w' cs x
theorem pu_int (k : IntKind) : (Ep.int k).Pu := fun h => h
theorem pu_bool : Ep.bool.Pu := fun h => h
theorem pu_str : Ep.str.Pu := fun h => h
theorem pu_pair {α β : Type} {A : Ep α} {B : Ep β} (hA : A.Pu) (hB : B.Pu) : (Ep.pair A B).Pu := fun ⟨c1, c2, e, h1, h2⟩ => ⟨c1, c2, fun _ => False, fun _ => False, e, fun _ h => h.elim, fun _ h => h.elim, hA h1, hB h2⟩
theorem pu_iso {α β : Type} {A : Ep α} (f : β → α) (hA : A.Pu) : (Ep.iso A f).Pu := fun h => hA h
/-- nothing that is only read -/
def Ep.No {α : Type} (E : Ep α) : Prop := ∀ {F F' S : Nat → Prop} {w : World} {cs : List Value} {x : α}, E.rel F S w cs x → E.rel F' S w cs x
theorem no_pu {α : Type} {E : Ep α} (h : E.Pu) : E.No := fun hr => h (E.rd (G := fun _ => True) (fun _ _ => trivial) (fun _ _ => trivial) hr)
theorem no_int (k : IntKind) : (Ep.int k).No := fun h => h
theorem no_bool : Ep.bool.No := fun h => h
theorem no_str : Ep.str.No := fun h => h
theorem no_pair {α β : Type} {A : Ep α} {B : Ep β} (hA : A.No) (hB : B.No) : (Ep.pair A B).No := fun ⟨c1, c2, S1, S2, e, s1, s2, h1, h2⟩ => ⟨c1, c2, S1, S2, e, s1, s2, hA h1, hB h2⟩
theorem no_iso {α β : Type} {A : Ep α} (f : β → α) (hA : A.No) : (Ep.iso A f).No := fun h => hA h
theorem LstO.no {α : Type} {E : Ep α} (hE : E.No) {F F' : Nat → Prop} {w : World} : ∀ {xs : List α} {S : Nat → Prop} {cells : List Value}, LstO E F w S cells xs → LstO E F' w S cells xs
  | [], _, _, h => h
  | _ :: _, _, _, ⟨c1, c2, S1, S2, e, s1, s2, h1, h2⟩ => ⟨c1, c2, S1, S2, e, s1, s2, hE h1, h2.no hE⟩
theorem Ow.no {α : Type} {E : Ep α} (hE : E.No) {T : TypeId} {F F' S : Nat → Prop} {w : World} {a : Option Addr} {c : Nat} {xs : List α} (h : Ow E T F S w a c xs) : Ow E T F' S w a c xs := by
  obtain ⟨cells, h1, h2, h3⟩ := h
  exact ⟨cells, h1, h2, h3.no hE⟩
theorem no_own {α : Type} {E : Ep α} (hE : E.No) (T : TypeId) : (Ep.own E T).No := fun ⟨a, c, e, h⟩ => ⟨a, c, e, h.no hE⟩

abbrev Oc {α : Type} (E : Ep α) (T : TypeId) (κ : Col) (w : World) (i : Nat) (a : Option Addr) (c : Nat) (xs : List α) : Prop := Ow E T (Zl κ w [0]) (Zl κ w [i]) w a c xs
section
variable {α : Type} {E : Ep α} {T : TypeId} {X : List Nat} {κ κ' : Col} {w w' : World} {i j : Nat} {a : Option Addr} {c : Nat} {xs : List α}
theorem Ow.stp (h : Oc E T κ w i a c xs) (s : Stp X κ w κ' w') (h0 : nin X 0 = true) (hi : nin X i = true) : Oc E T κ' w' i a c xs := h.st (Zl.st s (nin1 h0)) (Zl.st s (nin1 hi))
theorem Ow.rdc (h : Oc E T κ w i a c xs) : Rd E.rp κ w i a c xs := h.rd (fun b hb => Zl.mono (by simp) hb) (fun b hb => Zl.mono (by simp) hb)
theorem Ow.map (h : Oc E T κ w i a c xs) (g : Nat → Nat) (h0 : g 0 = 0) (hi : g i = j) : Oc E T (fun b => g (κ b)) w j a c xs := h.st (Zl.map g (map1 h0)) (Zl.map g (map1 hi))
theorem Ow.len_le (h : Oc E T κ w i a c xs) : (xs.length : Int) ≤ 9223372036854775807 := h.rdc.len_le
/-- an element of an own slice whose elements are only read -/
theorem Ow.gZ {β : Type} {E : Rp β} {xs : List (List β)} {x : List β} {ix : Int} (h : Oc (Ep.fz (Rp.sl E)) T κ w i a c xs) (hx : idx xs ix = some x) :
    ∃ a' c', Rd E κ w 0 a' c' x ∧ ∀ w', Ag [0, i] κ w w' → w'.cell? (aAt a (ix.toNat * 1)) = some (.slice a' x.length c') := by
  have hr := h.rdc
  obtain ⟨cells, h1, h2, h3⟩ := h
  obtain ⟨i0, i1, i2⟩ := idx_ok hx
  obtain ⟨cs, h4, a', c', e, h5⟩ := h3.get _ _ i2
  subst e
  refine ⟨a', c', Sl.st (fun b hb => ⟨Zl.mono (by simp) hb, rfl⟩) h5, fun w' hw' => ?_⟩
  rcases h1.2 with ⟨_, hn, _⟩ | ⟨g, o, cur, rfl, hg, hnc, hc, hsz, htk⟩
  · omega
  · have h6 := h4 0 _ rfl
    rw [← htk, List.getElem?_take] at h6
    split at h6
    · have hb : w'.heap[g]? = w.heap[g]? := hw' g (Zl.mono (by simp) (h2 g rfl))
      show w'.cell? ((⟨g, o, none⟩ : Addr).add _) = _
      rw [addb, cell_of_row w' g _ cur T (0, 0) (hb.trans hg)]
      rw [List.getElem?_drop] at h6
      have he : (Ep.fz (Rp.sl E)).size = 1 := rfl
      rw [he] at h6
      simpa using h6
    · cases h6
end

/-! renaming of colours -/
def mp : List (Nat × Nat) → Nat → Nat → Nat
  | [], d, c => bif Nat.beq c 0 then 0 else d
  | (a, b) :: l, d, c => bif Nat.beq a c then b else mp l d c
def vs2 : List (Nat × Nat) → Bool
  | [] => true
  | (_, b) :: l => bif Nat.ble 2 b then vs2 l else false
theorem mp_le {d : Nat} (hd : d ≤ 1) : ∀ (l : List (Nat × Nat)) (c : Nat), c ∉ ks l → mp l d c ≤ 1
  | [], c, _ => by
    simp only [mp]
    cases Nat.beq c 0 <;> simp <;> omega
  | (a, b) :: l, c, h => by
    simp only [mp]
    simp only [ks, List.mem_cons, not_or] at h
    cases e : Nat.beq a c with
    | true => exact absurd (Nat.eq_of_beq_eq_true e).symm h.1
    | false => exact mp_le hd l c h.2
theorem mp_zero : ∀ (l : List (Nat × Nat)) (c : Nat), vs2 l = true → mp l 1 c = 0 → c = 0
  | [], c, _, h => by
    simp only [mp] at h
    cases e : Nat.beq c 0 with
    | true => exact Nat.eq_of_beq_eq_true e
    | false => rw [e] at h; cases h
  | (a, b) :: l, c, hv, h => by
    simp only [mp] at h
    simp only [vs2] at hv
    cases e2 : Nat.ble 2 b with
    | false => rw [e2] at hv; cases hv
    | true =>
      rw [e2] at hv
      cases e : Nat.beq a c with
      | true =>
        rw [e] at h
        have := Nat.ble_eq.mp e2
        simp only [cond_true] at h
        omega
      | false => rw [e] at h; exact mp_zero l c hv h
/-- the colours behind a call -/
def mix (κ : Col) (n : Nat) (m : Nat → Nat) (κ1 : Col) (base : Nat) : Col := fun b => bif (Nat.blt b n && Nat.ble (m (κ b)) 1) then κ b else bif Nat.beq (κ1 b) 0 then 0 else base + κ1 b
section
variable {κ κ1 : Col} {w w1 : World} {base d : Nat} {l : List (Nat × Nat)}
theorem mix_old {m : Nat → Nat} {n b : Nat} (hb : b < n) (hm : m (κ b) ≤ 1) : mix κ n m κ1 base b = κ b := by
  have h1 : Nat.blt b n = true := Nat.ble_eq.mpr hb
  have h2 : Nat.ble (m (κ b)) 1 = true := Nat.ble_eq.mpr hm
  simp [mix, h1, h2]
theorem mix_new {m : Nat → Nat} {b : Nat} (e : Ent (fun b => m (κ b)) w κ1 w1) (h2 : 2 ≤ κ1 b) : mix κ w.heap.size m κ1 base b = base + κ1 b := by
  have h3 : (Nat.blt b w.heap.size && Nat.ble (m (κ b)) 1) = false := by
    cases h4 : Nat.blt b w.heap.size with
    | false => rfl
    | true =>
      cases h5 : Nat.ble (m (κ b)) 1 with
      | false => rfl
      | true =>
        have h6 : κ1 b = m (κ b) := (e.keep b (Nat.ble_eq.mp h4) (Nat.ble_eq.mp h5)).1
        have h7 := Nat.ble_eq.mp h5
        omega
  have h8 : Nat.beq (κ1 b) 0 = false := by
    cases h9 : Nat.beq (κ1 b) 0 with
    | false => rfl
    | true => have := Nat.eq_of_beq_eq_true h9; omega
  simp [mix, h3, h8]
theorem Stp.mix (e : Ent (fun b => mp l d (κ b)) w κ1 w1) (base : Nat) (hd : Nat.ble d 1 = true) : Stp (ks l) κ w (mix κ w.heap.size (mp l d) κ1 base) w1 :=
  ⟨e.os, e.tape, e.output, e.size, fun b hb hc => by
    have h1 : mp l d (κ b) ≤ 1 := mp_le (Nat.ble_eq.mp hd) l _ hc
    exact ⟨mix_old hb h1, (e.keep b hb h1).2⟩⟩
theorem Ow.mix {α : Type} {E : Ep α} {T : TypeId} {k j : Nat} {a : Option Addr} {c : Nat} {xs : List α} (h : Oc E T κ1 w1 k a c xs) (hE : E.No) (e : Ent (fun b => mp l d (κ b)) w κ1 w1) (hk : Nat.ble 2 k = true) (hj : base + k = j) :
    Oc E T (Wk.mix κ w.heap.size (mp l d) κ1 base) w1 j a c xs :=
  (h.no hE (F' := Zl (Wk.mix κ w.heap.size (mp l d) κ1 base) w1 [0])).st (fun b hb => ⟨hb, rfl⟩) fun b hb => by
    have h1 : κ1 b = k := by simpa [Zl] using hb.2
    refine ⟨⟨hb.1, ?_⟩, rfl⟩
    rw [mix_new e (by rw [h1]; exact Nat.ble_eq.mp hk), h1, hj]
    simp
theorem Sl.mix0 {α : Type} {E : Rp α} {a : Option Addr} {c : Nat} {xs : List α} (h : Rd E κ1 w1 0 a c xs) (e : Ent (fun b => mp l 1 (κ b)) w κ1 w1) (hv : vs2 l = true) :
    Rd E (Wk.mix κ w.heap.size (mp l 1) κ1 base) w1 0 a c xs :=
  Sl.st (fun b hb => by
    have h1 : κ1 b = 0 := by simpa [Zl] using hb.2
    refine ⟨⟨hb.1, ?_⟩, rfl⟩
    have : Wk.mix κ w.heap.size (mp l 1) κ1 base b = 0 := by
      unfold Wk.mix
      cases h4 : (Nat.blt b w.heap.size && Nat.ble (mp l 1 (κ b)) 1) with
      | false => simp [h1]
      | true =>
        rw [Bool.and_eq_true] at h4
        have h6 : κ1 b = mp l 1 (κ b) := (e.keep b (Nat.ble_eq.mp h4.1) (Nat.ble_eq.mp h4.2)).1
        exact mp_zero l _ hv (h6.symm.trans h1)
    rw [this]; simp) h
end

theorem m_z {c : Nat} (h : c = 0) : c ∈ [0] := by simp [h]
theorem m_zz {c : Nat} (h : c = 0) : c ∈ [0, 0] := by simp [h]
theorem z_m {c : Nat} (h : c ∈ [0]) : c = 0 := by simpa using h
theorem zz_m {c : Nat} (h : c ∈ [0, 0]) : c = 0 := by simpa using h
/-- the colours behind a call, their making forgotten -/
theorem Ent.mixed {κ κ1 : Col} {w w1 : World} {d : Nat} {l : List (Nat × Nat)} (e : Ent (fun b => mp l d (κ b)) w κ1 w1) (base : Nat) (hd : Nat.ble d 1 = true) :
    ∃ κ', Stp (ks l) κ w κ' w1 ∧ ∀ b, 2 ≤ κ1 b → κ' b = base + κ1 b := ⟨_, Stp.mix e base hd, fun _ h => mix_new e h⟩
theorem Ent.mixed0 {κ κ1 : Col} {w w1 : World} {l : List (Nat × Nat)} (e : Ent (fun b => mp l 1 (κ b)) w κ1 w1) (base : Nat) (hv : vs2 l = true) :
    ∃ κ', Stp (ks l) κ w κ' w1 ∧ (∀ b, 2 ≤ κ1 b → κ' b = base + κ1 b) ∧ ∀ b, b < w1.heap.size → κ1 b = 0 → κ' b = 0 := ⟨_, Stp.mix e base rfl, fun _ h => mix_new e h, fun b hb h => by
  have h2 := (Sl.mix0 (E := Rp.bool) (a := some ⟨b, 0, none⟩) (c := 0) (xs := []) (base := base) ⟨by simp, by simp, .inl ⟨rfl, fun h => by cases h⟩⟩ e hv)
  have h4 : Zl κ1 w1 [0, 0] b := ⟨hb, by simp [h]⟩
  unfold Wk.mix
  cases h4 : (Nat.blt b w.heap.size && Nat.ble (mp l 1 (κ b)) 1) with
  | false => simp [h]
  | true =>
    rw [Bool.and_eq_true] at h4
    have h6 : κ1 b = mp l 1 (κ b) := (e.keep b (Nat.ble_eq.mp h4.1) (Nat.ble_eq.mp h4.2)).1
    exact mp_zero l _ hv (h6.symm.trans h)⟩
section
variable {κ' κ1 : Col} {w1 : World} {base k j : Nat}
theorem Ow.mx {α : Type} {E : Ep α} {T : TypeId} {a : Option Addr} {c : Nat} {xs : List α} (h : Oc E T κ1 w1 k a c xs) (hE : E.No) (hm : ∀ b, 2 ≤ κ1 b → κ' b = base + κ1 b) (hk : Nat.ble 2 k = true) (hj : base + k = j) : Oc E T κ' w1 j a c xs :=
  (h.no hE (F' := Zl κ' w1 [0])).st (fun b hb => ⟨hb, rfl⟩) fun b hb => by
    have h1 : κ1 b = k := by simpa [Zl] using hb.2
    refine ⟨⟨hb.1, ?_⟩, rfl⟩
    rw [hm b (by rw [h1]; exact Nat.ble_eq.mp hk), h1, hj]
    simp
/-- with parts that are only read -/
theorem Ow.mxz {α : Type} {E : Ep α} {T : TypeId} {a : Option Addr} {c : Nat} {xs : List α} (h : Oc E T κ1 w1 k a c xs) (hz : ∀ b, b < w1.heap.size → κ1 b = 0 → κ' b = 0) (hm : ∀ b, 2 ≤ κ1 b → κ' b = base + κ1 b) (hk : Nat.ble 2 k = true) (hj : base + k = j) : Oc E T κ' w1 j a c xs :=
  h.st (fun b hb => ⟨⟨hb.1, m_z (hz b hb.1 (z_m hb.2))⟩, rfl⟩) fun b hb => by
    have h1 : κ1 b = k := by simpa [Zl] using hb.2
    refine ⟨⟨hb.1, ?_⟩, rfl⟩
    rw [hm b (by rw [h1]; exact Nat.ble_eq.mp hk), h1, hj]
    simp
theorem Sl.mx {α : Type} {E : Rp α} {a : Option Addr} {c : Nat} {xs : List α} (h : Rd E κ1 w1 0 a c xs) (hz : ∀ b, b < w1.heap.size → κ1 b = 0 → κ' b = 0) : Rd E κ' w1 0 a c xs :=
  Sl.st (fun b hb => ⟨⟨hb.1, m_zz (hz b hb.1 (zz_m hb.2))⟩, rfl⟩) h
end

/-! freezing -/
def fzc (κ : Col) (i : Nat) : Col := fun b => bif Nat.beq (κ b) i then 0 else κ b
theorem fzc_of {κ : Col} {i b : Nat} (h : κ b = i) : fzc κ i b = 0 := by simp [fzc, h]
theorem Stp.fz (κ : Col) (w : World) (i : Nat) : Stp [i] κ w (fzc κ i) w := ⟨rfl, rfl, rfl, Nat.le_refl _, fun b _ hc => ⟨by
  have : Nat.beq (κ b) i = false := by
    cases e : Nat.beq (κ b) i with
    | false => rfl
    | true => exact absurd (by simp [Nat.eq_of_beq_eq_true e]) hc
  simp [fzc, this], rfl⟩⟩
theorem Zl.fz {κ : Col} {w : World} {i : Nat} : ∀ b, Zl κ w [0, i] b → Zl (fzc κ i) w [0, 0] b ∧ w.heap[b]? = w.heap[b]? := fun b hb => by
  refine ⟨⟨hb.1, ?_⟩, rfl⟩
  have : κ b = 0 ∨ κ b = i := by simpa [Zl] using hb.2
  rcases this with h | h
  · have : fzc κ i b = 0 := by
      unfold fzc
      cases Nat.beq (κ b) i <;> simp [h]
    simp [this]
  · simp [fzc_of h]
theorem Sl.frz {α : Type} {E : Rp α} {κ : Col} {w : World} {i : Nat} {a : Option Addr} {c : Nat} {xs : List α} (h : Rd E κ w i a c xs) : Rd E (fzc κ i) w 0 a c xs := Sl.st Zl.fz h
theorem fz_ex (κ : Col) (w : World) (i : Nat) : ∃ κ', Stp [i] κ w κ' w ∧ ∀ b, Zl κ w [0, i] b → Zl κ' w [0, 0] b ∧ w.heap[b]? = w.heap[b]? := ⟨_, Stp.fz κ w i, fun b hb => Zl.fz b hb⟩
theorem fz_exG (κ : Col) (w : World) (i : Nat) : ∃ κ', Stp [i] κ w κ' w ∧ (∀ b, Zl κ w [0, i] b → Zl κ' w [0, 0] b ∧ w.heap[b]? = w.heap[b]?) ∧ Gst 0 κ w κ' w := ⟨_, Stp.fz κ w i, fun b hb => Zl.fz b hb, Nat.le_refl _, fun _ _ => rfl, fun b _ => by
  unfold fzc
  cases Nat.beq (κ b) i
  · exact .inl rfl
  · exact .inr rfl⟩
theorem Ow.frz {α : Type} {E : Ep α} {T : TypeId} {κ : Col} {w : World} {i : Nat} {a : Option Addr} {c : Nat} {xs : List α} (h : Oc E T κ w i a c xs) : Rd E.rp (fzc κ i) w 0 a c xs := h.rdc.frz

/-! ### boxes -/
/-- a box: a block whose cells are known, whole -/
def Bx (w : World) (b : Nat) (T : TypeId) (cs : List Value) : Prop := w.heap[b]? = some (.cells cs.toArray T (0, 0))
theorem Bx.lt {w : World} {b : Nat} {T : TypeId} {cs : List Value} (h : Bx w b T cs) : b < w.heap.size := (Array.getElem?_eq_some_iff.1 h).1
theorem Bx.cell {w : World} {b : Nat} {T : TypeId} {cs : List Value} (h : Bx w b T cs) {j : Nat} {v : Value} (hv : cs[j]? = some v) : w.cell? ((⟨b, 0, none⟩ : Addr).add j) = some v := by
  have hb : w.heap[b]? = some (.cells cs.toArray T (0, 0)) := h
  rw [addb]
  simp [World.cell?, hb, hv]
structure Bc (κ : Col) (w : World) (i : Nat) (b : Nat) (T : TypeId) (cs : List Value) : Prop where
  bx : Bx w b T cs
  col : κ b = i
section
variable {X : List Nat} {κ κ' κ1 : Col} {w w' w1 : World} {i j b : Nat} {T : TypeId} {cs : List Value}
theorem Bc.stp (h : Bc κ w i b T cs) (s : Stp X κ w κ' w') (h0 : nin X 0 = true) (hi : nin X i = true) : Bc κ' w' i b T cs := by
  obtain ⟨h1, h2⟩ := s.keep b h.bx.lt (by rw [h.col]; exact nin_true.1 hi)
  exact ⟨h2.trans h.bx, h1.trans h.col⟩
theorem Bc.map (h : Bc κ w i b T cs) (g : Nat → Nat) (h0 : g 0 = 0) (hi : g i = j) : Bc (fun b => g (κ b)) w j b T cs := ⟨h.bx, by show g (κ b) = j; rw [h.col, hi]⟩
theorem Bc.mix {l : List (Nat × Nat)} {d base k : Nat} (h : Bc κ1 w1 k b T cs) (e : Ent (fun b => mp l d (κ b)) w κ1 w1) (hk : Nat.ble 2 k = true) (hj : base + k = j) : Bc (Wk.mix κ w.heap.size (mp l d) κ1 base) w1 j b T cs :=
  ⟨h.bx, by rw [mix_new e (by rw [h.col]; exact Nat.ble_eq.mp hk), h.col, hj]⟩
theorem Bc.frz (h : Bc κ w i b T cs) : Bc (fzc κ i) w 0 b T cs := ⟨h.bx, fzc_of h.col⟩
theorem Bc.mx {base k : Nat} (h : Bc κ1 w1 k b T cs) (hm : ∀ b, 2 ≤ κ1 b → κ' b = base + κ1 b) (hk : Nat.ble 2 k = true) (hj : base + k = j) : Bc κ' w1 j b T cs :=
  ⟨h.bx, by rw [hm b (by rw [h.col]; exact Nat.ble_eq.mp hk), h.col, hj]⟩
theorem Bc.cell (h : Bc κ w i b T cs) {v : Value} (j : Nat) (hv : cs[j]? = some v) : ∀ w', Ag [i] κ w w' → w'.cell? ((⟨b, 0, none⟩ : Addr).add j) = some v := fun w' hw' =>
  (show Bx w' b T cs from (hw' b ⟨h.bx.lt, by rw [h.col]; simp⟩).trans h.bx).cell hv
/-- at a place in the box -/
theorem Bc.ld (h : Bc κ w i b T cs) {p : Addr} {v : Value} (off : Nat) (hp : p = ⟨b, off, none⟩) (hv : cs[off]? = some v) : ∀ w', Ag [i] κ w w' → w'.cell? p = some v := fun w' hw' => by
  have := h.cell off hv w' hw'
  rw [addb, Nat.zero_add] at this
  rw [hp]; exact this
theorem Bc.lds (h : Bc κ w i b T cs) {p : Addr} (off k : Nat) (hp : p = ⟨b, off, none⟩) : ∀ w', Ag [i] κ w w' → ∀ (j : Nat) v, ((cs.drop off).take k)[j]? = some v → w'.cell? (p.add j) = some v := fun w' hw' j v hv => by
  have h2 : cs[off + j]? = some v := by
    rw [List.getElem?_take] at hv
    split at hv
    · simpa using hv
    · cases hv
  rw [hp, addb]
  exact h.ld (off + j) rfl h2 w' hw'
theorem Bc.cast {cs' : List Value} (h : Bc κ w i b T cs) (e : cs = cs') : Bc κ w i b T cs' := e ▸ h
theorem Bc.cell0 (h : Bc κ w i b T cs) {v : Value} (hv : cs[0]? = some v) : ∀ w', Ag [i] κ w w' → w'.cell? ⟨b, 0, none⟩ = some v := fun w' hw' => by
  have := h.cell 0 hv w' hw'
  rwa [addb] at this
theorem Bc.cells (h : Bc κ w i b T cs) : ∀ w', Ag [i] κ w w' → ∀ (j : Nat) v, cs[j]? = some v → w'.cell? ((⟨b, 0, none⟩ : Addr).add j) = some v := fun w' hw' j v hv => h.cell j hv w' hw'
theorem Bc.part (h : Bc κ w i b T cs) (off k : Nat) : ∀ w', Ag [i] κ w w' → ∀ (j : Nat) v, ((cs.drop off).take k)[j]? = some v → w'.cell? (((⟨b, 0, none⟩ : Addr).add off).add j) = some v := fun w' hw' j v hv => by
  have h2 : cs[off + j]? = some v := by
    rw [List.getElem?_take] at hv
    split at hv
    · simpa using hv
    · cases hv
  have := h.cell (off + j) h2 w' hw'
  rw [Addr.add_add]
  rw [addb] at this
  rwa [Nat.add_assoc]
end
end Go.Wk
