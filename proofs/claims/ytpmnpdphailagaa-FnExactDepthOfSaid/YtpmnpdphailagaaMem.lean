/- How data lie in memory: readings that last, boxes, slices; the steps that read them and that make memory; calls. -/
import Derived.Test.YtpmnpdphailagaaOps
set_option linter.unusedVariables false
set_option linter.unusedSimpArgs false
namespace Go.Wk
open Go

/-- the blocks that w has, but for those of M (the ones that the call still writes; a block's number and one) -/
def Fz (M : List Nat) (w : World) : Nat → Prop := fun b => b < w.heap.size ∧ b + 1 ∉ M
abbrev Cw (M : List Nat) (w : World) : World → Prop := Fr (Fz M w) w
theorem Cw.refl {M : List Nat} (w : World) : Cw M w w := Fr.refl _ _
theorem Cw.drew {M : List Nat} (w : World) : Cw M w { w with drawn := w.drawn + 1 } := ⟨rfl, rfl, rfl, Nat.le_refl _, fun _ _ => rfl⟩
theorem Cw.ext {M : List Nat} {w w' w'' : World} (h : Cw M w w') (e : Ext w' w'') : Cw M w w'' :=
  Fr.trans h (Fr.mono e fun _ hb => Nat.lt_of_lt_of_le hb.1 h.size)
theorem Ext.refl (w : World) : Ext w w := Fr.refl _ _
theorem Ext.cw {M : List Nat} {w w' : World} (h : Ext w w') : Cw M w w' := Fr.mono h fun _ hb => hb.1
theorem Cw.toExt {w w' : World} (h : Cw [] w w') : Ext w w' := Fr.mono h fun _ hb => ⟨hb, by simp⟩

structure Rp (α : Type) where
  size : Nat
  rel : (Nat → Prop) → World → List Value → α → Prop
  st : ∀ {S S' : Nat → Prop} {w w' : World} {cs : List Value} {x : α}, (∀ b, S b → S' b ∧ w'.heap[b]? = w.heap[b]?) → rel S w cs x → rel S' w' cs x
  len : ∀ {S : Nat → Prop} {w : World} {cs : List Value} {x : α}, rel S w cs x → cs.length = size
  one : ∀ {S : Nat → Prop} {w : World} {cs : List Value} {x : α}, rel S w cs x → ∀ v ∈ cs, v.oneCell' = true

def Rp.int (k : IntKind) : Rp Int where
  size := 1
  rel _ _ cs x := cs = [.int k x]
  st _ h := h
  len h := by rw [h]; rfl
  one h := by rw [h]; simp [Value.oneCell']
abbrev Rp.i64 : Rp Int := Rp.int .i64
def Rp.bool : Rp Bool where
  size := 1
  rel _ _ cs x := cs = [.bool x]
  st _ h := h
  len h := by rw [h]; rfl
  one h := by rw [h]; simp [Value.oneCell']
def Rp.str : Rp ByteArray where
  size := 1
  rel _ _ cs x := cs = [.string x]
  st _ h := h
  len h := by rw [h]; rfl
  one h := by rw [h]; simp [Value.oneCell']

def Rp.pair {α β : Type} (A : Rp α) (B : Rp β) : Rp (α × β) where
  size := A.size + B.size
  rel S w cs x := ∃ c1 c2, cs = c1 ++ c2 ∧ A.rel S w c1 x.1 ∧ B.rel S w c2 x.2
  st h := fun ⟨c1, c2, e, h1, h2⟩ => ⟨c1, c2, e, A.st h h1, B.st h h2⟩
  len := fun ⟨c1, c2, e, h1, h2⟩ => by rw [e, List.length_append, A.len h1, B.len h2]
  one := fun ⟨c1, c2, e, h1, h2⟩ v hv => by
    rw [e] at hv
    rcases List.mem_append.1 hv with h | h
    · exact A.one h1 v h
    · exact B.one h2 v h
def Rp.iso {α β : Type} (A : Rp α) (f : β → α) : Rp β where
  size := A.size
  rel S w cs x := A.rel S w cs (f x)
  st h := A.st h
  len h := A.len h
  one h := A.one h

def idx {α : Type} (xs : List α) (i : Int) : Option α := if 0 ≤ i then xs[i.toNat]? else none
theorem idx_ok {α : Type} {xs : List α} {i : Int} {x : α} (h : idx xs i = some x) : 0 ≤ i ∧ i < xs.length ∧ xs[i.toNat]? = some x := by
  unfold idx at h
  split at h
  · rename_i h0
    have := (List.getElem?_eq_some_iff.1 h).1
    exact ⟨h0, by omega, h⟩
  · cases h

def Sl {α : Type} (E : Rp α) (S : Nat → Prop) (w : World) (a : Option Addr) (c : Nat) (xs : List α) : Prop :=
  xs.length ≤ c ∧ c ≤ maxLen ∧ ((xs = [] ∧ (a = none → c = 0)) ∨ ∃ b o, a = some ⟨b, o, none⟩ ∧ S b ∧
    ∀ (i : Nat) x, xs[i]? = some x → ∃ cs : List Value, (∀ (j : Nat) v, cs[j]? = some v → w.cell? ⟨b, o + i * E.size + j, none⟩ = some v) ∧ E.rel S w cs x)

theorem Sl.st {α : Type} {E : Rp α} {S S' : Nat → Prop} {w w' : World} {a : Option Addr} {c : Nat} {xs : List α} (h : ∀ b, S b → S' b ∧ w'.heap[b]? = w.heap[b]?) (hs : Sl E S w a c xs) : Sl E S' w' a c xs := by
  obtain ⟨h1, h2, h3⟩ := hs
  refine ⟨h1, h2, h3.imp id fun ⟨b, o, e, hb, hc⟩ => ⟨b, o, e, (h b hb).1, fun i x hx => ?_⟩⟩
  obtain ⟨cs, h4, h5⟩ := hc i x hx
  exact ⟨cs, fun j v hv => by rw [World.cell?_of_block (w := w) (h b hb).2]; exact h4 j v hv, E.st h h5⟩

theorem Sl.fr {α : Type} {E : Rp α} {M : List Nat} {w w' : World} {a : Option Addr} {c : Nat} {xs : List α} (hs : Sl E (Fz M w) w a c xs) (h : Cw M w w') : Sl E (Fz M w') w' a c xs :=
  hs.st fun b hb => ⟨⟨Nat.lt_of_lt_of_le hb.1 h.size, hb.2⟩, h.block b hb⟩
/-- for a callee: all blocks that there are -/
theorem Sl.all {α : Type} {E : Rp α} {M : List Nat} {w w' : World} {a : Option Addr} {c : Nat} {xs : List α} (hs : Sl E (Fz M w) w a c xs) (h : Cw M w w') : Sl E (Fz [] w') w' a c xs :=
  hs.st fun b hb => ⟨⟨Nat.lt_of_lt_of_le hb.1 h.size, by simp⟩, h.block b hb⟩
theorem Rp.fr {α : Type} {E : Rp α} {M : List Nat} {w w' : World} {cs : List Value} {x : α} (hs : E.rel (Fz M w) w cs x) (h : Cw M w w') : E.rel (Fz M w') w' cs x :=
  E.st (fun b hb => ⟨⟨Nat.lt_of_lt_of_le hb.1 h.size, hb.2⟩, h.block b hb⟩) hs

def Rp.sl {α : Type} (E : Rp α) : Rp (List α) where
  size := 1
  rel S w cs xs := ∃ a c, cs = [.slice a xs.length c] ∧ Sl E S w a c xs
  st h := fun ⟨a, c, e, hs⟩ => ⟨a, c, e, hs.st h⟩
  len := fun ⟨_, _, e, _⟩ => by rw [e]; rfl
  one := fun ⟨_, _, e, _⟩ => by rw [e]; simp [Value.oneCell']

def aAt (a : Option Addr) (k : Nat) : Addr := match a with
  | some p => p.add k
  | none => ⟨0, 0, none⟩

theorem Addr.add_add (b o j k : Nat) : ((⟨b, o, none⟩ : Addr).add j).add k = ⟨b, o + j + k, none⟩ := by
  unfold Addr.add; split <;> split <;> simp_all <;> omega

theorem Sl.base {α : Type} {E : Rp α} {S : Nat → Prop} {w : World} {a : Option Addr} {c : Nat} {xs : List α} (hs : Sl E S w a c xs) {i : Int} {x : α} (h : idx xs i = some x) : 0 ≤ i ∧ i < xs.length ∧ ∃ p, a = some p := by
  obtain ⟨h0, h1, h2⟩ := idx_ok h
  refine ⟨h0, h1, ?_⟩
  rcases hs.2.2 with ⟨e, _⟩ | ⟨b, o, e, _⟩
  · subst e; simp at h1; omega
  · exact ⟨_, e⟩

theorem Sl.get {α : Type} {E : Rp α} {S : Nat → Prop} {w : World} {a : Option Addr} {c : Nat} {xs : List α} (hs : Sl E S w a c xs) {i : Int} {x : α} (h : idx xs i = some x) :
    ∃ cs : List Value, E.rel S w cs x ∧ ∀ w', Fr S w w' → ∀ (j : Nat) v, cs[j]? = some v → w'.cell? ((aAt a (i.toNat * E.size)).add j) = some v := by
  obtain ⟨h0, h1, h2⟩ := idx_ok h
  rcases hs.2.2 with ⟨e, _⟩ | ⟨b, o, e, hb, hc⟩
  · subst e; simp at h1; omega
  · obtain ⟨cs, h3, h4⟩ := hc _ _ h2
    refine ⟨cs, h4, fun w' hw' j v hv => ?_⟩
    subst e
    simp only [aAt]
    rw [Addr.add_add, hw'.cell (by exact hb)]
    exact h3 j v hv

theorem Sl.getInt {k : IntKind} {S : Nat → Prop} {w : World} {a : Option Addr} {c : Nat} {xs : List Int} (hs : Sl (Rp.int k) S w a c xs) {i : Int} {x : Int} (h : idx xs i = some x) :
    ∀ w', Fr S w w' → w'.cell? (aAt a (i.toNat * 1)) = some (.int k x) := by
  obtain ⟨cs, h1, h2⟩ := hs.get h
  have h1 : cs = [.int k x] := h1
  subst h1
  intro w' hw'
  exact h2 w' hw' 0 _ rfl
theorem Sl.getBool {S : Nat → Prop} {w : World} {a : Option Addr} {c : Nat} {xs : List Bool} (hs : Sl Rp.bool S w a c xs) {i : Int} {x : Bool} (h : idx xs i = some x) :
    ∀ w', Fr S w w' → w'.cell? (aAt a (i.toNat * 1)) = some (.bool x) := by
  obtain ⟨cs, h1, h2⟩ := hs.get h
  have h1 : cs = [.bool x] := h1
  subst h1
  intro w' hw'
  exact h2 w' hw' 0 _ rfl
theorem Sl.getSl {α : Type} {E : Rp α} {S : Nat → Prop} {w : World} {a : Option Addr} {c : Nat} {xs : List (List α)} (hs : Sl (Rp.sl E) S w a c xs) {i : Int} {x : List α} (h : idx xs i = some x) :
    ∃ a' c', Sl E S w a' c' x ∧ ∀ w', Fr S w w' → w'.cell? (aAt a (i.toNat * 1)) = some (.slice a' x.length c') := by
  obtain ⟨cs, ⟨a', c', e, h1⟩, h2⟩ := hs.get h
  subst e
  exact ⟨a', c', h1, fun w' hw' => h2 w' hw' 0 _ rfl⟩

/-- a box: a block whose cells are known, whole -/
def Bx (w : World) (b : Nat) (T : TypeId) (cs : List Value) : Prop := w.heap[b]? = some (.cells cs.toArray T (0, 0))
theorem Bx.lt {w : World} {b : Nat} {T : TypeId} {cs : List Value} (h : Bx w b T cs) : b < w.heap.size := (Array.getElem?_eq_some_iff.1 h).1
theorem Bx.fr {S : Nat → Prop} {w w' : World} {b : Nat} {T : TypeId} {cs : List Value} (h : Bx w b T cs) (hf : Fr S w w') (hb : S b) : Bx w' b T cs := (hf.block b hb).trans h
theorem Bx.ext {w w' : World} {b : Nat} {T : TypeId} {cs : List Value} (h : Bx w b T cs) (hf : Ext w w') : Bx w' b T cs := h.fr hf h.lt
theorem Bx.cell {w : World} {b : Nat} {T : TypeId} {cs : List Value} (h : Bx w b T cs) {j : Nat} {v : Value} (hv : cs[j]? = some v) : w.cell? ((⟨b, 0, none⟩ : Addr).add j) = some v := by
  have : (⟨b, 0, none⟩ : Addr).add j = ⟨b, j, none⟩ := by unfold Addr.add; split <;> simp_all
  have hb : w.heap[b]? = some (.cells cs.toArray T (0, 0)) := h
  rw [this]
  simp [World.cell?, hb, hv]
theorem Bx.cell0 {w : World} {b : Nat} {T : TypeId} {cs : List Value} (h : Bx w b T cs) {v : Value} (hv : cs[0]? = some v) : w.cell? ⟨b, 0, none⟩ = some v := h.cell hv

/-- a frozen box -/
def Bf (M : List Nat) (w : World) (b : Nat) (T : TypeId) (cs : List Value) : Prop := Bx w b T cs ∧ Fz M w b
theorem Bf.of {w : World} {b : Nat} {T : TypeId} {cs : List Value} (h : Bx w b T cs) : Bf [] w b T cs := ⟨h, h.lt, by simp⟩

section
variable {P : Program} {n : Nat} {M : List Nat} {w0 : World} {o : Oper} {L : Env}

/-- a load from a frozen box, at a field -/
theorem rn_loadB {x : Operand} {t T : TypeId} {b j : Nat} {cs : List Value} {v : Value} (hb : Bf M w0 b T cs) (ht : ∀ w, (isAgg t).run P w = .ok false w) (ho : o.op = .load t x)
    (hx : opd L x = some (.pointer (some ((⟨b, 0, none⟩ : Addr).add j)))) (hv : cs[j]? = some v) : Rn P n (Cw M w0) o L v :=
  rn_load ht ho hx fun _ hw => (hb.1.fr hw hb.2).cell hv
theorem rn_loadB0 {x : Operand} {t T : TypeId} {b : Nat} {cs : List Value} {v : Value} (hb : Bf M w0 b T cs) (ht : ∀ w, (isAgg t).run P w = .ok false w) (ho : o.op = .load t x)
    (hx : opd L x = some (.pointer (some ⟨b, 0, none⟩))) (hv : cs[0]? = some v) : Rn P n (Cw M w0) o L v :=
  rn_load ht ho hx fun _ hw => (hb.1.fr hw hb.2).cell0 hv
/-- the whole struct in a frozen box -/
theorem rn_loadBA {x : Operand} {t T : TypeId} {b : Nat} {cs : List Value} (hb : Bf M w0 b T cs) (ht : ∀ w, (isAgg t).run P w = .ok true w) {k : Nat} (hk : ∀ w, (sizeOf t).run P w = .ok k w) (ho : o.op = .load t x)
    (hx : opd L x = some (.pointer (some ⟨b, 0, none⟩))) (hl : cs.length = k) : Rn P n (Cw M w0) o L (.agg cs.toArray) :=
  rn_loadAgg ht hk ho hx (fun _ hw _ _ hv => (hb.1.fr hw hb.2).cell hv) hl

/-- the address of an element: the index is in range because the reading has an element there -/
theorem rn_index {C : World → Prop} {α : Type} {E : Rp α} {S : Nat → Prop} {w : World} {x ix : Operand} {t e : TypeId} {a : Option Addr} {c l sz : Nat} {k : IntKind} {i : Int} {xs : List α} {y : α} (hs : Sl E S w a c xs) (h : idx xs i = some y)
    (ht : ∀ w, (underlying t).run P w = .ok (.slice e) w) (hz : ∀ w, (sizeOf e).run P w = .ok sz w) (ho : o.op = .indexAddr t x ix)
    (hx : opd L x = some (.slice a l c)) (hl : l = xs.length) (hi : opd L ix = some (.int k i)) : Rn P n C o L (.pointer (some (aAt a (i.toNat * sz)))) := fun b w' ha _ => by
  obtain ⟨h0, h1, p, rfl⟩ := hs.base h
  subst hl
  simp [execOp, ho, ha.eval hx, ha.eval hi, Instr.indexAt, asIntOf, ht, hz, h0, h1, aAt]
end

/-! ### steps that turn the world -/
theorem World.alloc_block (w : World) (ob : Obj) : (w.alloc ob).heap[w.heap.size]? = some ob := heap_alloc_new w ob

section
variable {P : Program} {n : Nat} {ops : Array Oper} {C : World → Prop} {N : Act → World → Prop} {r : List (Nat × Nat)} {L : Env} {w : World} {i d : Nat} {o : Oper}

/-- what a call comes to when it returns -/
def Ret (P : Program) (f : FuncId) (args : List Value) (w : World) (R : Value → World → Prop) : Prop := Calls P f args.toArray w (fun e w' => ∃ v, e = .returned v ∧ R v w')
theorem Ret.mono {f : FuncId} {args : List Value} {R R' : Value → World → Prop} (h : Ret P f args w R) (hr : ∀ v w', R v w' → R' v w') : Ret P f args w R' :=
  Calls.mono h fun _ _ ⟨v, e, k⟩ => ⟨v, e, hr _ _ k⟩

theorem WO.call (ho : ops[i]? = some o) (hg : gd ops L o = some true) (hd : o.dst = some d) (hb : Nat.blt d n = true) {f : FuncId} {xs : List Operand} {ts : Array TypeId} {vs : List Value}
    (hop : o.op = .call { callee := .value (.func f), args := xs.toArray, argTypes := ts }) (hv : opds L xs = some vs) (hc : ∀ (as : Array Value) (w : World), (callFunc f as).run P w = .ok (.enter f as) w)
    {R : Value → World → Prop} (h : Ret P f vs w R) (k : ∀ v w', R v w' → C w' ∧ WO P n ops C N r ((d, v) :: L) w') : WO P n ops C N ((i, 1) :: r) L w :=
  WO.l ho hg hd hb fun a ha => by
    have h1 : xs.toArray.map a.eval = vs.toArray := ha.evals hv
    unfold Runs
    have : (execOp a.eval o).run P w = .ok (.enter f vs.toArray) w := by
      simp only [execOp, hop, resolve, h1, Act.eval, Deferred.ofValue, Sem.run_bind, Sem.run_pure, Result.andThen_ok, invoke]
      simpa using hc _ w
    rw [this]
    exact h.mono fun _ _ hr => k _ _ hr

/-- a call of a function value -/
theorem WO.callV (ho : ops[i]? = some o) (hg : gd ops L o = some true) (hd : o.dst = some d) (hb : Nat.blt d n = true) {f : FuncId} {x : Operand} {cap : List Value} {xs : List Operand} {ts : Array TypeId} {vs : List Value}
    (hop : o.op = .call { callee := .value x, args := xs.toArray, argTypes := ts }) (hx : opd L x = some (.func (.func f) #[] cap.toArray)) (hv : opds L xs = some vs) (hc : ∀ (as : Array Value) (w : World), (callFunc f as).run P w = .ok (.enter f as) w)
    {R : Value → World → Prop} (h : Ret P f (vs ++ cap) w R) (k : ∀ v w', R v w' → C w' ∧ WO P n ops C N r ((d, v) :: L) w') : WO P n ops C N ((i, 1) :: r) L w :=
  WO.l ho hg hd hb fun a ha => by
    have h1 : xs.toArray.map a.eval = vs.toArray := ha.evals hv
    unfold Runs
    have : (execOp a.eval o).run P w = .ok (.enter f (vs ++ cap).toArray) w := by
      simp only [execOp, hop, resolve, h1, ha.eval hx, Deferred.ofValue, Sem.run_bind, Sem.run_pure, Result.andThen_ok, invoke]
      simpa using hc _ w
    rw [this]
    exact h.mono fun _ _ hr => k _ _ hr

theorem WO.box (ho : ops[i]? = some o) (hg : gd ops L o = some true) (hd : o.dst = some d) (hb : Nat.blt d n = true) {T : TypeId} {x : Operand} {v : Value} {cs : List Value}
    (hop : o.op = .box T x) (hx : opd L x = some v) (hcs : v.cells = cs.toArray) (k : ∀ b w', Ext w w' → b = w.heap.size → Bx w' b T cs → C w' ∧ WO P n ops C N r ((d, .pointer (some ⟨b, 0, none⟩)) :: L) w') : WO P n ops C N ((i, 1) :: r) L w :=
  WO.l ho hg hd hb fun a ha => by
    unfold Runs
    have : (execOp a.eval o).run P w = .ok (.value (.pointer (some ⟨w.heap.size, 0, none⟩))) (w.alloc (.cells cs.toArray T)) := by
      simp only [execOp, hop, ha.eval hx, Instr.box, newVar, newRow, hcs, Sem.run_bind, Sem.run_pure, Result.andThen_ok, run_newObj]
      rfl
    rw [this]
    exact k _ _ (Ext.alloc _ _) rfl (World.alloc_block w _)

theorem WO.alloc (ho : ops[i]? = some o) (hg : gd ops L o = some true) (hd : o.dst = some d) (hb : Nat.blt d n = true) {T : TypeId} {z : Value} {cs : List Value}
    (hop : o.op = .alloc T) (hz : ∀ w, (zeroValue T).run P w = .ok z w) (hcs : z.cells = cs.toArray) (k : ∀ b w', Ext w w' → b = w.heap.size → Bx w' b T cs → C w' ∧ WO P n ops C N r ((d, .pointer (some ⟨b, 0, none⟩)) :: L) w') : WO P n ops C N ((i, 1) :: r) L w :=
  WO.l ho hg hd hb fun a ha => by
    unfold Runs
    have : (execOp a.eval o).run P w = .ok (.value (.pointer (some ⟨w.heap.size, 0, none⟩))) (w.alloc (.cells cs.toArray T)) := by
      simp only [execOp, hop, Instr.alloc, hz, newVar, newRow, hcs, Sem.run_bind, Sem.run_pure, Result.andThen_ok, run_newObj]
      rfl
    rw [this]
    exact k _ _ (Ext.alloc _ _) rfl (World.alloc_block w _)
end

/-! ### entering and leaving -/
def envOf (k : Nat) : List Value → Env
  | [] => []
  | v :: r => (k, v) :: envOf (k + 1) r
theorem look_envOf : ∀ (vs : List Value) (k t : Nat) (v : Value), look (envOf k vs) t = some v → k ≤ t ∧ vs[t - k]? = some v
  | [], _, _, _, h => by cases h
  | u :: r, k, t, v, h => by
    simp only [envOf, look] at h
    by_cases e : Nat.beq k t = true
    · have : k = t := Nat.eq_of_beq_eq_true e
      subst this
      simp only [e, cond_true, Option.some.injEq] at h
      simp [h]
    · simp only [Bool.not_eq_true] at e
      simp only [e, cond_false] at h
      obtain ⟨h1, h2⟩ := look_envOf r (k + 1) t v h
      refine ⟨by omega, ?_⟩
      rw [show t - k = (t - (k + 1)) + 1 from by omega]
      simpa using h2

theorem Ret.enter {P : Program} {f : FuncId} {fn : Func} {c : Code} {n : Nat} {args : List Value} {w : World} {R : Value → World → Prop} (hf : P.funcs[f]? = some fn) (hb : fn.body = some c) (hn : fn.ntmps = n) (hl : Nat.ble args.length n = true)
    (h : WC P n c (bodyPost P fn (fun e w' => ∃ v, e = .returned v ∧ R v w')) (envOf 0 args) w) : Ret P f args w R := by
  have hl' : args.length ≤ n := Nat.ble_eq.mp hl
  refine calls_of_wp hf hb (h _ ⟨rfl, ?_, ?_⟩)
  · simp [hn]; omega
  · intro t v ht
    obtain ⟨_, h2⟩ := look_envOf args 0 t v ht
    have h2 : args[t]? = some v := by simpa using h2
    have hlt : t < args.length := (List.getElem?_eq_some_iff.1 h2).1
    rw [Array.getElem?_append_left (by simpa using hlt)]
    simpa using h2

section
variable {P : Program} {n : Nat} {fn : Func} {R : Value → World → Prop} {L : Env} {w : World}
theorem DN.ret1 {t : Nat} {v : Value} (hres : fn.results = #[.tmp t]) (hv : look L t = some v) (h : R v w) : DN n (bodyPost P fn (fun e w' => ∃ v, e = .returned v ∧ R v w')) .ret L w := fun a ha =>
  bodyPost_ret (v := v) (by simp [results, hres, ha.2.2 t v hv]) ha.1 ⟨v, rfl, h⟩
theorem DN.ret2 {t u : Nat} {v1 v2 : Value} (hres : fn.results = #[.tmp t, .tmp u]) (hv : look L t = some v1) (hu : look L u = some v2) (h : R (.tuple #[v1, v2]) w) : DN n (bodyPost P fn (fun e w' => ∃ v, e = .returned v ∧ R v w')) .ret L w := fun a ha =>
  bodyPost_ret (v := .tuple #[v1, v2]) (by simp [results, hres, ha.2.2 t v1 hv, ha.2.2 u v2 hu]) ha.1 ⟨_, rfl, h⟩
theorem DN.ret0 (hres : fn.results = #[]) (h : R (.tuple #[]) w) : DN n (bodyPost P fn (fun e w' => ∃ v, e = .returned v ∧ R v w')) .ret L w := fun a ha =>
  bodyPost_ret (v := .tuple #[]) (by simp [results, hres]) ha.1 ⟨_, rfl, h⟩
theorem DN.end0 (hres : fn.results = #[]) (h : R (.tuple #[]) w) : DN n (bodyPost P fn (fun e w' => ∃ v, e = .returned v ∧ R v w')) .normal L w := fun a ha =>
  bodyPost_end (v := .tuple #[]) (by simp [results, hres]) ha.1 ⟨_, rfl, h⟩
end

end Go.Wk
