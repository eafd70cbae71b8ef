/- The walk's base: environments of temporaries as lists, regions in one order, steps. -/
import Derived.WalkKit
import Derived.ProofKit
import Derived.Orders
import Derived.Still
import Derived.KernelRfl
set_option linter.unusedVariables false
set_option linter.unusedSimpArgs false
namespace Go.Wk
open Go

abbrev Env := List (Nat × Value)

def look : Env → Nat → Option Value
  | [], _ => none
  | (k, v) :: r, t => bif Nat.beq k t then some v else look r t

def opd (L : Env) : Operand → Option Value
  | .tmp t => look L t
  | .const v => some v
  | .global g => some (.pointer (some ⟨g, 0, none⟩))
  | .func f => some (.func (.func f) #[] #[])

def Kn (n : Nat) (L : Env) (a : Act) : Prop := a.defers = [] ∧ a.tmps.size = n ∧ ∀ t v, look L t = some v → a.tmps[t]? = some v

theorem Kn.eval {n : Nat} {L : Env} {a : Act} (h : Kn n L a) {x : Operand} {v : Value} (hx : opd L x = some v) : a.eval x = v := by
  cases x with
  | tmp t => have := h.2.2 t v hx; simp [Act.eval, this]
  | const u => simpa [opd, Act.eval] using hx
  | global g => simpa [opd, Act.eval] using hx
  | func f => simpa [opd, Act.eval] using hx

theorem Kn.put {n : Nat} {L : Env} {a : Act} (h : Kn n L a) {d : Nat} (hd : Nat.blt d n = true) (v : Value) : Kn n ((d, v) :: L) (a.put (some d) v) := by
  have hd' : d < n := Nat.ble_eq.mp hd
  refine ⟨h.1, by simpa [Act.put] using h.2.1, fun t u hu => ?_⟩
  simp only [look] at hu
  by_cases e : d = t
  · subst e
    simp at hu
    simp [Act.put, h.2.1, hd', hu]
  · have : Nat.beq d t = false := by
      cases h : Nat.beq d t with
      | false => rfl
      | true => exact absurd (Nat.eq_of_beq_eq_true h) e
    simp only [this, cond_false] at hu
    simp only [Act.put]
    rw [Array.getElem?_setIfInBounds_ne e]
    exact h.2.2 t u hu

theorem Kn.put_none {n : Nat} {L : Env} {a : Act} (h : Kn n L a) (v : Value) : Kn n L (a.put none v) := h

theorem Kn.nil {n : Nat} {L : Env} {a : Act} (h : Kn n L a) : Kn n [] a := ⟨h.1, h.2.1, fun _ _ hu => by cases hu⟩
/-- forgetting: a shorter list of what is known -/
theorem Kn.more {n : Nat} {L L' : Env} {a : Act} (h : Kn n L a) (h' : Kn n L' a) {t : Nat} {v : Value} (ht : look L t = some v) : Kn n ((t, v) :: L') a :=
  ⟨h.1, h.2.1, fun u x hx => by
    simp only [look] at hx
    by_cases e : Nat.beq t u = true
    · simp only [e, cond_true, Option.some.injEq] at hx
      have : t = u := Nat.eq_of_beq_eq_true e
      subst this; subst hx
      exact h.2.2 t v ht
    · simp only [Bool.not_eq_true] at e
      simp only [e, cond_false] at hx
      exact h'.2.2 u x hx⟩

/-! ### frozen blocks, worlds that grew -/
/-- what is the same in both worlds: the blocks of S; both worlds hold them -/
structure Fr (S : Nat → Prop) (w w' : World) : Prop where
  os : w'.os = w.os
  tape : w'.tape = w.tape
  output : w'.output = w.output
  size : w.heap.size ≤ w'.heap.size
  block : ∀ b, S b → w'.heap[b]? = w.heap[b]?

theorem Fr.refl (S : Nat → Prop) (w : World) : Fr S w w := ⟨rfl, rfl, rfl, Nat.le_refl _, fun _ _ => rfl⟩
theorem Fr.trans {S : Nat → Prop} {a b c : World} (h : Fr S a b) (k : Fr S b c) : Fr S a c :=
  ⟨k.os.trans h.os, k.tape.trans h.tape, k.output.trans h.output, Nat.le_trans h.size k.size, fun i hi => (k.block i hi).trans (h.block i hi)⟩
theorem Fr.mono {S S' : Nat → Prop} {a b : World} (h : Fr S a b) (hs : ∀ b, S' b → S b) : Fr S' a b := ⟨h.os, h.tape, h.output, h.size, fun i hi => h.block i (hs i hi)⟩
theorem Fr.cell {S : Nat → Prop} {w w' : World} (h : Fr S w w') {p : Addr} (hp : S p.block) : w'.cell? p = w.cell? p := World.cell?_of_block (h.block _ hp)

/-- all blocks that the world has -/
def All (w : World) : Nat → Prop := fun b => b < w.heap.size
/-- every old block as it was -/
abbrev Ext (w w' : World) : Prop := Fr (All w) w w'
theorem Ext.trans {a b c : World} (h : Ext a b) (k : Ext b c) : Ext a c := Fr.trans h (Fr.mono k (fun _ hb => Nat.lt_of_lt_of_le hb h.size))
theorem Ext.below {w w' : World} (h : Ext w w') : RowKit.Below w.heap.size w w' := ⟨h.os, h.tape, h.output, h.size, h.block⟩
theorem Ext.of_below {w w' : World} (h : RowKit.Below w.heap.size w w') : Ext w w' := ⟨h.os, h.tape, h.output, h.size, h.block⟩
theorem Ext.alloc (w : World) (o : Obj) : Ext w (w.alloc o) := Ext.of_below ((RowKit.Below.refl _ _).alloc (Nat.le_refl _) o)
theorem Ext.drew (w : World) : Ext w { w with drawn := w.drawn + 1 } := ⟨rfl, rfl, rfl, Nat.le_refl _, fun _ _ => rfl⟩

/-! ### one operation -/
/-- what an operation comes to: a value, a call that returns; never a panic -/
def Runs (P : Program) (o : Oper) (a : Act) (w : World) (K : Value → World → Prop) : Prop :=
  match (execOp a.eval o).run P w with
  | .ok (.value v) w' => K v w'
  | .ok .skip w' => K undef w'
  | .ok (.enter f args) w' => Calls P f args w' (fun e w'' => ∃ v, e = .returned v ∧ K v w'')
  | _ => False

theorem Runs.mono {P : Program} {o : Oper} {a : Act} {w : World} {K K' : Value → World → Prop} (h : Runs P o a w K) (hk : ∀ v w', K v w' → K' v w') : Runs P o a w K' := by
  unfold Runs at *
  split at h
  · exact hk _ _ h
  · exact hk _ _ h
  · exact h.mono fun e w'' ⟨v, he, hv⟩ => ⟨v, he, hk _ _ hv⟩
  · exact h.elim

theorem Runs.wp {P : Program} {o : Oper} {a : Act} {w : World} {N : Act → World → Prop} {Q : Exit → Act → World → Prop}
    (h : Runs P o a w (fun v w' => N (a.put o.dst v) w')) : o.wp P a w N Q := by
  unfold Runs at h
  unfold Oper.wp
  split at h
  · rename_i v w' hr; rw [hr]; exact h
  · rename_i w' hr; rw [hr]; exact h
  · rename_i f args w' hr; rw [hr]
    exact h.mono fun e w'' ⟨v, he, hv⟩ => by subst he; exact hv
  · exact h.elim

/-! ### a region, its operations in one order -/
section
variable {P : Program} {ops : Array Oper} {md : Region.Mode} {C : World → Prop} {N : Act → World → Prop}

def rOp (P : Program) (ops : Array Oper) (C : World → Prop) (i : Nat) (K : Act → World → Prop) (a : Act) (w : World) : Prop :=
  match ops[i]? with
  | none => K a w
  | some o => if Region.wanted o (yielded ops a.tmps) then Runs P o a w (fun v w' => C w' ∧ K (a.put o.dst v) w') else K (a.put o.dst undef) w

theorem rOp_mono {i : Nat} {a : Act} {w : World} {K K' : Act → World → Prop} (hw : C w) (h : ∀ a w, C w → K a w → K' a w) (hh : rOp P ops C i K a w) : rOp P ops C i K' a w := by
  unfold rOp at *
  split
  · rename_i ho; simp only [ho] at hh; exact h _ _ hw hh
  · rename_i o ho
    simp only [ho] at hh
    split
    · rename_i hwt; simp only [hwt, if_true] at hh; exact hh.mono fun v w' ⟨c, k⟩ => ⟨c, h _ _ c k⟩
    · rename_i hwt; simp only [hwt] at hh; exact h _ _ hw hh

theorem wpOp_of_rOp {i : Nat} {a : Act} {w : World} {K : Act → World → Prop} {Q : Exit → Act → World → Prop} (hh : rOp P ops C i K a w) : wpOp P ops Q i K a w := by
  unfold rOp at hh
  unfold wpOp
  split
  · rename_i ho; simp only [ho] at hh; exact hh
  · rename_i o ho
    simp only [ho] at hh
    split
    · rename_i hwt; simp only [hwt, if_true] at hh; exact .inl (Runs.wp (hh.mono fun v w' ⟨_, k⟩ => k))
    · rename_i hwt; simp only [hwt] at hh; exact hh

/-- the operation yields this value in every world of the class, and leaves the world alone; or it is passed over -/
def Qy (P : Program) (ops : Array Oper) (C : World → Prop) (o : Oper) (v : Value) (a : Act) : Prop :=
  (Region.wanted o (yielded ops a.tmps) = true ∧ ∀ w, C w → (execOp a.eval o).run P w = .ok (.value v) w) ∨ (Region.wanted o (yielded ops a.tmps) = false ∧ v = undef)

theorem Qy.rOp {i : Nat} {o : Oper} {v : Value} {a : Act} {w : World} {K : Act → World → Prop} (hi : ops[i]? = some o) (hy : Qy P ops C o v a) (hw : C w) (h : K (a.put o.dst v) w) : rOp P ops C i K a w := by
  unfold Wk.rOp
  simp only [hi]
  rcases hy with ⟨h1, h2⟩ | ⟨h1, rfl⟩
  · simp only [h1, if_true, Runs, h2 w hw]; exact ⟨hw, h⟩
  · simp only [h1, Bool.false_eq_true, if_false]; exact h

theorem Qy.of_same {o : Oper} {v : Value} {a a' : Act} (hy : Qy P ops C o v a) (he : execOp a'.eval o = execOp a.eval o)
    (hw : Region.wanted o (yielded ops a'.tmps) = Region.wanted o (yielded ops a.tmps)) : Qy P ops C o v a' := by
  unfold Qy at *
  rw [he, hw]
  exact hy

/-- the class of worlds while operation l has not come up; from then on: every world -/
def CL (l : Option Nat) (C : World → Prop) (listed : Array Bool) (w : World) : Prop := match l with
  | none => C w
  | some l => listed.getD l false = true ∨ C w
theorem CL.of {l : Option Nat} {C : World → Prop} {listed : Array Bool} {w : World} (h : C w) : CL l C listed w := by
  cases l with
  | none => exact h
  | some l => exact .inr h
theorem CL.set_ne {l : Option Nat} {C : World → Prop} {listed : Array Bool} {w : World} {i : Nat} (hi : l ≠ some i) (h : CL l C (listed.setIfInBounds i true) w) : CL l C listed w := by
  cases l with
  | none => exact h
  | some l =>
    refine h.imp (fun h => ?_) id
    rwa [getD_set_ne false (fun e => hi (by rw [e]))] at h
theorem CL.ne_set {l : Option Nat} {C : World → Prop} {listed : Array Bool} {w : World} {i : Nat} (h : CL l C listed w) : CL l C (listed.setIfInBounds i true) w := by
  cases l with
  | none => exact h
  | some l => exact h.imp getD_set_true id

/-- whatever has come up, what it waits for has come up -/
def Dc (md : Region.Mode) (ops : Array Oper) (listed : Array Bool) : Prop := ∀ (j : Nat) o, ops[j]? = some o → listed.getD j false = true → ∀ e ∈ o.after, Region.binds md e = true → listed.getD e.on false = true
theorem Dc.set {listed : Array Bool} {i : Nat} (h : Dc md ops listed) (hi : i ∈ Region.ready md ops listed) : Dc md ops (listed.setIfInBounds i true) := by
  intro j o hj hl e he hb
  by_cases hij : i = j
  · subst hij
    obtain ⟨_, o', ho', hall⟩ := mem_ready.1 hi
    rw [hj] at ho'
    obtain rfl := Option.some.inj ho'
    exact getD_set_true (hall e he hb)
  · rw [getD_set_ne false hij] at hl
    exact getD_set_true (h j o hj hl e he hb)
/-- l waits for i, at however many steps -/
def ancB (md : Region.Mode) (ops : Array Oper) : Nat → Nat → Nat → Bool
  | 0, _, _ => false
  | f + 1, i, l => match ops[l]? with
    | none => false
    | some o => o.after.any fun e => Region.binds md e && (Nat.beq e.on i || ancB md ops f i e.on)
theorem Dc.anc {listed : Array Bool} (h : Dc md ops listed) {i : Nat} : ∀ (f l : Nat), ancB md ops f i l = true → listed.getD l false = true → listed.getD i false = true
  | 0, _, hb, _ => by cases hb
  | f + 1, l, hb, hl => by
    unfold ancB at hb
    split at hb
    · cases hb
    · rename_i o ho
      obtain ⟨k, hk, he⟩ := Array.any_iff_exists.1 hb
      have hmem : o.after[k] ∈ o.after := Array.getElem_mem _
      simp only [Bool.and_eq_true, Bool.or_eq_true] at he
      have hon := h l o ho hl _ hmem he.2.2.1
      rcases he.2.2.2 with e | e
      · rw [← Nat.eq_of_beq_eq_true e]; exact hon
      · exact Dc.anc h f _ e hon

def wAnyL (P : Program) (md : Region.Mode) (ops : Array Oper) (l : Option Nat) (C : World → Prop) (N : Act → World → Prop) : Nat → Array Bool → Act → World → Prop
  | 0, listed, a, w => Region.ready md ops listed = [] ∧ N a w
  | fuel + 1, listed, a, w =>
    (Region.ready md ops listed = [] → N a w) ∧
    ∀ i ∈ Region.ready md ops listed, rOp P ops (CL l C (listed.setIfInBounds i true)) i (wAnyL P md ops l C N fuel (listed.setIfInBounds i true)) a w

theorem wpAny_of_wAnyL {l : Option Nat} {Q : Exit → Act → World → Prop} (hQ : ∀ a w, N a w → Q .normal a w) : ∀ (fuel : Nat) (listed : Array Bool) (a : Act) (w : World),
    wAnyL P md ops l C N fuel listed a w → wpAny P md ops Q fuel listed a w
  | 0, _, _, _, h => ⟨h.1, hQ _ _ h.2⟩
  | fuel + 1, _, a, w, h => ⟨fun h0 => hQ _ _ (h.1 h0), fun i hi => wpOp_of_rOp (C := fun _ => True) (by
      have := h.2 i hi
      unfold rOp at *
      split
      · rename_i ho; simp only [ho] at this; exact wpAny_of_wAnyL hQ fuel _ _ _ this
      · rename_i o ho
        simp only [ho] at this
        split
        · rename_i hw; simp only [hw, if_true] at this; exact this.mono fun v w' ⟨_, k⟩ => ⟨trivial, wpAny_of_wAnyL hQ fuel _ _ _ k⟩
        · rename_i hw; simp only [hw] at this; exact wpAny_of_wAnyL hQ fuel _ _ _ this)⟩

theorem rOp_putL {D : World → Prop} {j : Nat} {oi oj : Oper} {v : Value} (hj : ops[j]? = some oj) (hap : oi.apart ops oj = true)
    (hsi : ∀ cs b, oi.op ≠ .select cs b) (hsj : ∀ cs b, oj.op ≠ .select cs b) {K : Act → World → Prop} {a : Act} {w : World}
    (hy : Qy P ops D oi v a) (h : rOp P ops C j K (a.put oi.dst v) w) :
    rOp P ops C j (fun a' w' => Qy P ops D oi v a' ∧ K (a'.put oi.dst v) w') a w := by
  obtain ⟨h1, h2, h3⟩ := Oper.apart_spec hap
  have keep : ∀ u, Qy P ops D oi v (a.put oj.dst u) := fun u =>
    hy.of_same (execOp_put oi hsi a oj.dst u h3) (wanted_put oi a oj.dst u h3)
  unfold rOp at *
  simp only [hj] at *
  rw [wanted_put oj a oi.dst v h1] at h
  split
  · rename_i hw
    simp only [hw, if_true] at h
    unfold Runs at *
    rw [execOp_put oj hsj a oi.dst v h1] at h
    split at h
    · exact ⟨h.1, keep _, by rw [← Act.put_comm a v _ h2]; exact h.2⟩
    · exact ⟨h.1, keep _, by rw [← Act.put_comm a v _ h2]; exact h.2⟩
    · exact h.mono fun e w'' ⟨u, he, hc, hk⟩ => ⟨u, he, hc, keep _, by rw [← Act.put_comm a v _ h2]; exact hk⟩
    · exact h.elim
  · rename_i hw
    simp only [hw] at h
    exact ⟨keep _, by rw [← Act.put_comm a v undef h2]; exact h⟩

theorem rOp_monoL {C' : World → Prop} {i : Nat} {a : Act} {w : World} {K K' : Act → World → Prop} (hw : C' w) (hC : ∀ w, C w → C' w) (h : ∀ a w, C' w → K a w → K' a w) (hh : rOp P ops C i K a w) : rOp P ops C' i K' a w := by
  unfold rOp at *
  split
  · rename_i ho; simp only [ho] at hh; exact h _ _ hw hh
  · rename_i o ho
    simp only [ho] at hh
    split
    · rename_i hwt; simp only [hwt, if_true] at hh; exact hh.mono fun v w' ⟨c, k⟩ => ⟨hC _ c, h _ _ (hC _ c) k⟩
    · rename_i hwt; simp only [hwt] at hh; exact h _ _ hw hh

theorem wAnyL_first {l : Option Nat} {D : World → Prop} {i : Nat} {oi : Oper} {v : Value} (hi : ops[i]? = some oi) (hl : l ≠ some i) (hD : ∀ listed w, Dc md ops listed → i ∈ Region.ready md ops listed → CL l C listed w → D w)
    (hsel : ∀ (j : Nat) (o : Oper) cs b, ops[j]? = some o → o.op ≠ .select cs b) :
    ∀ (fuel : Nat) (listed : Array Bool) (a : Act) (w : World), Dc md ops listed →
      (∀ j oj, ops[j]? = some oj → j ≠ i → listed.getD j true = false → (∀ e ∈ oj.after, Region.binds md e = true → e.on ≠ i) → oi.apart ops oj = true) →
      i ∈ Region.ready md ops listed → Qy P ops D oi v a → CL l C listed w →
      wAnyL P md ops l C N fuel (listed.setIfInBounds i true) (a.put oi.dst v) w → wAnyL P md ops l C N (fuel + 1) listed a w := by
  have fire : ∀ (K : Act → World → Prop) (listed : Array Bool) (a : Act) (w : World), Dc md ops listed → i ∈ Region.ready md ops listed → Qy P ops D oi v a → CL l C listed w → K (a.put oi.dst v) w →
      rOp P ops (CL l C (listed.setIfInBounds i true)) i K a w := by
    intro K listed a w hdc hr hy hw hk
    unfold Wk.rOp
    simp only [hi]
    rcases hy with ⟨h1, h2⟩ | ⟨h1, rfl⟩
    · simp only [h1, if_true, Runs, h2 w (hD listed w hdc hr hw)]; exact ⟨hw.ne_set, hk⟩
    · simp only [h1, Bool.false_eq_true, if_false]; exact hk
  intro fuel
  induction fuel with
  | zero =>
    intro listed a w hdc _ hr hy hw H
    refine ⟨fun h => (by rw [h] at hr; cases hr), fun j hj => ?_⟩
    by_cases hji : j = i
    · subst hji; exact fire _ listed a w hdc hr hy hw H
    · have := ready_mono hj hji
      rw [H.1] at this
      cases this
  | succ fuel ih =>
    intro listed a w hdc hfree hr hy hw H
    refine ⟨fun h => (by rw [h] at hr; cases hr), fun j hj => ?_⟩
    by_cases hji : j = i
    · subst hji; exact fire _ listed a w hdc hr hy hw H
    · have h1 := H.2 j (ready_mono hj hji)
      obtain ⟨hjun, oj, hoj, hall⟩ := mem_ready.1 hj
      have hnot : ∀ e ∈ oj.after, Region.binds md e = true → e.on ≠ i := fun e he hb heq => by
        have h1 := hall e he hb
        have h0 := (mem_ready.1 hr).1
        rw [heq] at h1
        rcases Nat.lt_or_ge i listed.size with h' | h'
        · simp [h'] at h0 h1; rw [h0] at h1; cases h1
        · simp [Array.getElem?_eq_none h'] at h1
      have h2 := rOp_putL hoj (hfree j oj hoj hji hjun hnot) (fun cs b => hsel i oi cs b hi) (fun cs b => hsel j oj cs b hoj) hy h1
      have hfree' : ∀ k ok, ops[k]? = some ok → k ≠ i → (listed.setIfInBounds j true).getD k true = false →
          (∀ e ∈ ok.after, Region.binds md e = true → e.on ≠ i) → oi.apart ops ok = true := fun k ok hk hki hun hno => by
        refine hfree k ok hk hki ?_ hno
        by_cases hjk : j = k
        · subst hjk; exact hjun
        · rw [getD_set_ne true hjk] at hun; exact hun
      refine rOp_monoL hw.ne_set (fun w' hc => ?_) (fun a' w' hw' h3 => ih (listed.setIfInBounds j true) a' w' (hdc.set hj) hfree' (ready_mono hr (Ne.symm hji)) h3.1 hw' ?_) h2
      · rw [Array.setIfInBounds_comm _ _ (Ne.symm hji)] at hc
        exact CL.set_ne hl hc
      · rw [Array.setIfInBounds_comm _ _ hji]
        exact h3.2

/-- the walk in one order: (index, kind): 0: it looks at memory that stays; 1: it may turn the world; 2: it looks at no memory -/
def Wlk (P : Program) (ops : Array Oper) (C : World → Prop) (N : Act → World → Prop) : List (Nat × Nat) → Act → World → Prop
  | [], a, w => N a w
  | (i, 0) :: r, a, w => ∃ o v, ops[i]? = some o ∧ Qy P ops C o v a ∧ Wlk P ops C N r (a.put o.dst v) w
  | (i, 1) :: r, a, w => rOp P ops C i (Wlk P ops C N r) a w
  | (i, _ + 2) :: r, a, w => ∃ o v, ops[i]? = some o ∧ Qy P ops (fun _ => True) o v a ∧ Wlk P ops C N r (a.put o.dst v) w

def ordB (md : Region.Mode) (ops : Array Oper) (l : Option Nat) : List (Nat × Nat) → Array Bool → List (Nat × Nat) → Bool
  | [], listed, o2 => ord2 listed o2
  | (i, 1) :: r, listed, o2 => (match Region.ready md ops listed with | [j] => Nat.beq j i | _ => false) && ne i && ordB md ops l r (listed.setIfInBounds i true) o2
  | (i, k) :: r, listed, o2 => (Region.ready md ops listed).contains i && Region.free md ops listed i && ne i && (Nat.beq k 2 || (Nat.beq k 0 && anc i)) && ordB md ops l r (listed.setIfInBounds i true) o2
where
  ne (i : Nat) : Bool := match l with | none => true | some l => !(Nat.beq l i)
  anc (i : Nat) : Bool := match l with | none => true | some l => ancB md ops ops.size i l
  ord2 : Array Bool → List (Nat × Nat) → Bool
    | listed, [] => (Region.ready md ops listed).isEmpty
    | listed, (i, 1) :: r => (match Region.ready md ops listed with | [j] => Nat.beq j i | _ => false) && lis i listed && ord2 (listed.setIfInBounds i true) r
    | listed, (i, k) :: r => (Region.ready md ops listed).contains i && Region.free md ops listed i && ne i && Nat.beq k 2 && ord2 (listed.setIfInBounds i true) r
  lis (i : Nat) (listed : Array Bool) : Bool := match l with | none => false | some l => (listed.setIfInBounds i true).getD l false

def ordOk (ops : Array Oper) (l : Option Nat) (o1 o2 : List (Nat × Nat)) : Bool := Nat.beq (o1.length + o2.length) ops.size && Region.noSelect ops && ordB .any ops l o1 (Array.replicate ops.size false) o2

theorem ready1 {listed : Array Bool} {i : Nat} (h : (match Region.ready md ops listed with | [j] => Nat.beq j i | _ => false) = true) : Region.ready md ops listed = [i] := by
  split at h
  · rename_i j hr; rw [hr, Nat.eq_of_beq_eq_true h]
  · cases h
theorem ne_spec {l : Option Nat} {i : Nat} (h : ordB.ne l i = true) : l ≠ some i := by
  intro e
  subst e
  simp [ordB.ne, Nat.beq_refl] at h

theorem wAnyL_ord2 {l : Option Nat} (hs : Region.noSelect ops = true) : ∀ (o2 : List (Nat × Nat)) (listed : Array Bool) (a : Act) (w : World), ordB.ord2 md ops l listed o2 = true → Dc md ops listed → CL l C listed w →
    Wlk P ops (fun _ => True) N o2 a w → wAnyL P md ops l C N o2.length listed a w
  | [], _, _, _, hB, _, _, h => ⟨by simpa [ordB.ord2] using hB, h⟩
  | (i, 1) :: r, listed, a, w, hB, hdc, hw, h => by
    simp only [ordB.ord2, Bool.and_eq_true] at hB
    obtain ⟨⟨h1, h0⟩, h2⟩ := hB
    have hr := ready1 h1
    have hi : i ∈ Region.ready md ops listed := by rw [hr]; exact List.mem_singleton.2 rfl
    refine ⟨fun h0 => (by rw [hr] at h0; cases h0), fun k hk => ?_⟩
    rw [hr] at hk
    simp only [List.mem_singleton] at hk
    subst hk
    have hcl : ∀ w', CL l C (listed.setIfInBounds k true) w' := fun w' => by
      cases l with
      | none => simp [ordB.lis] at h0
      | some l => exact .inl h0
    exact rOp_monoL (hcl w) (fun w' _ => hcl w') (fun a' w' hw' k' => wAnyL_ord2 hs r _ a' w' h2 (hdc.set hi) hw' k') h
  | (i, 0) :: r, listed, a, w, hB, _, _, _ => by simp [ordB.ord2] at hB
  | (i, k + 2) :: r, listed, a, w, hB, hdc, hw, h => by
    simp only [ordB.ord2, Bool.and_eq_true] at hB
    obtain ⟨⟨⟨⟨h1, h2⟩, h3⟩, _⟩, h4⟩ := hB
    obtain ⟨o, v, ho, hy, hk⟩ := h
    have hi : i ∈ Region.ready md ops listed := by simpa using h1
    exact wAnyL_first (D := fun _ => True) ho (ne_spec h3) (fun _ _ _ _ _ => trivial) (Region.noSelect_spec hs) r.length listed a w hdc (Region.free_spec ho h2) hi hy hw (wAnyL_ord2 hs r _ _ w h4 (hdc.set hi) hw.ne_set hk)

theorem wAnyL_ord {l : Option Nat} {o2 : List (Nat × Nat)} (hs : Region.noSelect ops = true) : ∀ (o1 : List (Nat × Nat)) (listed : Array Bool) (a : Act) (w : World), ordB md ops l o1 listed o2 = true → Dc md ops listed → CL l C listed w → C w →
    Wlk P ops C (fun a w => Wlk P ops (fun _ => True) N o2 a w) o1 a w → wAnyL P md ops l C N (o1.length + o2.length) listed a w
  | [], listed, a, w, hB, hdc, hw, _, h => by
    rw [List.length_nil, Nat.zero_add]
    exact wAnyL_ord2 hs o2 listed a w hB hdc hw h
  | (i, 1) :: r, listed, a, w, hB, hdc, hw, hc, h => by
    simp only [ordB, Bool.and_eq_true] at hB
    obtain ⟨⟨h1, _⟩, h2⟩ := hB
    have hr := ready1 h1
    have hi : i ∈ Region.ready md ops listed := by rw [hr]; exact List.mem_singleton.2 rfl
    rw [List.length_cons, Nat.add_right_comm]
    refine ⟨fun h0 => (by rw [hr] at h0; cases h0), fun k hk => ?_⟩
    rw [hr] at hk
    simp only [List.mem_singleton] at hk
    subst hk
    have h' : rOp P ops C k (fun a w => C w ∧ Wlk P ops C (fun a w => Wlk P ops (fun _ => True) N o2 a w) r a w) a w := rOp_mono hc (fun _ _ hc hk => ⟨hc, hk⟩) h
    exact rOp_monoL (CL.of hc) (fun w' => CL.of) (fun a' w' hw' k' => wAnyL_ord hs r _ a' w' h2 (hdc.set hi) hw' k'.1 k'.2) h'
  | (i, 0) :: r, listed, a, w, hB, hdc, hw, hc, h => by
    simp only [ordB, Bool.and_eq_true] at hB
    obtain ⟨⟨⟨⟨h1, h2⟩, h3⟩, h5⟩, h4⟩ := hB
    obtain ⟨o, v, ho, hy, hk⟩ := h
    have hi : i ∈ Region.ready md ops listed := by simpa using h1
    rw [List.length_cons, Nat.add_right_comm]
    have hanc : ordB.anc md ops l i = true := by simpa using h5
    refine wAnyL_first (D := C) ho (ne_spec h3) (fun li w' hd hr hcl => ?_) (Region.noSelect_spec hs) (r.length + o2.length) listed a w hdc (Region.free_spec ho h2) hi hy hw (wAnyL_ord hs r _ _ w h4 (hdc.set hi) hw.ne_set hc hk)
    cases l with
    | none => exact hcl
    | some l =>
      rcases hcl with e | e
      · have h6 := hd.anc _ _ hanc e
        have h7 := (mem_ready.1 hr).1
        rcases Nat.lt_or_ge i li.size with h' | h'
        · simp [h'] at h6 h7; rw [h6] at h7; cases h7
        · simp [Array.getElem?_eq_none h'] at h6
      · exact e
  | (i, k + 2) :: r, listed, a, w, hB, hdc, hw, hc, h => by
    simp only [ordB, Bool.and_eq_true] at hB
    obtain ⟨⟨⟨⟨h1, h2⟩, h3⟩, _⟩, h4⟩ := hB
    obtain ⟨o, v, ho, hy, hk⟩ := h
    have hi : i ∈ Region.ready md ops listed := by simpa using h1
    rw [List.length_cons, Nat.add_right_comm]
    exact wAnyL_first (D := fun _ => True) ho (ne_spec h3) (fun _ _ _ _ _ => trivial) (Region.noSelect_spec hs) (r.length + o2.length) listed a w hdc (Region.free_spec ho h2) hi hy hw (wAnyL_ord hs r _ _ w h4 (hdc.set hi) hw.ne_set hc hk)

theorem wp_region_ord {id : Nat} {Q : Exit → Act → World → Prop} {a : Act} {w : World} (l : Option Nat) (o1 o2 : List (Nat × Nat)) (hm : P.follows .mixedOrders = true) (hB : ordOk ops l o1 o2 = true)
    (hC : C { w with drawn := w.drawn + 1 }) (h : Wlk P ops C (fun a w => Wlk P ops (fun _ => True) (fun a w => Q .normal a w) o2 a w) o1 a { w with drawn := w.drawn + 1 }) : (Code.region id ops true).wp P Q a w := by
  simp only [ordOk, Bool.and_eq_true] at hB
  obtain ⟨⟨h1, h2⟩, h3⟩ := hB
  refine wp_region_any hm (wpAny_of_wAnyL (N := fun a w => Q .normal a w) (l := l) (C := C) (fun _ _ h => h) _ _ _ _ ?_)
  rw [← Nat.eq_of_beq_eq_true h1]
  rw [← Nat.eq_of_beq_eq_true h1] at h3
  refine wAnyL_ord h2 o1 _ a _ h3 ?_ (CL.of hC) hC h
  intro j o _ hl
  exfalso
  rcases Nat.lt_or_ge j (o1.length + o2.length) with h' | h'
  · simp [h'] at hl
  · simp [Array.getElem?_eq_none, h'] at hl

theorem wpOps_of_Wlk {Q : Exit → Act → World → Prop} : ∀ (order : List (Nat × Nat)) (a : Act) (w : World), C w →
    Wlk P ops C (fun a w => Q .normal a w) order a w → wpOps P ops Q (order.map (·.1)) a w
  | [], _, _, _, h => h
  | (i, 1) :: r, a, w, hw, h => by
    simp only [List.map_cons, wpOps_cons]
    exact wpOp_of_rOp (C := C) (rOp_mono hw (fun a' w' hw' k => wpOps_of_Wlk r a' w' hw' k) h)
  | (i, 0) :: r, a, w, hw, h => by
    simp only [List.map_cons, wpOps_cons]
    obtain ⟨o, v, ho, hy, hk⟩ := h
    exact wpOp_of_rOp (C := C) (hy.rOp ho hw (wpOps_of_Wlk r _ w hw hk))
  | (i, k + 2) :: r, a, w, hw, h => by
    simp only [List.map_cons, wpOps_cons]
    obtain ⟨o, v, ho, hy, hk⟩ := h
    exact wpOp_of_rOp (C := fun _ => True) (hy.rOp ho trivial (wpOps_of_Wlk r _ w hw hk))

theorem wp_region_seq {id : Nat} {Q : Exit → Act → World → Prop} {a : Act} {w : World} (order : List (Nat × Nat)) (hB : order.map (·.1) = List.range ops.size)
    (hC : C w) (h : Wlk P ops C (fun a w => Q .normal a w) order a w) : (Code.region id ops false).wp P Q a w :=
  wp_region (by rw [← hB]; exact wpOps_of_Wlk order a w hC h)

/-! ### regions in which more than one loud operation may come next -/
def setAll : List (Nat × Nat) → Array Bool → Array Bool
  | [], s => s
  | (i, _) :: r, s => setAll r (s.setIfInBounds i true)
def segB (md : Region.Mode) (ops : Array Oper) (l : Option Nat) : List (Nat × Nat) → Array Bool → Bool
  | [], _ => true
  | (i, 1) :: r, listed => (match Region.ready md ops listed with | [j] => Nat.beq j i | _ => false) && ordB.ne l i && segB md ops l r (listed.setIfInBounds i true)
  | (i, k) :: r, listed => (Region.ready md ops listed).contains i && Region.free md ops listed i && ordB.ne l i && (Nat.beq k 2 || (Nat.beq k 0 && ordB.anc md ops l i)) && segB md ops l r (listed.setIfInBounds i true)
theorem wAnyL_seg {l : Option Nat} {fuel : Nat} (hs : Region.noSelect ops = true) : ∀ (o1 : List (Nat × Nat)) (listed : Array Bool) (a : Act) (w : World), segB md ops l o1 listed = true → Dc md ops listed → CL l C listed w → C w →
    Wlk P ops C (fun a w => C w → Dc md ops (setAll o1 listed) → wAnyL P md ops l C N fuel (setAll o1 listed) a w) o1 a w → wAnyL P md ops l C N (o1.length + fuel) listed a w
  | [], listed, a, w, _, hdc, _, hc, h => by
    rw [List.length_nil, Nat.zero_add]
    exact h hc hdc
  | (i, 1) :: r, listed, a, w, hB, hdc, hw, hc, h => by
    simp only [segB, Bool.and_eq_true] at hB
    obtain ⟨⟨h1, _⟩, h2⟩ := hB
    have hr := ready1 h1
    have hi : i ∈ Region.ready md ops listed := by rw [hr]; exact List.mem_singleton.2 rfl
    rw [List.length_cons, Nat.add_right_comm]
    refine ⟨fun h0 => (by rw [hr] at h0; cases h0), fun k hk => ?_⟩
    rw [hr] at hk
    simp only [List.mem_singleton] at hk
    subst hk
    have h' : rOp P ops C k (fun a w => C w ∧ Wlk P ops C (fun a w => C w → Dc md ops (setAll ((k, 1) :: r) listed) → wAnyL P md ops l C N fuel (setAll ((k, 1) :: r) listed) a w) r a w) a w := rOp_mono hc (fun _ _ hc hk => ⟨hc, hk⟩) h
    exact rOp_monoL (CL.of hc) (fun w' => CL.of) (fun a' w' hw' k' => wAnyL_seg hs r _ a' w' h2 (hdc.set hi) hw' k'.1 k'.2) h'
  | (i, 0) :: r, listed, a, w, hB, hdc, hw, hc, h => by
    simp only [segB, Bool.and_eq_true] at hB
    obtain ⟨⟨⟨⟨h1, h2⟩, h3⟩, h5⟩, h4⟩ := hB
    obtain ⟨o, v, ho, hy, hk⟩ := h
    have hi : i ∈ Region.ready md ops listed := by simpa using h1
    rw [List.length_cons, Nat.add_right_comm]
    have hanc : ordB.anc md ops l i = true := by simpa using h5
    refine wAnyL_first (D := C) ho (ne_spec h3) (fun li w' hd hr hcl => ?_) (Region.noSelect_spec hs) (r.length + fuel) listed a w hdc (Region.free_spec ho h2) hi hy hw (wAnyL_seg hs r _ _ w h4 (hdc.set hi) hw.ne_set hc hk)
    cases l with
    | none => exact hcl
    | some l =>
      rcases hcl with e | e
      · have h6 := hd.anc _ _ hanc e
        have h7 := (mem_ready.1 hr).1
        rcases Nat.lt_or_ge i li.size with h' | h'
        · simp [h'] at h6 h7; rw [h6] at h7; cases h7
        · simp [Array.getElem?_eq_none h'] at h6
      · exact e
  | (i, k + 2) :: r, listed, a, w, hB, hdc, hw, hc, h => by
    simp only [segB, Bool.and_eq_true] at hB
    obtain ⟨⟨⟨⟨h1, h2⟩, h3⟩, _⟩, h4⟩ := hB
    obtain ⟨o, v, ho, hy, hk⟩ := h
    have hi : i ∈ Region.ready md ops listed := by simpa using h1
    rw [List.length_cons, Nat.add_right_comm]
    exact wAnyL_first (D := fun _ => True) ho (ne_spec h3) (fun _ _ _ _ _ => trivial) (Region.noSelect_spec hs) (r.length + fuel) listed a w hdc (Region.free_spec ho h2) hi hy hw (wAnyL_seg hs r _ _ w h4 (hdc.set hi) hw.ne_set hc hk)
/-- several operations may come next: each of them -/
theorem wAnyL_fork {l : Option Nat} {fuel : Nat} {listed : Array Bool} {a : Act} {w : World} {is : List Nat} (hr : Region.ready md ops listed = is) (hne : is.isEmpty = false) (hdc : Dc md ops listed) (hc : C w)
    (h : ∀ i, i ∈ is → (rOp P ops C i (fun a w => C w → Dc md ops (listed.setIfInBounds i true) → wAnyL P md ops l C N fuel (listed.setIfInBounds i true) a w) a w)) : wAnyL P md ops l C N (fuel + 1) listed a w := by
  refine ⟨fun h0 => ?_, fun k hk => ?_⟩
  · rw [hr] at h0; rw [h0] at hne; cases hne
  · have h1 := h k (hr ▸ hk)
    have h' : rOp P ops C k (fun a w => C w ∧ (C w → Dc md ops (listed.setIfInBounds k true) → wAnyL P md ops l C N fuel (listed.setIfInBounds k true) a w)) a w := rOp_mono hc (fun _ _ hc hk => ⟨hc, hk⟩) h1
    exact rOp_monoL (CL.of hc) (fun w' => CL.of) (fun a' w' _ k' => k'.2 k'.1 (hdc.set hk)) h'
/-- the last part, in which nothing old is looked at any more -/
theorem wAnyL_last {l : Option Nat} (hs : Region.noSelect ops = true) {o2 : List (Nat × Nat)} {listed : Array Bool} {a : Act} {w : World} (hB : ordB.ord2 md ops l listed o2 = true) (hdc : Dc md ops listed) (hc : C w)
    (h : Wlk P ops (fun _ => True) N o2 a w) : wAnyL P md ops l C N o2.length listed a w := wAnyL_ord2 hs o2 listed a w hB hdc (CL.of hc) h

theorem Wlk_monoB {N' : Act → World → Prop} (hN : ∀ a w, N a w → N' a w) : ∀ (r : List (Nat × Nat)) (a : Act) (w : World), Wlk P ops C N r a w → C w → Wlk P ops C N' r a w
  | [], _, _, h, _ => hN _ _ h
  | (i, 0) :: r, a, w, ⟨o, v, h1, h2, h3⟩, hC => ⟨o, v, h1, h2, Wlk_monoB hN r _ _ h3 hC⟩
  | (i, 1) :: r, a, w, h, hC => by
    have h' : rOp P ops C i (Wlk P ops C N r) a w := h
    exact rOp_mono hC (fun a' w' hc hk => Wlk_monoB hN r a' w' hk hc) h'
  | (i, k + 2) :: r, a, w, ⟨o, v, h1, h2, h3⟩, hC => ⟨o, v, h1, h2, Wlk_monoB hN r _ _ h3 hC⟩

/-! ### the same over what is known of the temporaries -/
def WO (P : Program) (n : Nat) (ops : Array Oper) (C : World → Prop) (N : Act → World → Prop) (order : List (Nat × Nat)) (L : Env) (w : World) : Prop := ∀ a, Kn n L a → Wlk P ops C N order a w

def gd (ops : Array Oper) (L : Env) (o : Oper) : Option Bool :=
  match o.guard with
  | none => some true
  | some (j, b) => match (ops[j]?).bind (·.dst) with
    | some d => match look L d with
      | some (.bool c) => some (c == b)
      | some (.tuple _) => some false
      | _ => none
    | none => none

theorem gd_wanted {n : Nat} {L : Env} {o : Oper} {a : Act} {g : Bool} (ha : Kn n L a) (h : gd ops L o = some g) : Region.wanted o (yielded ops a.tmps) = g := by
  unfold gd at h
  unfold Region.wanted
  split at h
  · rename_i hg; simp only [hg]; simpa using h
  · rename_i j b hg
    simp only [hg]
    split at h
    · rename_i d hd
      have hy : yielded ops a.tmps j = match a.tmps[d]? with | some (.bool b) => some b | _ => none := by
        simp only [yielded, hd, Option.bind_some]
        rfl
      rw [hy]
      split at h
      · rename_i c hc
        rw [ha.2.2 d _ hc]
        simp only [Option.some.injEq] at h
        subst h
        cases c <;> cases b <;> rfl
      · rename_i c hc
        rw [ha.2.2 d _ hc]
        simp only [Option.some.injEq] at h
        subst h
        rfl
      · cases h
    · cases h

theorem WO.q {n : Nat} {r : List (Nat × Nat)} {L : Env} {w : World} {i d : Nat} {o : Oper} (ho : ops[i]? = some o) (hg : gd ops L o = some true) (hd : o.dst = some d) (hb : Nat.blt d n = true) {v : Value}
    (hr : ∀ a w', Kn n L a → C w' → (execOp a.eval o).run P w' = .ok (.value v) w') (k : WO P n ops C N r ((d, v) :: L) w) : WO P n ops C N ((i, 0) :: r) L w :=
  fun a ha => ⟨o, v, ho, .inl ⟨gd_wanted ha hg, fun w' hw' => hr a w' ha hw'⟩, by rw [hd]; exact k _ (ha.put hb v)⟩

theorem WO.qs {n : Nat} {r : List (Nat × Nat)} {L : Env} {w : World} {i d : Nat} {o : Oper} (ho : ops[i]? = some o) (hg : gd ops L o = some false) (hd : o.dst = some d) (hb : Nat.blt d n = true)
    (k : WO P n ops C N r ((d, undef) :: L) w) : WO P n ops C N ((i, 0) :: r) L w :=
  fun a ha => ⟨o, undef, ho, .inr ⟨gd_wanted ha hg, rfl⟩, by rw [hd]; exact k _ (ha.put hb undef)⟩

theorem WO.p {n : Nat} {r : List (Nat × Nat)} {L : Env} {w : World} {i d : Nat} {o : Oper} (ho : ops[i]? = some o) (hg : gd ops L o = some true) (hd : o.dst = some d) (hb : Nat.blt d n = true) {v : Value}
    (hr : ∀ a w', Kn n L a → (execOp a.eval o).run P w' = .ok (.value v) w') (k : WO P n ops C N r ((d, v) :: L) w) : WO P n ops C N ((i, 2) :: r) L w :=
  fun a ha => ⟨o, v, ho, .inl ⟨gd_wanted ha hg, fun w' _ => hr a w' ha⟩, by rw [hd]; exact k _ (ha.put hb v)⟩
theorem WO.ps {n : Nat} {r : List (Nat × Nat)} {L : Env} {w : World} {i d : Nat} {o : Oper} (ho : ops[i]? = some o) (hg : gd ops L o = some false) (hd : o.dst = some d) (hb : Nat.blt d n = true)
    (k : WO P n ops C N r ((d, undef) :: L) w) : WO P n ops C N ((i, 2) :: r) L w :=
  fun a ha => ⟨o, undef, ho, .inr ⟨gd_wanted ha hg, rfl⟩, by rw [hd]; exact k _ (ha.put hb undef)⟩

theorem WO.ls {n : Nat} {r : List (Nat × Nat)} {L : Env} {w : World} {i d : Nat} {o : Oper} (ho : ops[i]? = some o) (hg : gd ops L o = some false) (hd : o.dst = some d) (hb : Nat.blt d n = true)
    (k : WO P n ops C N r ((d, undef) :: L) w) : WO P n ops C N ((i, 1) :: r) L w :=
  fun a ha => by simp only [Wlk, rOp, ho, gd_wanted ha hg, Bool.false_eq_true, if_false, hd]; exact k _ (ha.put hb undef)

theorem WO.l {n : Nat} {r : List (Nat × Nat)} {L : Env} {w : World} {i d : Nat} {o : Oper} (ho : ops[i]? = some o) (hg : gd ops L o = some true) (hd : o.dst = some d) (hb : Nat.blt d n = true)
    (hr : ∀ a, Kn n L a → Runs P o a w (fun v w' => C w' ∧ WO P n ops C N r ((d, v) :: L) w')) : WO P n ops C N ((i, 1) :: r) L w :=
  fun a ha => by
    simp only [Wlk, rOp, ho, gd_wanted ha hg, if_true, hd]
    exact (hr a ha).mono fun v w' ⟨hc, hk⟩ => ⟨hc, hk _ (ha.put hb v)⟩

/-- an operation without a destination (a store) -/
theorem WO.ln {n : Nat} {r : List (Nat × Nat)} {L : Env} {w : World} {i : Nat} {o : Oper} (ho : ops[i]? = some o) (hg : gd ops L o = some true) (hd : o.dst = none)
    (hr : ∀ a, Kn n L a → Runs P o a w (fun _ w' => C w' ∧ WO P n ops C N r L w')) : WO P n ops C N ((i, 1) :: r) L w :=
  fun a ha => by
    simp only [Wlk, rOp, ho, gd_wanted ha hg, if_true, hd]
    exact (hr a ha).mono fun v w' ⟨hc, hk⟩ => ⟨hc, hk _ ha⟩

theorem WO.done {n : Nat} {L : Env} {w : World} (h : ∀ a, Kn n L a → N a w) : WO P n ops C N [] L w := h
end

/-! ### code -/
section
variable {P : Program} {n : Nat} {Q : Exit → Act → World → Prop} {L : Env} {w : World}
def WC (P : Program) (n : Nat) (c : Code) (Q : Exit → Act → World → Prop) (L : Env) (w : World) : Prop := ∀ a, Kn n L a → c.wp P Q a w
def DN (n : Nat) (Q : Exit → Act → World → Prop) (e : Exit) (L : Env) (w : World) : Prop := ∀ a, Kn n L a → Q e a w

theorem WC.reg {id : Nat} {ops : Array Oper} (C : World → Prop) (order : List (Nat × Nat)) (hB : order.map (·.1) = List.range ops.size) (hC : C w)
    (h : WO P n ops C (fun a w => Q .normal a w) order L w) : WC P n (.region id ops false) Q L w := fun a ha => wp_region_seq order hB hC (h a ha)
theorem WC.regd {id : Nat} {ops : Array Oper} (C : World → Prop) (l : Option Nat) (o1 o2 : List (Nat × Nat)) (hm : P.follows .mixedOrders = true) (hB : ordOk ops l o1 o2 = true) (hC : C { w with drawn := w.drawn + 1 })
    (h : WO P n ops C (fun a w => Wlk P ops (fun _ => True) (fun a w => Q .normal a w) o2 a w) o1 L { w with drawn := w.drawn + 1 }) : WC P n (.region id ops true) Q L w := fun a ha => wp_region_ord l o1 o2 hm hB hC (h a ha)
/-- what is left of a region in which the operations listed have come up -/
def WA (P : Program) (n : Nat) (ops : Array Oper) (l : Option Nat) (C : World → Prop) (N : Act → World → Prop) (listed : Array Bool) (fuel : Nat) (L : Env) (w : World) : Prop := ∀ a, Kn n L a → C w → Dc .any ops listed → wAnyL P .any ops l C N fuel listed a w
section
variable {ops : Array Oper} {l : Option Nat} {C : World → Prop} {N : Act → World → Prop} {listed : Array Bool} {fuel : Nat}
theorem WA.seg (o : List (Nat × Nat)) {fuel' : Nat} (hs : Region.noSelect ops = true) (hB : segB .any ops l o listed = true) (hf : o.length + fuel = fuel')
    (h : WO P n ops C (fun a w => ∃ L, Kn n L a ∧ WA P n ops l C N (setAll o listed) fuel L w) o L w) : WA P n ops l C N listed fuel' L w := fun a ha hc hdc => by
  subst hf
  refine wAnyL_seg hs o listed a w hB hdc (CL.of hc) hc ?_
  exact Wlk_monoB (fun a w ⟨L, hk, hw⟩ hc hd => hw a hk hc hd) o a w (h a ha) hc
theorem WO.wa {listed : Array Bool} {fuel : Nat} (h : WA P n ops l C N listed fuel L w) : WO P n ops C (fun a w => ∃ L, Kn n L a ∧ WA P n ops l C N listed fuel L w) [] L w := fun a ha => ⟨L, ha, h⟩
theorem WA.fork (is : List Nat) {fuel' : Nat} (hr : Region.ready .any ops listed = is) (hne : is.isEmpty = false) (hf : fuel + 1 = fuel')
    (h : ∀ i, i ∈ is → WO P n ops C (fun a w => ∃ L, Kn n L a ∧ WA P n ops l C N (listed.setIfInBounds i true) fuel L w) [(i, 1)] L w) : WA P n ops l C N listed fuel' L w := fun a ha hc hdc => by
  subst hf
  refine wAnyL_fork hr hne hdc hc fun i hi => ?_
  have h1 : rOp P ops C i (fun a w => ∃ L, Kn n L a ∧ WA P n ops l C N (listed.setIfInBounds i true) fuel L w) a w := h i hi a ha
  exact rOp_mono hc (fun a w _ ⟨L, hk, hw⟩ hc hd => hw a hk hc hd) h1
theorem WA.fork2 (i j : Nat) {fuel' : Nat} (hr : Region.ready .any ops listed = [i, j]) (hf : fuel + 1 = fuel')
    (h1 : WO P n ops C (fun a w => ∃ L, Kn n L a ∧ WA P n ops l C N (listed.setIfInBounds i true) fuel L w) [(i, 1)] L w)
    (h2 : WO P n ops C (fun a w => ∃ L, Kn n L a ∧ WA P n ops l C N (listed.setIfInBounds j true) fuel L w) [(j, 1)] L w) : WA P n ops l C N listed fuel' L w :=
  WA.fork [i, j] hr rfl hf fun k hk => by
    simp only [List.mem_cons, List.not_mem_nil, or_false] at hk
    rcases hk with rfl | rfl
    · exact h1
    · exact h2
theorem WA.fork3 (i j m : Nat) {fuel' : Nat} (hr : Region.ready .any ops listed = [i, j, m]) (hf : fuel + 1 = fuel')
    (h1 : WO P n ops C (fun a w => ∃ L, Kn n L a ∧ WA P n ops l C N (listed.setIfInBounds i true) fuel L w) [(i, 1)] L w)
    (h2 : WO P n ops C (fun a w => ∃ L, Kn n L a ∧ WA P n ops l C N (listed.setIfInBounds j true) fuel L w) [(j, 1)] L w)
    (h3 : WO P n ops C (fun a w => ∃ L, Kn n L a ∧ WA P n ops l C N (listed.setIfInBounds m true) fuel L w) [(m, 1)] L w) : WA P n ops l C N listed fuel' L w :=
  WA.fork [i, j, m] hr rfl hf fun k hk => by
    simp only [List.mem_cons, List.not_mem_nil, or_false] at hk
    rcases hk with rfl | rfl | rfl
    · exact h1
    · exact h2
    · exact h3
theorem getD_set_keep {listed : Array Bool} {i l : Nat} (h : listed.getD l false = true) : (listed.setIfInBounds i true).getD l false = true := by
  by_cases e : i = l
  · subst e
    have hs : i < listed.size := by
      rcases Nat.lt_or_ge i listed.size with h' | h'
      · exact h'
      · simp [Array.getElem?_eq_none h'] at h
    simp [hs]
  · simp only [Array.getD_eq_getD_getElem?, Array.getElem?_setIfInBounds_ne e] at h ⊢
    exact h
theorem wAnyL_free {md : Region.Mode} {C' : World → Prop} {l0 : Nat} : ∀ (fuel : Nat) (listed : Array Bool) (a : Act) (w : World), listed.getD l0 false = true → wAnyL P md ops (some l0) C N fuel listed a w → wAnyL P md ops (some l0) C' N fuel listed a w
  | 0, _, _, _, _, h => h
  | fuel + 1, listed, a, w, hl, h => ⟨h.1, fun i hi => rOp_monoL (.inl (getD_set_keep hl)) (fun w' _ => .inl (getD_set_keep hl)) (fun a' w' _ k => wAnyL_free fuel _ a' w' (getD_set_keep hl) k) (h.2 i hi)⟩
/-- a fork in which the touch of old memory may come next -/
theorem WA.forkB (is : List Nat) (l0 : Nat) {fuel' : Nat} (hr : Region.ready .any ops listed = is) (hne : is.isEmpty = false) (hf : fuel + 1 = fuel') (hl : (listed.setIfInBounds l0 true).getD l0 false = true)
    (h : ∀ i, i ∈ is → i ≠ l0 → WO P n ops C (fun a w => ∃ L, Kn n L a ∧ WA P n ops (some l0) C N (listed.setIfInBounds i true) fuel L w) [(i, 1)] L w)
    (hb : WO P n ops (fun _ => True) (fun a w => ∃ L, Kn n L a ∧ WA P n ops (some l0) (fun _ => True) N (listed.setIfInBounds l0 true) fuel L w) [(l0, 1)] L w) : WA P n ops (some l0) C N listed fuel' L w := fun a ha hc hdc => by
  subst hf
  refine ⟨fun h0 => ?_, fun k hk => ?_⟩
  · rw [hr] at h0; rw [h0] at hne; cases hne
  · by_cases e : k = l0
    · subst e
      have h1 : rOp P ops (fun _ => True) k (fun a w => ∃ L, Kn n L a ∧ WA P n ops (some k) (fun _ => True) N (listed.setIfInBounds k true) fuel L w) a w := hb a ha
      exact rOp_monoL (.inl hl) (fun _ _ => .inl hl) (fun a' w' _ ⟨L, hk', hw⟩ => wAnyL_free _ _ _ _ hl (hw a' hk' trivial (hdc.set hk))) h1
    · have h1 : rOp P ops C k (fun a w => ∃ L, Kn n L a ∧ WA P n ops (some l0) C N (listed.setIfInBounds k true) fuel L w) a w := h k (hr ▸ hk) e a ha
      have h' : rOp P ops C k (fun a w => C w ∧ ∃ L, Kn n L a ∧ WA P n ops (some l0) C N (listed.setIfInBounds k true) fuel L w) a w := rOp_mono hc (fun _ _ hc hk => ⟨hc, hk⟩) h1
      exact rOp_monoL (CL.of hc) (fun w' => CL.of) (fun a' w' _ ⟨c, L, hk', hw⟩ => hw a' hk' c (hdc.set hk)) h'
theorem WA.forkB2r (i l0 : Nat) {fuel' : Nat} (hr : Region.ready .any ops listed = [i, l0]) (hf : fuel + 1 = fuel') (hl : (listed.setIfInBounds l0 true).getD l0 false = true)
    (h : WO P n ops C (fun a w => ∃ L, Kn n L a ∧ WA P n ops (some l0) C N (listed.setIfInBounds i true) fuel L w) [(i, 1)] L w)
    (hb : WO P n ops (fun _ => True) (fun a w => ∃ L, Kn n L a ∧ WA P n ops (some l0) (fun _ => True) N (listed.setIfInBounds l0 true) fuel L w) [(l0, 1)] L w) : WA P n ops (some l0) C N listed fuel' L w :=
  WA.forkB [i, l0] l0 hr rfl hf hl (fun k hk hne => by
    simp only [List.mem_cons, List.not_mem_nil, or_false] at hk
    rcases hk with rfl | rfl
    · exact h
    · exact absurd rfl hne) hb
theorem WA.forkB2l (l0 i : Nat) {fuel' : Nat} (hr : Region.ready .any ops listed = [l0, i]) (hf : fuel + 1 = fuel') (hl : (listed.setIfInBounds l0 true).getD l0 false = true)
    (h : WO P n ops C (fun a w => ∃ L, Kn n L a ∧ WA P n ops (some l0) C N (listed.setIfInBounds i true) fuel L w) [(i, 1)] L w)
    (hb : WO P n ops (fun _ => True) (fun a w => ∃ L, Kn n L a ∧ WA P n ops (some l0) (fun _ => True) N (listed.setIfInBounds l0 true) fuel L w) [(l0, 1)] L w) : WA P n ops (some l0) C N listed fuel' L w :=
  WA.forkB [l0, i] l0 hr rfl hf hl (fun k hk hne => by
    simp only [List.mem_cons, List.not_mem_nil, or_false] at hk
    rcases hk with rfl | rfl
    · exact absurd rfl hne
    · exact h) hb
theorem WA.forkB3r (i j l0 : Nat) {fuel' : Nat} (hr : Region.ready .any ops listed = [i, j, l0]) (hf : fuel + 1 = fuel') (hl : (listed.setIfInBounds l0 true).getD l0 false = true)
    (h1 : WO P n ops C (fun a w => ∃ L, Kn n L a ∧ WA P n ops (some l0) C N (listed.setIfInBounds i true) fuel L w) [(i, 1)] L w)
    (h2 : WO P n ops C (fun a w => ∃ L, Kn n L a ∧ WA P n ops (some l0) C N (listed.setIfInBounds j true) fuel L w) [(j, 1)] L w)
    (hb : WO P n ops (fun _ => True) (fun a w => ∃ L, Kn n L a ∧ WA P n ops (some l0) (fun _ => True) N (listed.setIfInBounds l0 true) fuel L w) [(l0, 1)] L w) : WA P n ops (some l0) C N listed fuel' L w :=
  WA.forkB [i, j, l0] l0 hr rfl hf hl (fun k hk hne => by
    simp only [List.mem_cons, List.not_mem_nil, or_false] at hk
    rcases hk with rfl | rfl | rfl
    · exact h1
    · exact h2
    · exact absurd rfl hne) hb
theorem WA.brk (l0 : Nat) {fuel' : Nat} (hr : Region.ready .any ops listed = [l0]) (hf : fuel + 1 = fuel') (hl : (listed.setIfInBounds l0 true).getD l0 false = true)
    (hb : WO P n ops (fun _ => True) (fun a w => ∃ L, Kn n L a ∧ WA P n ops (some l0) (fun _ => True) N (listed.setIfInBounds l0 true) fuel L w) [(l0, 1)] L w) : WA P n ops (some l0) C N listed fuel' L w :=
  WA.forkB [l0] l0 hr rfl hf hl (fun k hk hne => absurd (List.mem_singleton.1 hk) hne) hb
theorem WA.last (o2 : List (Nat × Nat)) (hs : Region.noSelect ops = true) (hB : ordB.ord2 .any ops l listed o2 = true) (hf : o2.length = fuel)
    (h : WO P n ops (fun _ => True) N o2 L w) : WA P n ops l C N listed fuel L w := fun a ha hc hdc => by
  subst hf
  exact wAnyL_last hs hB hdc hc (h a ha)
end
theorem WC.regt {id : Nat} {ops : Array Oper} (C : World → Prop) (l : Option Nat) (hm : P.follows .mixedOrders = true) (hC : C { w with drawn := w.drawn + 1 })
    (h : WA P n ops l C (fun a w => Q .normal a w) (Array.replicate ops.size false) ops.size L { w with drawn := w.drawn + 1 }) : WC P n (.region id ops true) Q L w := fun a ha => by
  refine wp_region_any hm (wpAny_of_wAnyL (N := fun a w => Q .normal a w) (l := l) (C := C) (fun _ _ h => h) _ _ _ _ (h a ha hC ?_))
  intro j o _ hl
  exfalso
  rcases Nat.lt_or_ge j ops.size with h' | h'
  · simp [h'] at hl
  · simp [Array.getElem?_eq_none, h'] at hl
theorem WC.seq {x y : Code} (h : WC P n x (Exit.then (y.wp P Q) Q) L w) : WC P n (.seq x y) Q L w := fun a ha => wp_seq (h a ha)
theorem WC.skip (h : DN n Q .normal L w) : WC P n .skip Q L w := fun a ha => wp_skip (h a ha)
theorem WC.label {l : Nat} (h : DN n Q .normal L w) : WC P n (.label l) Q L w := fun a ha => wp_label (h a ha)
theorem WC.exit {id : Nat} (h : DN n Q (.exit id) L w) : WC P n (.exit id) Q L w := fun a ha => wp_exit (h a ha)
theorem WC.ret (h : DN n Q .ret L w) : WC P n .ret Q L w := fun a ha => wp_ret (h a ha)
theorem WC.block {id : Nat} {c : Code} (h : WC P n c (Exit.inBlock id Q) L w) : WC P n (.block id c) Q L w := fun a ha => wp_block (h a ha)
theorem WC.ct {c : Operand} {x y : Code} (hc : opd L c = some (.bool true)) (h : WC P n x Q L w) : WC P n (.cond c x y) Q L w := fun a ha => wp_cond_true (ha.eval hc) (h a ha)
theorem WC.cf {c : Operand} {x y : Code} (hc : opd L c = some (.bool false)) (h : WC P n y Q L w) : WC P n (.cond c x y) Q L w := fun a ha => wp_cond_false (ha.eval hc) (h a ha)

theorem DN.seq {y : Code} (h : WC P n y Q L w) : DN n (Exit.then (y.wp P Q) Q) .normal L w := h
theorem DN.exitThen {K : Act → World → Prop} {id : Nat} (h : DN n Q (.exit id) L w) : DN n (Exit.then K Q) (.exit id) L w := h
theorem DN.retThen {K : Act → World → Prop} (h : DN n Q .ret L w) : DN n (Exit.then K Q) .ret L w := h
theorem DN.retBlock {id : Nat} (h : DN n Q .ret L w) : DN n (Exit.inBlock id Q) .ret L w := h
theorem DN.block {id : Nat} (h : DN n Q .normal L w) : DN n (Exit.inBlock id Q) .normal L w := h
theorem DN.hit {id : Nat} (h : DN n Q .normal L w) : DN n (Exit.inBlock id Q) (.exit id) L w := fun a ha => by simp only [Exit.inBlock, if_true]; exact h a ha
theorem DN.miss {id id' : Nat} (hn : Nat.beq id' id = false) (h : DN n Q (.exit id') L w) : DN n (Exit.inBlock id Q) (.exit id') L w := fun a ha => by
  have : ¬ id' = id := fun e => by rw [e, Nat.beq_refl] at hn; cases hn
  simp only [Exit.inBlock, this, if_false]; exact h a ha
theorem DN.to {N : Act → World → Prop} {ops : Array Oper} {C : World → Prop} (h : DN n Q .normal L w) (hN : ∀ a w, Q .normal a w → N a w) : WO P n ops C N [] L w := fun a ha => hN _ _ (h a ha)

theorem least (p : Nat → Prop) (h : ∃ k, p k) : ∃ k, p k ∧ ∀ j, p j → k ≤ j := by
  obtain ⟨k, hk⟩ := h
  induction k using Nat.strongRecOn with
  | _ k ih =>
    by_cases hs : ∃ j, j < k ∧ p j
    · obtain ⟨j, hj, hp⟩ := hs; exact ih j hj hp
    · exact ⟨k, hk, fun j hp => Nat.le_of_not_lt fun hlt => hs ⟨j, hlt, hp⟩⟩

/-- a loop: what is known at its head is a relation with a number that every round lowers -/
theorem WC.loop {c : Code} (I : Nat → Env → World → Prop) (h0 : ∃ k L', I k L' w ∧ ∀ a, Kn n L a → Kn n L' a)
    (step : ∀ k L w, I k L w → WC P n c (Exit.then (fun a' w' => ∃ k' L', k' < k ∧ I k' L' w' ∧ Kn n L' a') Q) L w) : WC P n (.loop c) Q L w := by
  intro a ha
  obtain ⟨k0, L0, hI, hk⟩ := h0
  classical
  let J : Act → World → Prop := fun a w => ∃ k L, I k L w ∧ Kn n L a
  let μ : Act → World → Nat := fun a w => if h : ∃ k, ∃ L, I k L w ∧ Kn n L a then Classical.choose (least _ h) else 0
  refine wp_loop J μ ⟨k0, L0, hI, hk a ha⟩ ?_
  intro a w hJ
  have hex : ∃ k, ∃ L, I k L w ∧ Kn n L a := hJ
  have hs := Classical.choose_spec (least _ hex)
  obtain ⟨L1, hI1, hk1⟩ := hs.1
  refine wp_mono (step _ L1 w hI1 a hk1) ?_
  intro e a' w' h
  cases e <;> try exact h
  obtain ⟨k', L', hlt, hI', hk'⟩ := h
  refine ⟨⟨k', L', hI', hk'⟩, ?_⟩
  have hex' : ∃ k, ∃ L, I k L w' ∧ Kn n L a' := ⟨k', L', hI', hk'⟩
  show (if h : ∃ k, ∃ L, I k L w' ∧ Kn n L a' then Classical.choose (least _ h) else 0) < (if h : ∃ k, ∃ L, I k L w ∧ Kn n L a then Classical.choose (least _ h) else 0)
  rw [dif_pos hex', dif_pos hex]
  exact Nat.lt_of_le_of_lt ((Classical.choose_spec (least _ hex')).2 k' ⟨L', hI', hk'⟩) hlt
end

end Go.Wk
