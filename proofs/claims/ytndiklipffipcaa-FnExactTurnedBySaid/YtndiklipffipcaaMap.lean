/- Maps in memory: association lists; keys out of integers. -/
import Derived.Test.YtndiklipffipcaaLoop
import Derived.DeepKeys4
import Derived.WideKeyArr
import Derived.Laws.StructEq
set_option linter.unusedVariables false
set_option linter.unusedSimpArgs false
namespace Go.Wk
open Go

/-! ### association lists -/
def getK {K V : Type} [DecidableEq K] : List (K × V) → K → Option V
  | [], _ => none
  | p :: r, k => if k = p.1 then some p.2 else getK r k
def putK {K V : Type} [DecidableEq K] : List (K × V) → K → V → List (K × V)
  | [], k, v => [(k, v)]
  | p :: r, k, v => if k = p.1 then (k, v) :: r else p :: putK r k v
section
variable {K V : Type} [DecidableEq K]
theorem getK_none : ∀ {xs : List (K × V)} {k : K}, (∀ p ∈ xs, p.1 ≠ k) → getK xs k = none
  | [], _, _ => rfl
  | p :: r, k, h => by
    have h1 := h p (List.mem_cons_self ..)
    simp only [getK, if_neg (fun e => h1 e.symm : ¬ k = p.1)]
    exact getK_none fun q hq => h q (List.mem_cons_of_mem _ hq)
theorem putK_none : ∀ {xs : List (K × V)} {k : K} {v : V}, (∀ p ∈ xs, p.1 ≠ k) → putK xs k v = xs ++ [(k, v)]
  | [], _, _, _ => rfl
  | p :: r, k, v, h => by
    have h1 := h p (List.mem_cons_self ..)
    simp only [putK, if_neg (fun e => h1 e.symm : ¬ k = p.1), List.cons_append]
    rw [putK_none fun q hq => h q (List.mem_cons_of_mem _ hq)]
theorem getK_at : ∀ {xs : List (K × V)} {k : K} {v : V} {j : Nat}, (xs.map (·.1)).Nodup → xs[j]? = some (k, v) → getK xs k = some v
  | [], _, _, _, _, h => by simp at h
  | p :: r, k, v, 0, _, h => by
    simp only [List.getElem?_cons_zero, Option.some.injEq] at h
    subst h
    simp [getK]
  | p :: r, k, v, j + 1, hn, h => by
    simp only [List.getElem?_cons_succ] at h
    rw [List.map_cons, List.nodup_cons] at hn
    have : ¬ k = p.1 := fun e => hn.1 (e ▸ List.mem_map.2 ⟨(k, v), List.mem_of_getElem? h, rfl⟩)
    simp only [getK, if_neg this]
    exact getK_at hn.2 h
theorem putK_at : ∀ {xs : List (K × V)} {k : K} {v v0 : V} {j : Nat}, (xs.map (·.1)).Nodup → xs[j]? = some (k, v0) → putK xs k v = xs.set j (k, v)
  | [], _, _, _, _, _, h => by simp at h
  | p :: r, k, v, v0, 0, _, h => by
    simp only [List.getElem?_cons_zero, Option.some.injEq] at h
    subst h
    simp [putK]
  | p :: r, k, v, v0, j + 1, hn, h => by
    simp only [List.getElem?_cons_succ] at h
    rw [List.map_cons, List.nodup_cons] at hn
    have : ¬ k = p.1 := fun e => hn.1 (e ▸ List.mem_map.2 ⟨(k, v0), List.mem_of_getElem? h, rfl⟩)
    simp only [putK, if_neg this, List.set_cons_succ]
    rw [putK_at hn.2 h]
omit [DecidableEq K] in
theorem putK_keys {xs : List (K × V)} {k : K} {v v0 : V} {j : Nat} (h : xs[j]? = some (k, v0)) : (xs.set j (k, v)).map (·.1) = xs.map (·.1) := by
  apply List.ext_getElem?
  intro i
  simp only [List.getElem?_map, List.getElem?_set]
  split
  · rename_i e
    subst e
    split
    · rw [h]; rfl
    · rename_i hl
      rw [List.getElem?_eq_none (by omega)]
  · rfl
/-- looked up, where the key is a value of its type -/
def mget (wf : K → Bool) (xs : List (K × V)) (k : K) (z : V) : Option (V × Bool) := if wf k = true then some (match getK xs k with | some v => (v, true) | none => (z, false)) else none
def mset (wf : K → Bool) (xs : List (K × V)) (k : K) (v : V) : Option (List (K × V)) := if wf k = true then some (putK xs k v) else none
end

/-! ### in memory -/
structure KeyE (P : Program) (kt : TypeId) {K : Type} (kf : K → Value) (wf : K → Bool) : Prop where
  law : WideMaps.KeyLaw P kt
  key : ∀ k, wf k = true → ∃ l, keyOf P kt (kf k) = some l
  inj : ∀ k k', kf k = kf k' → k = k'
def Mx {K V : Type} (wf : K → Bool) (kf : K → Value) (vf : V → Value) (w : World) (b : Nat) (xs : List (K × V)) : Prop :=
  ∃ es clock, w.heap[b]? = some (.map es clock) ∧ es.toList.map (fun e => (e.key, e.val)) = xs.map (fun p => (kf p.1, vf p.2)) ∧ (∀ p ∈ xs, wf p.1 = true) ∧ (xs.map (·.1)).Nodup
structure Mc {K V : Type} (wf : K → Bool) (kf : K → Value) (vf : V → Value) (κ : Col) (w : World) (i : Nat) (b : Nat) (xs : List (K × V)) : Prop where
  mx : Mx wf kf vf w b xs
  col : κ b = i
section
variable {K V : Type} {wf : K → Bool} {kf : K → Value} {vf : V → Value} {X : List Nat} {κ κ' κ1 : Col} {w w' w1 : World} {i j b : Nat} {xs : List (K × V)}
theorem Mx.lt (h : Mx wf kf vf w b xs) : b < w.heap.size := by
  obtain ⟨es, clock, h1, _⟩ := h
  exact (Array.getElem?_eq_some_iff.1 h1).1
theorem Mx.of (h : Mx wf kf vf w b xs) (e : w'.heap[b]? = w.heap[b]?) : Mx wf kf vf w' b xs := by
  obtain ⟨es, clock, h1, h2⟩ := h
  exact ⟨es, clock, e.trans h1, h2⟩
theorem Mc.stp (h : Mc wf kf vf κ w i b xs) (s : Stp X κ w κ' w') (h0 : nin X 0 = true) (hi : nin X i = true) : Mc wf kf vf κ' w' i b xs := by
  obtain ⟨h1, h2⟩ := s.keep b h.mx.lt (by rw [h.col]; exact nin_true.1 hi)
  exact ⟨h.mx.of h2, h1.trans h.col⟩
theorem Mc.map (h : Mc wf kf vf κ w i b xs) (g : Nat → Nat) (h0 : g 0 = 0) (hi : g i = j) : Mc wf kf vf (fun b => g (κ b)) w j b xs := ⟨h.mx, by show g (κ b) = j; rw [h.col, hi]⟩
theorem Mc.frz (h : Mc wf kf vf κ w i b xs) : Mc wf kf vf (fzc κ i) w 0 b xs := ⟨h.mx, fzc_of h.col⟩
theorem Mc.mx' {base k : Nat} (h : Mc wf kf vf κ1 w1 k b xs) (hm : ∀ b, 2 ≤ κ1 b → κ' b = base + κ1 b) (hk : Nat.ble 2 k = true) (hj : base + k = j) : Mc wf kf vf κ' w1 j b xs :=
  ⟨h.mx, by rw [hm b (by rw [h.col]; exact Nat.ble_eq.mp hk), h.col, hj]⟩
theorem mvC {N : List Nat} (h : Mc wf kf vf κ w i b xs) (hl : lle [i] N = true) : ∀ w', Cl N κ w w' → Mx wf kf vf w' b xs := fun w' hw => h.mx.of (hw b h.mx.lt (by rw [h.col]; exact lle_mem hl _ (by simp)))
theorem mvE (h : Mc wf kf vf κ w i b xs) : ∀ w', w' = w → Mx wf kf vf w' b xs := fun w' hw => by rw [hw]; exact h.mx
end
/-- what a search finds -/
theorem Mx.find {K V : Type} [DecidableEq K] {P : Program} {kt : TypeId} {wf : K → Bool} {kf : K → Value} {vf : V → Value} {xs : List (K × V)} {es : Array MapEntry} (E : KeyE P kt kf wf) (hes : es.toList.map (fun e => (e.key, e.val)) = xs.map (fun p => (kf p.1, vf p.2)))
    (hwf : ∀ p ∈ xs, wf p.1 = true) (hn : (xs.map (·.1)).Nodup) {k : K} (hk : wf k = true) (w : World) :
    ((Instr.findKey kt (kf k) es.toList).run P w = .ok none w ∧ ∀ p ∈ xs, p.1 ≠ k) ∨ ∃ (j : Nat) (v : V) (e : MapEntry), (Instr.findKey kt (kf k) es.toList).run P w = .ok (some (j, vf v)) w ∧ xs[j]? = some (k, v) ∧ es[j]? = some e ∧ e.key = kf k := by
  have hat : ∀ (j : Nat) (e : MapEntry), es.toList[j]? = some e → ∃ p, xs[j]? = some p ∧ e.key = kf p.1 ∧ e.val = vf p.2 := fun j e he => by
    have h1 := congrArg (fun l => l[j]?) hes
    simp only [List.getElem?_map, he, Option.map_some] at h1
    cases hx : xs[j]? with
    | none => rw [hx] at h1; cases h1
    | some p =>
      rw [hx] at h1
      simp only [Option.map_some, Option.some.injEq, Prod.mk.injEq] at h1
      exact ⟨p, rfl, h1.1, h1.2⟩
  obtain ⟨l, hl⟩ := E.key k hk
  rcases E.law.find w hl es.toList (fun e he => by
    obtain ⟨j, hj⟩ := List.mem_iff_getElem?.1 he
    obtain ⟨p, h1, h2, _⟩ := hat j e hj
    rw [h2]
    exact E.key _ (hwf p (List.mem_of_getElem? h1))) with ⟨h1, h2⟩ | ⟨j, e, h1, h2, h3⟩
  · refine .inl ⟨h1, fun p hp hpk => ?_⟩
    obtain ⟨j, hj⟩ := List.mem_iff_getElem?.1 hp
    have h3 := congrArg (fun l => l[j]?) hes
    simp only [List.getElem?_map, hj, Option.map_some] at h3
    cases hx : es.toList[j]? with
    | none => rw [hx] at h3; cases h3
    | some e =>
      rw [hx] at h3
      simp only [Option.map_some, Option.some.injEq, Prod.mk.injEq] at h3
      exact h2 e (List.mem_of_getElem? hx) (by rw [h3.1, hpk])
  · obtain ⟨p, h4, h5, h6⟩ := hat j e h2
    have hpk : p.1 = k := E.inj _ _ (by rw [← h5, h3])
    refine .inr ⟨j, p.2, e, by rw [h1, h6], by rw [h4, ← hpk], by simpa using h2, h3⟩
section
variable {P : Program} {n : Nat} {ops : Array Oper} {C : World → Prop} {N : Act → World → Prop} {r : List (Nat × Nat)} {L : Env} {κ : Col} {w : World} {i d : Nat} {o : Oper}
variable {K V : Type} [DecidableEq K] {wf : K → Bool} {kf : K → Value} {vf : V → Value} {xs zs : List (K × V)} {b : Nat} {t kt et : TypeId} {k : K} {v z : V}
theorem rn_lookup {x ix : Operand} {r : V × Bool} (E : KeyE P kt kf wf) (ht : ∀ w, (underlying t).run P w = .ok (.map kt et) w) (hz : ∀ w, (zeroValue et).run P w = .ok (vf z) w) (ho : o.op = .lookup t x ix true) (hx : opd L x = some (.map (some b)))
    (hk : opd L ix = some (kf k)) (hm : ∀ w, C w → Mx wf kf vf w b xs) (h : mget wf xs k z = some r) : Rn P n C o L (.tuple #[vf r.1, .bool r.2]) := fun a w ha hc => by
  unfold mget at h
  split at h
  · rename_i hwk
    simp only [Option.some.injEq] at h
    subst h
    obtain ⟨es, clock, h1, h2, h3, h4⟩ := hm w hc
    obtain ⟨l, hl⟩ := E.key k hwk
    have hchk := fun e => E.law.check w e hl
    rcases Mx.find E h2 h3 h4 hwk w with ⟨h5, h6⟩ | ⟨j, v, e, h5, h6, h7, h8⟩
    · rw [getK_none h6]
      simp [execOp, ho, ha.eval hx, ha.eval hk, Instr.lookup, ht, MapKept.run_getObj_map h1, hchk, h5, hz, Result.andThen]
    · rw [getK_at h4 h6]
      simp [execOp, ho, ha.eval hx, ha.eval hk, Instr.lookup, ht, MapKept.run_getObj_map h1, hchk, h5, Result.andThen]
  · cases h
omit [DecidableEq K] in
theorem WO.mkmap (q : Nat) (ho : ops[i]? = some o) (hg : gd ops L o = some true) (hd : o.dst = some d) (hb : Nat.blt d n = true) (hop : o.op = .makeMap t none) (wf : K → Bool) (kf : K → Value) (vf : V → Value)
    (k : ∀ b w' κ', Stp [] κ w κ' w' → Mc wf kf vf κ' w' q b [] → C w' ∧ WO P n ops C N r ((d, .map (some b)) :: L) w') : WO P n ops C N ((i, 1) :: r) L w :=
  WO.l ho hg hd hb fun a ha => by
    unfold Runs
    have : (execOp a.eval o).run P w = .ok (.value (.map (some w.heap.size))) (w.alloc (.map #[] 0)) := by
      simp only [execOp, hop, Instr.makeMap, Sem.run_bind, Sem.run_pure, Result.andThen_ok, run_newObj, Option.map_none]
      rfl
    rw [this]
    exact k _ _ _ (Stp.nw q (Ext.alloc _ _)) ⟨⟨#[], 0, heap_alloc_new w _, rfl, by simp, by simp⟩, nw_new (Nat.le_refl _)⟩
theorem WO.mapup (q : Nat) (ho : ops[i]? = some o) (hg : gd ops L o = some true) (hd : o.dst = none) {x ix y : Operand} (hop : o.op = .mapUpdate t x ix y) (hx : opd L x = some (.map (some b))) (hk : opd L ix = some (kf k)) (hy : opd L y = some (vf v))
    (E : KeyE P kt kf wf) (ht : ∀ w, (underlying t).run P w = .ok (.map kt et) w) (hm : Mc wf kf vf κ w q b xs) (h : mset wf xs k v = some zs)
    (c : ∀ w', Stp [q] κ w κ w' → Mc wf kf vf κ w' q b zs → C w' ∧ WO P n ops C N r L w') : WO P n ops C N ((i, 1) :: r) L w :=
  WO.ln ho hg hd fun act ha => by
    unfold mset at h
    split at h
    · rename_i hwk
      simp only [Option.some.injEq] at h
      obtain ⟨⟨es, clock, h1, h2, h3, h4⟩, hcol⟩ := hm
      obtain ⟨l, hl⟩ := E.key k hwk
      have hchk := E.law.check w false hl
      have hlt := (Array.getElem?_eq_some_iff.1 h1).1
      have key : ∃ es' clock', (execOp act.eval o).run P w = .ok .skip { w with heap := w.heap.setIfInBounds b (.map es' clock') } ∧ es'.toList.map (fun e => (e.key, e.val)) = zs.map (fun p => (kf p.1, vf p.2)) ∧ (∀ p ∈ zs, wf p.1 = true) ∧ (zs.map (·.1)).Nodup := by
        rcases Mx.find E h2 h3 h4 hwk w with ⟨h5, h6⟩ | ⟨j, v0, e, h5, h6, h7, h8⟩
        · rw [putK_none h6] at h
          subst h
          refine ⟨es.push { key := kf k, val := vf v, born := clock }, clock + 1, ?_, ?_, ?_, ?_⟩
          · simp [execOp, hop, ha.eval hx, ha.eval hk, ha.eval hy, Instr.mapUpdate, ht, MapKept.run_getObj_map h1, hchk, h5, MapKept.run_setObj_map _ h1, Result.andThen]
          · rw [Array.toList_push, List.map_append, h2, List.map_append]; rfl
          · intro p hp
            rw [List.mem_append, List.mem_singleton] at hp
            rcases hp with hp | rfl
            · exact h3 p hp
            · exact hwk
          · rw [List.map_append, List.nodup_append]
            refine ⟨h4, by simp, fun a ha' c hc e => ?_⟩
            simp only [List.map_cons, List.map_nil, List.mem_singleton] at hc
            obtain ⟨p, hp, rfl⟩ := List.mem_map.1 ha'
            exact h6 p hp (e.trans hc)
        · rw [putK_at h4 h6] at h
          subst h
          have hst := E.law.stays w hl
          refine ⟨es.modify j (fun e => { e with key := kf k, val := vf v }), clock, ?_, ?_, ?_, ?_⟩
          · simp [execOp, hop, ha.eval hx, ha.eval hk, ha.eval hy, Instr.mapUpdate, ht, MapKept.run_getObj_map h1, hchk, h5, h7, h8, hst, MapKept.run_setObj_map _ h1, Result.andThen]
          · apply List.ext_getElem?
            intro m
            have h9 := congrArg (fun l => l[m]?) h2
            simp only [List.getElem?_map] at h9
            simp only [List.getElem?_map, Array.getElem?_toList, Array.getElem?_modify, List.getElem?_set]
            rw [Array.getElem?_toList] at h9
            by_cases hjm : j = m
            · subst hjm
              have hjl := (List.getElem?_eq_some_iff.1 h6).1
              rw [h7]
              simp [hjl]
            · rw [if_neg hjm, if_neg hjm]
              exact h9
          · intro p hp
            rcases List.mem_or_eq_of_mem_set hp with hp | rfl
            · exact h3 p hp
            · exact hwk
          · rw [putK_keys h6]; exact h4
      obtain ⟨es', clock', k1, k2, k3, k4⟩ := key
      unfold Runs
      rw [k1]
      refine c _ ⟨rfl, rfl, rfl, by simp, fun g hg hgc => ⟨rfl, ?_⟩⟩ ⟨⟨es', clock', by simp [hlt], k2, k3, k4⟩, hcol⟩
      have : b ≠ g := fun e => hgc (by rw [← e, hcol]; simp)
      simp [Array.getElem?_setIfInBounds_ne this]
    · cases h
end

/-! two more operations -/
section
variable {P : Program} {n : Nat} {C : World → Prop} {L : Env} {o : Oper}
theorem rn_min {x y : Operand} {t t' : TypeId} {k : IntKind} {p q : Int} (ho : o.op = .call { callee := .builtin .min, args := #[x, y], argTypes := #[t, t'] }) (hx : opd L x = some (.int k p)) (hy : opd L y = some (.int k q)) :
    Rn P n C o L (.int k (if q < p then q else p)) := fun a w ha _ => by
  simp [execOp, ho, ha.eval hx, ha.eval hy, resolve, invoke, builtin, Builtin.min_, Builtin.min2]
theorem run_eqInt {t : TypeId} {k : IntKind} {p q : Int} (u : ∀ w, (underlying t).run P w = .ok (.int k) w) (d : Nat) (w : World) : (Op.equalIn (d + 1) t (.int k p) (.int k q)).run P w = .ok (p == q) w := by
  simp [Op.equalIn, u]
theorem run_equalS2 {t : TypeId} {f1 f2 : Field} {k : IntKind} {p1 p2 q1 q2 : Int} (ht : P.underlying t = some (.struct #[f1, f2])) (hst : P.stoodInHeld t = false) (n1 : (f1.name != "_") = true) (n2 : (f2.name != "_") = true) (o1 : f1.offset = 0) (o2 : f2.offset = 1)
    (a1 : ∀ w, (isAgg f1.type).run P w = .ok false w) (a2 : ∀ w, (isAgg f2.type).run P w = .ok false w) (u1 : ∀ w, (underlying f1.type).run P w = .ok (.int k) w) (u2 : ∀ w, (underlying f2.type).run P w = .ok (.int k) w) (w : World) :
    (Op.equal t (.agg #[.int k p1, .int k p2]) (.agg #[.int k q1, .int k q2])).run P w = .ok ((p1 == q1) && (p2 == q2)) w := by
  have m1 : f1.name ≠ "_" := by simpa using n1
  have m2 : f2.name ≠ "_" := by simpa using n2
  have hf : P.fieldsOf t = #[f1, f2] := by simp [Program.fieldsOf, ht]
  unfold Op.equal
  obtain ⟨d, hd⟩ : ∃ d, Op.maxDepth = (d + 1) + 1 := ⟨9998, rfl⟩
  rw [hd, run_equalIn_struct w (d + 1) t _ _ (by rw [hf]; exact ht) hst, hf]
  have x1 : ∀ p : Int, ∀ q : Int, (part f1.type #[.int k p, .int k q] f1.offset).run P w = .ok (.int k p) w := fun p q => by simp [part, a1, o1]
  have x2 : ∀ p : Int, ∀ q : Int, (part f2.type #[.int k p, .int k q] f2.offset).run P w = .ok (.int k q) w := fun p q => by simp [part, a2, o2]
  simp only [Op.eqFields, m1, m2, ne_eq, not_false_eq_true, if_true, Sem.run_bind, x1, x2, Result.andThen_ok, run_eqInt u1, run_eqInt u2]
  cases e1 : (p1 == q1) <;> cases e2 : (p2 == q2) <;> simp [Result.andThen, run_eqInt u2, x2, e2]
theorem run_equalA2 {t e : TypeId} {k : IntKind} {p1 p2 q1 q2 : Int} (ht : ∀ w, (underlying t).run P w = .ok (.array 2 e) w) (a1 : ∀ w, (isAgg e).run P w = .ok false w) (u1 : ∀ w, (underlying e).run P w = .ok (.int k) w) (z1 : ∀ w, (sizeOf e).run P w = .ok 1 w) (w : World) :
    (Op.equal t (.agg #[.int k p1, .int k p2]) (.agg #[.int k q1, .int k q2])).run P w = .ok ((p1 == q1) && (p2 == q2)) w := by
  unfold Op.equal
  obtain ⟨d, hd⟩ : ∃ d, Op.maxDepth = (d + 1) + 1 := ⟨9998, rfl⟩
  rw [hd]
  have x1 : ∀ p q : Int, (part e #[.int k p, .int k q] 0).run P w = .ok (.int k p) w := fun p q => by simp [part, a1]
  have x2 : ∀ p q : Int, (part e #[.int k p, .int k q] 1).run P w = .ok (.int k q) w := fun p q => by simp [part, a1]
  rw [Op.equalIn]
  simp only [Sem.run_bind, ht, Result.andThen_ok, z1, Std.Legacy.Range.forIn_eq_forIn_range', Std.Legacy.Range.size]
  rw [show List.range' 0 ((2 - 0 + 1 - 1) / 1) 1 = [0, 1] from rfl]
  simp only [List.forIn_cons, List.forIn_nil, Sem.run_bind, Nat.mul_one, x1, x2, Result.andThen_ok, run_eqInt u1]
  cases e1 : (p1 == q1) <;> cases e2 : (p2 == q2) <;> simp [Result.andThen, run_eqInt u1, x2, e2]
theorem rn_eqlA2 {x y : Operand} {t t' e : TypeId} {k : IntKind} {p1 p2 q1 q2 : Int} (ht : ∀ w, (underlying t).run P w = .ok (.array 2 e) w) (hg : P.eqGuardType P.depth t = false) (a1 : ∀ w, (isAgg e).run P w = .ok false w) (u1 : ∀ w, (underlying e).run P w = .ok (.int k) w) (z1 : ∀ w, (sizeOf e).run P w = .ok 1 w)
    (ho : o.op = .binOp .eql t x y t') (hx : opd L x = some (.agg #[.int k p1, .int k p2])) (hy : opd L y = some (.agg #[.int k q1, .int k q2])) : Rn P n C o L (.bool ((p1 == q1) && (p2 == q2))) := fun a w ha _ => by
  simp only [execOp, ho, ha.eval hx, ha.eval hy, eqGuard, binOp, Sem.run_bind, run_program, Sem.run_pure, Result.andThen_ok, hg, run_equalA2 ht a1 u1 z1]
  simp [Result.andThen, hg]
theorem rn_eqlS2 {x y : Operand} {t t' : TypeId} {f1 f2 : Field} {k : IntKind} {p1 p2 q1 q2 : Int} (ht : P.underlying t = some (.struct #[f1, f2])) (hg : P.eqGuardType P.depth t = false) (hst : P.stoodInHeld t = false) (n1 : (f1.name != "_") = true) (n2 : (f2.name != "_") = true) (o1 : f1.offset = 0) (o2 : f2.offset = 1)
    (a1 : ∀ w, (isAgg f1.type).run P w = .ok false w) (a2 : ∀ w, (isAgg f2.type).run P w = .ok false w) (u1 : ∀ w, (underlying f1.type).run P w = .ok (.int k) w) (u2 : ∀ w, (underlying f2.type).run P w = .ok (.int k) w)
    (ho : o.op = .binOp .eql t x y t') (hx : opd L x = some (.agg #[.int k p1, .int k p2])) (hy : opd L y = some (.agg #[.int k q1, .int k q2])) : Rn P n C o L (.bool ((p1 == q1) && (p2 == q2))) := fun a w ha _ => by

  simp only [execOp, ho, ha.eval hx, ha.eval hy, eqGuard, binOp, Sem.run_bind, run_program, Sem.run_pure, Result.andThen_ok, hg, run_equalS2 ht hst n1 n2 o1 o2 a1 a2 u1 u2]
  simp [Result.andThen, hg]
end

/-! ### keys of two integers -/
def wf2 (a b : Int) : Bool := decide (-9223372036854775808 ≤ a ∧ a ≤ 9223372036854775807 ∧ -9223372036854775808 ≤ b ∧ b ≤ 9223372036854775807)
theorem keyS2 {P : Program} {k : TypeId} {f1 f2 : Field} {m : Nat} (hu : P.underlying k = some (.struct #[f1, f2])) (hkt : P.keyType k = true) (hsz : P.types.size = m + 1) (hc : P.cellsOf k = 2) (ho1 : f1.offset = 0) (ho2 : f2.offset = 1)
    (hc1 : P.cellsOf f1.type = 1) (hc2 : P.cellsOf f2.type = 1) (hu1 : P.underlying f1.type = some (.int .i64)) (hu2 : P.underlying f2.type = some (.int .i64)) (hn1 : (f1.name != "_") = true) (hn2 : (f2.name != "_") = true) {a b : Int} (hw : wf2 a b = true) :
    ∃ l, keyOf P k (.agg #[.int .i64 a, .int .i64 b]) = some l := by
  unfold wf2 at hw
  have hw := of_decide_eq_true hw
  have w1 : (Lit.int .i64 a).wf = true := by simp [Lit.wf, show IntKind.i64.min = -9223372036854775808 from rfl, show IntKind.i64.max = 9223372036854775807 from rfl]; omega
  have w2 : (Lit.int .i64 b).wf = true := by simp [Lit.wf, show IntKind.i64.min = -9223372036854775808 from rfl, show IntKind.i64.max = 9223372036854775807 from rfl]; omega
  unfold keyOf
  rw [hu]
  simp only [hkt, Value.formed, hu, hc, Value.cells, hsz]
  simp [Program.keyLits, hu, hc, ho1, ho2, hc1, hc2, hu1, hu2, w1, w2]
  exact ⟨by simpa using hn1, by simpa using hn2⟩
theorem keyA2 {P : Program} {k e : TypeId} {m : Nat} (hu : P.underlying k = some (.array 2 e)) (hkt : P.keyType k = true) (hsz : P.types.size = m + 1) (hc : P.cellsOf k = 2) (hc1 : P.cellsOf e = 1) (hu1 : P.underlying e = some (.int .i64)) {a b : Int} (hw : wf2 a b = true) :
    ∃ l, keyOf P k (.agg #[.int .i64 a, .int .i64 b]) = some l := by
  unfold wf2 at hw
  have hw := of_decide_eq_true hw
  have w1 : (Lit.int .i64 a).wf = true := by simp [Lit.wf, show IntKind.i64.min = -9223372036854775808 from rfl, show IntKind.i64.max = 9223372036854775807 from rfl]; omega
  have w2 : (Lit.int .i64 b).wf = true := by simp [Lit.wf, show IntKind.i64.min = -9223372036854775808 from rfl, show IntKind.i64.max = 9223372036854775807 from rfl]; omega
  unfold keyOf
  rw [hu]
  simp only [hkt, Value.formed, hu, hc, Value.cells, hsz]
  simp [Program.keyLits, hu, hc, hc1, hu1, w1, w2, List.range_succ]
end Go.Wk
