/- The walk's steps over coloured memory: looks, new memory, stores, appends, calls. -/
import Derived.Test.YtndiklipffipcaaMem
set_option linter.unusedVariables false
set_option linter.unusedSimpArgs false
namespace Go.Wk
open Go

/-! ### regions, looks -/
section
variable {P : Program} {n : Nat} {Q : Exit → Act → World → Prop} {L : Env} {w : World} {ops : Array Oper} {N : Act → World → Prop} {r : List (Nat × Nat)} {i d : Nat} {o : Oper} {v : Value}
theorem WC.ct' {c : Operand} {x y : Code} {b : Bool} (hc : opd L c = some (.bool b)) (hb : b = true) (h : WC P n x Q L w) : WC P n (.cond c x y) Q L w := WC.ct (by rw [hc, hb]) h
theorem WC.cf' {c : Operand} {x y : Code} {b : Bool} (hc : opd L c = some (.bool b)) (hb : b = false) (h : WC P n y Q L w) : WC P n (.cond c x y) Q L w := WC.cf (by rw [hc, hb]) h
theorem WO.fin {C : World → Prop} (h : DN n Q .normal L w) : WO P n ops C (fun a w => Q .normal a w) [] L w := h
theorem WO.nx {C : World → Prop} {o2 : List (Nat × Nat)} (h : WO P n ops (fun _ => True) N o2 L w) : WO P n ops C (fun a w => Wlk P ops (fun _ => True) N o2 a w) [] L w := h
theorem WC.rs {id : Nat} (order : List (Nat × Nat)) (hB : order.map (·.1) = List.range ops.size)
    (h : WO P n ops (fun _ => True) (fun a w => Q .normal a w) order L w) : WC P n (.region id ops false) Q L w := WC.reg (fun _ => True) order hB trivial h
theorem WC.rx {id : Nat} {κ : Col} (M : List Nat) (l : Option Nat) (o1 o2 : List (Nat × Nat)) (hm : P.follows .mixedOrders = true) (hB : ordOk ops l o1 o2 = true)
    (h : ∀ w1, Stp [] κ w κ w1 → WO P n ops (Cl M κ w1) (fun a w => Wlk P ops (fun _ => True) (fun a w => Q .normal a w) o2 a w) o1 L w1) : WC P n (.region id ops true) Q L w :=
  WC.regd (Cl M κ { w with drawn := w.drawn + 1 }) l o1 o2 hm hB (Cl.refl _ _ _) (h _ Stp.drew)
theorem WC.rxt {id : Nat} {κ : Col} (M : List Nat) (l : Option Nat) (hm : P.follows .mixedOrders = true)
    (h : ∀ w1, Stp [] κ w κ w1 → WA P n ops l (Cl M κ w1) (fun a w => Q .normal a w) (Array.replicate ops.size false) ops.size L w1) : WC P n (.region id ops true) Q L w :=
  WC.regt (Cl M κ { w with drawn := w.drawn + 1 }) l hm (Cl.refl _ _ _) (h _ Stp.drew)
/-- a look at memory that stays, whatever comes first -/
theorem WO.k0 {C : World → Prop} (ho : ops[i]? = some o) (hg : gd ops L o = some true) (hd : o.dst = some d) (hb : Nat.blt d n = true)
    (hr : Rn P n C o L v) (k : WO P n ops C N r ((d, v) :: L) w) : WO P n ops C N ((i, 0) :: r) L w := WO.q ho hg hd hb hr k
/-- a look at memory, in the world as it is -/
theorem WO.k1 {C : World → Prop} (hC : C w) (ho : ops[i]? = some o) (hg : gd ops L o = some true) (hd : o.dst = some d) (hb : Nat.blt d n = true)
    (hr : Rn P n (fun x => x = w) o L v) (k : WO P n ops C N r ((d, v) :: L) w) : WO P n ops C N ((i, 1) :: r) L w := WO.lq ho hg hd hb hC hr k
/-- an operation that looks at no memory -/
theorem WO.k2 {C : World → Prop} (ho : ops[i]? = some o) (hg : gd ops L o = some true) (hd : o.dst = some d) (hb : Nat.blt d n = true)
    (hr : Rn P n (fun _ => True) o L v) (k : WO P n ops C N r ((d, v) :: L) w) : WO P n ops C N ((i, 2) :: r) L w := WO.p ho hg hd hb (fun a w' ha => hr a w' ha trivial) k
end
/-- two ways that meet -/
def JQ (n : Nat) (I : Env → World → Prop) (Q : Exit → Act → World → Prop) : Exit → Act → World → Prop
  | .normal, a, w => ∃ L, I L w ∧ Kn n L a
  | e, a, w => Q e a w
section
variable {P : Program} {n : Nat} {Q : Exit → Act → World → Prop} {L : Env} {w : World}
theorem WC.meet {x : Code} (I : Env → World → Prop) (h : WC P n x (JQ n I Q) L w) (k : ∀ L w, I L w → DN n Q .normal L w) : WC P n x Q L w := fun a ha =>
  wp_mono (h a ha) fun e a' w' he => by
    cases e <;> try exact he
    obtain ⟨L', h1, h2⟩ := he
    exact k L' w' h1 a' h2
theorem DN.meet {I : Env → World → Prop} (L' : Env) (h : I L' w) (hk : ∀ a, Kn n L a → Kn n L' a) : DN n (JQ n I Q) .normal L w := fun a ha => ⟨L', h, hk a ha⟩
theorem DN.exitMeet {I : Env → World → Prop} {id : Nat} (h : DN n Q (.exit id) L w) : DN n (JQ n I Q) (.exit id) L w := h
theorem DN.retMeet {I : Env → World → Prop} (h : DN n Q .ret L w) : DN n (JQ n I Q) .ret L w := h
end
theorem Wlk_append {P : Program} {ops : Array Oper} {C : World → Prop} {N : Act → World → Prop} {r2 : List (Nat × Nat)} : ∀ (r1 : List (Nat × Nat)) (a : Act) (w : World), Wlk P ops C (Wlk P ops C N r2) r1 a w → C w → Wlk P ops C N (r1 ++ r2) a w
  | [], _, _, h, _ => h
  | (i, 0) :: r, a, w, ⟨o, v, h1, h2, h3⟩, hC => ⟨o, v, h1, h2, Wlk_append r _ _ h3 hC⟩
  | (i, 1) :: r, a, w, h, hC => by
    have h' : rOp P ops C i (Wlk P ops C (Wlk P ops C N r2) r) a w := h
    exact rOp_mono hC (fun a' w' hc hk => Wlk_append r a' w' hk hc) h'
  | (i, k + 2) :: r, a, w, ⟨o, v, h1, h2, h3⟩, hC => ⟨o, v, h1, h2, Wlk_append r _ _ h3 hC⟩
theorem Wlk_mono {P : Program} {ops : Array Oper} {C : World → Prop} {N N' : Act → World → Prop} (hN : ∀ a w, N a w → N' a w) : ∀ (r : List (Nat × Nat)) (a : Act) (w : World), Wlk P ops C N r a w → C w → Wlk P ops C N' r a w
  | [], _, _, h, _ => hN _ _ h
  | (i, 0) :: r, a, w, ⟨o, v, h1, h2, h3⟩, hC => ⟨o, v, h1, h2, Wlk_mono hN r _ _ h3 hC⟩
  | (i, 1) :: r, a, w, h, hC => by
    have h' : rOp P ops C i (Wlk P ops C N r) a w := h
    exact rOp_mono hC (fun a' w' hc hk => Wlk_mono hN r a' w' hk hc) h'
  | (i, k + 2) :: r, a, w, ⟨o, v, h1, h2, h3⟩, hC => ⟨o, v, h1, h2, Wlk_mono hN r _ _ h3 hC⟩
/-- in a region: two ways that meet -/
theorem WO.meet {P : Program} {n : Nat} {ops : Array Oper} {C : World → Prop} {N : Act → World → Prop} {L : Env} {w : World} (r1 r2 : List (Nat × Nat)) (I : Env → World → Prop) (hC : C w)
    (h : WO P n ops C (fun a w => ∃ L, (C w ∧ I L w) ∧ Kn n L a) r1 L w) (k : ∀ L w, C w → I L w → WO P n ops C N r2 L w) : WO P n ops C N (r1 ++ r2) L w := fun a ha =>
  Wlk_append r1 a w (Wlk_mono (fun a' w' ⟨L', ⟨hc, hi⟩, hk⟩ => k L' w' hc hi a' hk) r1 a w (h a ha) hC) hC
theorem WO.met {P : Program} {n : Nat} {ops : Array Oper} {C : World → Prop} {I : Env → World → Prop} {L : Env} {w : World} (L' : Env) (hC : C w) (hI : I L' w) (hk : ∀ a, Kn n L a → Kn n L' a) : WO P n ops C (fun a w => ∃ L, (C w ∧ I L w) ∧ Kn n L a) [] L w := fun a ha => ⟨L', ⟨hC, hI⟩, hk a ha⟩
theorem rn_pickB {P : Program} {n : Nat} {C : World → Prop} {o : Oper} {L : Env} {c x y : Operand} {b p q : Bool} (ho : o.op = .pick c x y) (hc : opd L c = some (.bool b)) (hx : opd L x = some (.bool p)) (hy : opd L y = some (.bool q)) : Rn P n C o L (.bool (bif b then p else q)) := fun a w ha _ => by
  cases b <;> simp [execOp, ho, ha.eval hx, ha.eval hy, ha.eval hc, asBool]
theorem rn_pickI {P : Program} {n : Nat} {C : World → Prop} {o : Oper} {L : Env} {c x y : Operand} {b : Bool} {k : IntKind} {p q : Int} (ho : o.op = .pick c x y) (hc : opd L c = some (.bool b)) (hx : opd L x = some (.int k p)) (hy : opd L y = some (.int k q)) : Rn P n C o L (.int k (bif b then p else q)) := fun a w ha _ => by
  cases b <;> simp [execOp, ho, ha.eval hx, ha.eval hy, ha.eval hc, asBool]
/-! ### a row of operations on values alone, computed -/
def iop (op : BinOp) (k : IntKind) (p q : Int) : Option Value := match op with
  | .add => some (.int k (k.wrap (p + q)))
  | .sub => some (.int k (k.wrap (p - q)))
  | .mul => some (.int k (k.wrap (p * q)))
  | .and => some (.int k (k.wrap (BitVec.ofInt k.bits p &&& BitVec.ofInt k.bits q).toNat))
  | .or => some (.int k (k.wrap (BitVec.ofInt k.bits p ||| BitVec.ofInt k.bits q).toNat))
  | .xor => some (.int k (k.wrap (BitVec.ofInt k.bits p ^^^ BitVec.ofInt k.bits q).toNat))
  | .lss => some (.bool (decide (p < q)))
  | .leq => some (.bool (decide (p ≤ q)))
  | .gtr => some (.bool (decide (q < p)))
  | .geq => some (.bool (decide (q ≤ p)))
  | .eql => some (.bool (p == q))
  | .neq => some (.bool (p != q))
  | _ => none
def pstep (L : Env) (o : Oper) : Option Value := match o.op with
  | .move x => opd L x
  | .assign x => opd L x
  | .pick c x y => match opd L c with
    | some (.bool true) => opd L x
    | some (.bool false) => opd L y
    | _ => none
  | .unOp .not _ x => match opd L x with
    | some (.bool b) => some (.bool (!b))
    | _ => none
  | .binOp op _ x y _ => match opd L x with
    | some (.int k p) => match opd L y with
      | some (.int k' q) => match decide (k = k') with
        | true => iop op k p q
        | false => none
      | _ => none
    | _ => none
  | .extract x i => match opd L x with
    | some (.tuple vs) => vs[i]?
    | _ => none
  | _ => none
theorem rn_iop {P : Program} {n : Nat} {C : World → Prop} {o : Oper} {L : Env} {op : BinOp} {t t' : TypeId} {x y : Operand} {k : IntKind} {p q : Int} {v : Value} (ho : o.op = .binOp op t x y t') (hx : opd L x = some (.int k p)) (hy : opd L y = some (.int k q)) (h : iop op k p q = some v) : Rn P n C o L v := by
  cases op <;> simp only [iop, Option.some.injEq] at h <;> (try cases h)
  · exact rn_add hx hy ho
  · exact rn_sub hx hy ho
  · exact rn_mul hx hy ho
  · exact rn_and hx hy ho
  · exact rn_or hx hy ho
  · exact rn_xor hx hy ho
  · exact rn_eql hx hy ho
  · exact rn_neq hx hy ho
  · exact rn_lss hx hy ho
  · exact rn_leq hx hy ho
  · exact rn_gtr hx hy ho
  · exact rn_geq hx hy ho
theorem rn_pstep {P : Program} {n : Nat} {C : World → Prop} {o : Oper} {L : Env} {v : Value} (h : pstep L o = some v) : Rn P n C o L v := by
  unfold pstep at h
  split at h
  · rename_i x ho; exact rn_move ho h
  · rename_i x ho; exact rn_assign ho h
  · rename_i c x y ho
    split at h
    · rename_i hc; exact rn_pickT ho hc h
    · rename_i hc; exact rn_pickF ho hc h
    · cases h
  · rename_i t x ho
    split at h
    · rename_i b hx
      cases h
      exact rn_not ho hx
    · cases h
  · rename_i op t x y t' ho
    split at h
    · rename_i k p hx
      split at h
      · rename_i k' q hy
        split at h
        · rename_i he
          have := of_decide_eq_true he
          subst this
          exact rn_iop ho hx hy h
        · cases h
      · cases h
    · cases h
  · rename_i x i ho
    split at h
    · rename_i vs hx; exact rn_extract ho hx h
    · cases h
  · cases h
/-- m operations of the row: what is known then, and the rest of the row -/
def pn (ops : Array Oper) (n : Nat) : Nat → List (Nat × Nat) → Env → Option (List (Nat × Nat) × Env)
  | 0, r, L => some (r, L)
  | m + 1, (i, 2) :: r, L => match ops[i]? with
    | some o => match gd ops L o with
      | some true => match o.dst with
        | some d => match Nat.blt d n with
          | true => match pstep L o with
            | some v => pn ops n m r ((d, v) :: L)
            | none => none
          | false => none
        | none => none
      | some false => match o.dst with
        | some d => match Nat.blt d n with
          | true => pn ops n m r ((d, undef) :: L)
          | false => none
        | none => none
      | none => none
    | none => none
  | _ + 1, _, _ => none
theorem WO.pn {P : Program} {n : Nat} {ops : Array Oper} {C : World → Prop} {N : Act → World → Prop} {w : World} : ∀ (m : Nat) {r r' : List (Nat × Nat)} {L L' : Env}, Wk.pn ops n m r L = some (r', L') → WO P n ops C N r' L' w → WO P n ops C N r L w
  | 0, r, r', L, L', h, k => by
    simp only [Wk.pn, Option.some.injEq, Prod.mk.injEq] at h
    obtain ⟨rfl, rfl⟩ := h
    exact k
  | m + 1, r, r', L, L', h, k => by
    unfold Wk.pn at h
    split at h
    · omega
    · rename_i heq1
      cases heq1
      split at h
      · rename_i o ho
        split at h
        · rename_i hg
          split at h
          · rename_i d hd
            split at h
            · rename_i hb
              split at h
              · rename_i v hv
                exact WO.p ho hg hd hb (fun a w' ha => rn_pstep (C := fun _ => True) hv a w' ha trivial) (WO.pn m h k)
              · cases h
            · cases h
          · cases h
        · rename_i hg
          split at h
          · rename_i d hd
            split at h
            · rename_i hb; exact WO.ps ho hg hd hb (WO.pn m h k)
            · cases h
          · cases h
        · cases h
      · cases h
    · cases h
theorem cT {α : Type} {A B : Option α} {r : Option α} (h : (bif true then A else B) = r) : A = r := h
theorem cF {α : Type} {A B : Option α} {r : Option α} (h : (bif false then A else B) = r) : B = r := h
theorem DN.round {n : Nat} {Q : Exit → Act → World → Prop} {L : Env} {w : World} {K : Act → World → Prop} (h : ∀ a, Kn n L a → K a w) : DN n (Exit.then K Q) .normal L w := h

section
variable {P : Program} {n : Nat} {C : World → Prop} {o : Oper} {L : Env}
theorem rn_ld {x : Operand} {t : TypeId} {p : Addr} {v : Value} (ht : ∀ w, (isAgg t).run P w = .ok false w) (ho : o.op = .load t x) (hx : opd L x = some (.pointer (some p))) (hv : ∀ w, C w → w.cell? p = some v) : Rn P n C o L v := rn_load ht ho hx hv
theorem rn_la {x : Operand} {t : TypeId} {p : Addr} {cs : List Value} (ht : ∀ w, (isAgg t).run P w = .ok true w) {k : Nat} (hk : ∀ w, (sizeOf t).run P w = .ok k w) (ho : o.op = .load t x) (hx : opd L x = some (.pointer (some p)))
    (hl : cs.length = k) (hv : ∀ w, C w → ∀ (j : Nat) v, cs[j]? = some v → w.cell? (p.add j) = some v) : Rn P n C o L (.agg cs.toArray) := rn_loadAgg ht hk ho hx hv hl
/-- the address of an element: the index is in range because the reading has an element there -/
theorem rn_index {α : Type} {E : Rp α} {S : Nat → Prop} {w : World} {x ix : Operand} {t e : TypeId} {a : Option Addr} {c l sz : Nat} {k : IntKind} {i : Int} {xs : List α} {y : α} (hs : Sl E S w a c xs) (h : idx xs i = some y)
    (ht : ∀ w, (underlying t).run P w = .ok (.slice e) w) (hz : ∀ w, (sizeOf e).run P w = .ok sz w) (ho : o.op = .indexAddr t x ix)
    (hx : opd L x = some (.slice a l c)) (hl : l = xs.length) (hi : opd L ix = some (.int k i)) : Rn P n C o L (.pointer (some (aAt a (i.toNat * sz)))) := fun b w' ha _ => by
  obtain ⟨h0, h1, p, rfl⟩ := hs.base h
  subst hl
  simp [execOp, ho, ha.eval hx, ha.eval hi, Instr.indexAt, asIntOf, ht, hz, h0, h1, aAt]
theorem rn_nilCheck {x : Operand} {p : Addr} (ho : o.op = .nilCheck x) (hx : opd L x = some (.pointer (some p))) : Rn P n C o L (.pointer (some p)) := fun a w ha _ => by
  simp [execOp, ho, ha.eval hx]
theorem rn_indexA {x ix : Operand} {t e : TypeId} {p : Addr} {len sz : Nat} {k : IntKind} {i : Int} (ht : ∀ w, (underlying t).run P w = .ok (.array len e) w) (hz : ∀ w, (sizeOf e).run P w = .ok sz w) (ho : o.op = .indexAddr t x ix)
    (hx : opd L x = some (.pointer (some p))) (hi : opd L ix = some (.int k i)) (hr : (decide (0 ≤ i) && decide (i < len)) = true) : Rn P n C o L (.pointer (some (p.add (i.toNat * sz)))) := fun b w' ha _ => by
  simp only [Bool.and_eq_true, decide_eq_true_eq] at hr
  simp [execOp, ho, ha.eval hx, ha.eval hi, Instr.indexAt, Instr.sureAddr, asIntOf, ht, hz, hr.1, hr.2]
theorem rn_build {t : TypeId} {parts : List (Nat × Operand)} {vs cells : List Value} (ho : o.op = .build t parts.toArray) (hv : opds L (parts.map (·.2)) = some vs) (hb : P.built t (List.zip (parts.map (·.1)) vs) = some cells.toArray) : Rn P n C o L (.agg cells.toArray) := fun a w ha _ => by
  have hev : (parts.toArray.map fun (i, x) => (i, a.eval x)).toList = List.zip (parts.map (·.1)) vs := by
    have h1 : (parts.map (·.2)).map a.eval = vs := by simpa using ha.evals hv
    rw [← h1]
    clear ho hv hb h1
    induction parts with
    | nil => simp
    | cons p r ih => simpa using ih
  have h2 := run_build (P := P) w t (parts.toArray.map fun (i, x) => (i, a.eval x)) cells.toArray (by rw [hev]; exact hb)
  simp only [execOp, ho, Sem.run_bind, h2, Result.andThen_ok, Sem.run_pure]
end

/-! ### calls, entering, leaving -/
section
variable {P : Program} {n : Nat} {ops : Array Oper} {C : World → Prop} {N : Act → World → Prop} {r : List (Nat × Nat)} {L : Env} {w : World} {i d : Nat} {o : Oper}
/-- what a call comes to when it returns -/
def Ret (P : Program) (f : FuncId) (args : List Value) (w : World) (R : Value → World → Prop) : Prop := Calls P f args.toArray w (fun e w' => ∃ v, e = .returned v ∧ R v w')
theorem Ret.mono {f : FuncId} {args : List Value} {R R' : Value → World → Prop} (h : Ret P f args w R) (hr : ∀ v w', R v w' → R' v w') : Ret P f args w R' :=
  Calls.mono h fun _ _ ⟨v, e, k⟩ => ⟨v, e, hr _ _ k⟩
theorem Ret.cast {f : FuncId} {args args' : List Value} {R : Value → World → Prop} (e : args = args') (h : Ret P f args' w R) : Ret P f args w R := e ▸ h
theorem WO.call (ho : ops[i]? = some o) (hg : gd ops L o = some true) (hd : o.dst = some d) (hb : Nat.blt d n = true) {f : FuncId} {xs : List Operand} {ts : Array TypeId} {vs : List Value}
    (hop : o.op = .call { callee := .value (.func f), args := xs.toArray, argTypes := ts }) (hv : opds L xs = some vs) (hc : ∀ (as : Array Value) (w : World), (callFunc f as).run P w = .ok (.enter f as) w)
    {R : Value → World → Prop} (h : Ret P f vs w R) (k : ∀ v w', R v w' → C w' ∧ WO P n ops C N r ((d, v) :: L) w') : WO P n ops C N ((i, 1) :: r) L w :=
  WO.l ho hg hd hb fun a ha => by
    have h1 : xs.toArray.map a.eval = vs.toArray := ha.evals hv
    unfold Runs
    have : (execOp a.eval o).run P w = .ok (.enter f vs.toArray) w := by
      simp only [execOp, hop, resolve, h1, Act.eval, Deferred.ofValue, Sem.run_bind, Sem.run_pure, Result.andThen_ok, invoke]
      simpa using hc _ w
    rw [this]
    exact h.mono fun _ _ hr => k _ _ hr
/-- a call of a function value -/
theorem WO.callV (ho : ops[i]? = some o) (hg : gd ops L o = some true) (hd : o.dst = some d) (hb : Nat.blt d n = true) {f : FuncId} {x : Operand} {cap : Array Value} {xs : List Operand} {ts : Array TypeId} {vs vs' : List Value}
    (hop : o.op = .call { callee := .value x, args := xs.toArray, argTypes := ts }) (hx : opd L x = some (.func (.func f) #[] cap)) (hv : opds L xs = some vs) (hvs : vs ++ cap.toList = vs') (hc : ∀ (as : Array Value) (w : World), (callFunc f as).run P w = .ok (.enter f as) w)
    {R : Value → World → Prop} (h : Ret P f vs' w R) (k : ∀ v w', R v w' → C w' ∧ WO P n ops C N r ((d, v) :: L) w') : WO P n ops C N ((i, 1) :: r) L w :=
  WO.l ho hg hd hb fun a ha => by
    have h1 : xs.toArray.map a.eval = vs.toArray := ha.evals hv
    subst hvs
    unfold Runs
    have : (execOp a.eval o).run P w = .ok (.enter f (vs ++ cap.toList).toArray) w := by
      have e : (vs ++ cap.toList).toArray = vs.toArray ++ cap := by simp
      simp only [execOp, hop, resolve, h1, ha.eval hx, Deferred.ofValue, Sem.run_bind, Sem.run_pure, Result.andThen_ok, invoke, e]
      simpa using hc _ w
    rw [this]
    exact h.mono fun _ _ hr => k _ _ hr
end

def envOf (k : Nat) : List Value → Env
  | [] => []
  | v :: r => (k, v) :: envOf (k + 1) r
theorem look_envOf : ∀ (vs : List Value) (k t : Nat) (v : Value), look (envOf k vs) t = some v → k ≤ t ∧ vs[t - k]? = some v
  | [], _, _, _, h => by cases h
  | u :: r, k, t, v, h => by
    simp only [envOf, look] at h
    by_cases e : Nat.beq k t = true
    · have : k = t := Nat.eq_of_beq_eq_true e
      subst this
      simp only [e, cond_true, Option.some.injEq] at h
      simp [h]
    · simp only [Bool.not_eq_true] at e
      simp only [e, cond_false] at h
      obtain ⟨h1, h2⟩ := look_envOf r (k + 1) t v h
      refine ⟨by omega, ?_⟩
      rw [show t - k = (t - (k + 1)) + 1 from by omega]
      simpa using h2
theorem Ret.enter {P : Program} {f : FuncId} {fn : Func} {c : Code} {n : Nat} {args : List Value} {w : World} {R : Value → World → Prop} (hf : P.funcs[f]? = some fn) (hb : fn.body = some c) (hn : fn.ntmps = n) (hl : Nat.ble args.length n = true)
    (h : WC P n c (bodyPost P fn (fun e w' => ∃ v, e = .returned v ∧ R v w')) (envOf 0 args) w) : Ret P f args w R := by
  have hl' : args.length ≤ n := Nat.ble_eq.mp hl
  refine calls_of_wp hf hb (h _ ⟨rfl, ?_, ?_⟩)
  · simp [hn]; omega
  · intro t v ht
    obtain ⟨_, h2⟩ := look_envOf args 0 t v ht
    have h2 : args[t]? = some v := by simpa using h2
    have hlt : t < args.length := (List.getElem?_eq_some_iff.1 h2).1
    rw [Array.getElem?_append_left (by simpa using hlt)]
    simpa using h2

/-- the results, one after the other -/
def Res (P : Program) (L : Env) (w : World) : List ResultVar → List Value → Prop
  | [], vs => vs = []
  | .tmp t :: r, vs => ∃ v vs', vs = v :: vs' ∧ look L t = some v ∧ Res P L w r vs'
  | .cell u t :: r, vs => ∃ v vs' p, vs = v :: vs' ∧ look L u = some (.pointer (some p)) ∧ (loadVar t p).run P w = .ok v w ∧ Res P L w r vs'
def rv1 (tmps : Array Value) : ResultVar → Sem Value
  | .tmp t => pure (tmps.getD t undef)
  | .cell b t => do loadVar t (← asAddr (tmps.getD b undef))
theorem Res.run {P : Program} {n : Nat} {L : Env} {w : World} {a : Act} (ha : Kn n L a) : ∀ {l : List ResultVar} {vs : List Value}, Res P L w l vs → (l.mapM (rv1 a.tmps)).run P w = .ok vs w
  | [], _, h => by
    have h : _ = [] := h
    rw [h]; simp
  | .tmp t :: r, _, ⟨v, vs', e, h1, h2⟩ => by
    rw [e]
    have h3 := ha.2.2 t v h1
    have ih := Res.run ha h2
    rw [List.mapM_cons, Sem.run_bind]
    simp [rv1, h3, Sem.run_bind, ih]
  | .cell u t :: r, _, ⟨v, vs', p, e, h1, h2, h3⟩ => by
    rw [e]
    have h4 := ha.2.2 u _ h1
    have ih := Res.run ha h3
    rw [List.mapM_cons, Sem.run_bind]
    simp [rv1, h4, asAddr, h2, Sem.run_bind, ih]
section
variable {P : Program} {n : Nat} {fn : Func} {R : Value → World → Prop} {L : Env} {w : World}
theorem run_results {l : List ResultVar} {vs : List Value} {v : Value} {a : Act} (ha : Kn n L a) (hres : fn.results = l.toArray) (hr : Res P L w l vs) (hv : (match vs with | [x] => x | _ => .tuple vs.toArray) = v) : (results fn a.tmps).run P w = .ok v w := by
  have h1 := hr.run ha
  have h2 : (fn.results.mapM (rv1 a.tmps)).run P w = .ok vs.toArray w := by
    rw [hres, List.mapM_toArray, map_eq_pure_bind, Sem.run_bind, h1]
    simp
  have h3 : results fn a.tmps = (fn.results.mapM (rv1 a.tmps)) >>= fun vs => pure (if h : vs.size = 1 then vs[0] else .tuple vs) := by
    unfold results
    rfl
  rw [h3, Sem.run_bind, h2]
  simp only [Result.andThen_ok, Sem.run_pure]
  rw [← hv]
  match vs with
  | [] => rfl
  | [x] => rfl
  | x :: y :: r => simp
theorem DN.res {l : List ResultVar} {vs : List Value} {v : Value} (hres : fn.results = l.toArray) (hr : Res P L w l vs) (hv : (match vs with | [x] => x | _ => .tuple vs.toArray) = v) (h : R v w) :
    DN n (bodyPost P fn (fun e w' => ∃ v, e = .returned v ∧ R v w')) .ret L w := fun a ha =>
  bodyPost_ret (v := v) (run_results ha hres hr hv) ha.1 ⟨v, rfl, h⟩
theorem DN.end0 (hres : fn.results = #[]) (h : R (.tuple #[]) w) : DN n (bodyPost P fn (fun e w' => ∃ v, e = .returned v ∧ R v w')) .normal L w := fun a ha =>
  bodyPost_end (v := .tuple #[]) (by simp [results, hres]) ha.1 ⟨_, rfl, h⟩
theorem res_tmp {t : Nat} {v : Value} {r : List ResultVar} {vs : List Value} (h : look L t = some v) (hr : Res P L w r vs) : Res P L w (.tmp t :: r) (v :: vs) := ⟨v, vs, rfl, h, hr⟩
theorem res_cellA {u : Nat} {t T : TypeId} {b k i : Nat} {κ : Col} {cs : List Value} {r : List ResultVar} {vs : List Value} (h : look L u = some (.pointer (some ⟨b, 0, none⟩))) (hb : Bc κ w i b T cs) (ha : ∀ w, (isAgg t).run P w = .ok true w) (hk : ∀ w, (sizeOf t).run P w = .ok k w) (hl : cs.length = k)
    (hr : Res P L w r vs) : Res P L w (.cell u t :: r) (.agg cs.toArray :: vs) := ⟨_, vs, _, rfl, h, by
  subst hl
  simp [loadVar, ha, hk, run_loadCells_list w ⟨b, 0, none⟩ cs fun j v hv => hb.bx.cell hv], hr⟩
theorem res_cell {u : Nat} {t T : TypeId} {b i : Nat} {κ : Col} {v : Value} {r : List ResultVar} {vs : List Value} (h : look L u = some (.pointer (some ⟨b, 0, none⟩))) (hb : Bc κ w i b T [v]) (ha : ∀ w, (isAgg t).run P w = .ok false w)
    (hr : Res P L w r vs) : Res P L w (.cell u t :: r) (v :: vs) := ⟨_, vs, _, rfl, h, by
  have h1 := hb.bx.cell (j := 0) rfl
  rw [addb] at h1
  simp [loadVar, ha, h1], hr⟩
end

/-! ### new memory -/
def nw (κ : Col) (n i : Nat) : Col := fun b => bif Nat.blt b n then κ b else i
theorem nw_old {κ : Col} {n i b : Nat} (h : b < n) : nw κ n i b = κ b := cond_of (Nat.ble_eq.mpr h)
theorem nw_new {κ : Col} {n i b : Nat} (h : n ≤ b) : nw κ n i b = i := by
  have : Nat.blt b n = false := by
    cases e : Nat.blt b n with
    | false => rfl
    | true => have := Nat.ble_eq.mp e; omega
  simp [nw, this]
theorem Stp.nw {κ : Col} {w w' : World} (i : Nat) (e : Ext w w') : Stp [] κ w (nw κ w.heap.size i) w' := Stp.ext i e

section
variable {P : Program} {n : Nat} {ops : Array Oper} {C : World → Prop} {N : Act → World → Prop} {r : List (Nat × Nat)} {L : Env} {κ : Col} {w : World} {i d : Nat} {o : Oper}
theorem WO.box (q : Nat) (ho : ops[i]? = some o) (hg : gd ops L o = some true) (hd : o.dst = some d) (hb : Nat.blt d n = true) {T : TypeId} {x : Operand} {v : Value} {cs : List Value}
    (hop : o.op = .box T x) (hx : opd L x = some v) (hcs : v.cells = cs.toArray) (k : ∀ b w' κ', Stp [] κ w κ' w' → Bc κ' w' q b T cs → C w' ∧ WO P n ops C N r ((d, .pointer (some ⟨b, 0, none⟩)) :: L) w') : WO P n ops C N ((i, 1) :: r) L w :=
  WO.l ho hg hd hb fun a ha => by
    unfold Runs
    have : (execOp a.eval o).run P w = .ok (.value (.pointer (some ⟨w.heap.size, 0, none⟩))) (w.alloc (.cells cs.toArray T)) := by
      simp only [execOp, hop, ha.eval hx, Instr.box, newVar, newRow, hcs, Sem.run_bind, Sem.run_pure, Result.andThen_ok, run_newObj]
      rfl
    rw [this]
    exact k _ _ _ (Stp.nw q (Ext.alloc _ _)) ⟨heap_alloc_new w _, nw_new (Nat.le_refl _)⟩
theorem WO.alloc (q : Nat) (ho : ops[i]? = some o) (hg : gd ops L o = some true) (hd : o.dst = some d) (hb : Nat.blt d n = true) {T : TypeId} {z : Value} {cs : List Value}
    (hop : o.op = .alloc T) (hz : ∀ w, (zeroValue T).run P w = .ok z w) (hcs : z.cells = cs.toArray) (k : ∀ b w' κ', Stp [] κ w κ' w' → Bc κ' w' q b T cs → C w' ∧ WO P n ops C N r ((d, .pointer (some ⟨b, 0, none⟩)) :: L) w') : WO P n ops C N ((i, 1) :: r) L w :=
  WO.l ho hg hd hb fun a ha => by
    unfold Runs
    have : (execOp a.eval o).run P w = .ok (.value (.pointer (some ⟨w.heap.size, 0, none⟩))) (w.alloc (.cells cs.toArray T)) := by
      simp only [execOp, hop, Instr.alloc, hz, newVar, newRow, hcs, Sem.run_bind, Sem.run_pure, Result.andThen_ok, run_newObj]
      rfl
    rw [this]
    exact k _ _ _ (Stp.nw q (Ext.alloc _ _)) ⟨heap_alloc_new w _, nw_new (Nat.le_refl _)⟩
end

end Go.Wk
