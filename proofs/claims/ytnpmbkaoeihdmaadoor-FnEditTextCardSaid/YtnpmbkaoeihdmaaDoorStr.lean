/- Strings: operations, bytes of own slices. -/
import Derived.Test.YtnpmbkaoeihdmaaDoorOwn
import Derived.Laws.BytesString
import Derived.Lib.AppendStr
set_option linter.unusedVariables false
set_option linter.unusedSimpArgs false
namespace Go.Wk
open Go

def eqB (p q : ByteArray) : Bool := decide (p.data.toList = q.data.toList)
theorem eqB_refl (p : ByteArray) : eqB p p = true := by simp [eqB]
def catB (p q : ByteArray) : Option ByteArray := if p.size + q.size ≤ 9223372036854775807 then some (p ++ q) else none
def idxB (s : ByteArray) (i : Int) : Option Int := if 0 ≤ i ∧ i < s.size then some ((s.data.toList.getD i.toNat 0).toNat : Int) else none
def subB (s : ByteArray) (l h : Int) : Option ByteArray := if 0 ≤ l ∧ l ≤ h ∧ h ≤ s.size then some (s.extract l.toNat h.toNat) else none
def strB (xs : List Int) : ByteArray := ⟨(xs.map fun n => UInt8.ofNat n.toNat).toArray⟩
def bytesB (s : ByteArray) : List Int := s.data.toList.map fun b => (b.toNat : Int)
theorem bytesB_len (s : ByteArray) : (bytesB s).length = s.size := by simp [bytesB]
section
variable {P : Program} {n : Nat} {C : World → Prop} {o : Oper} {L : Env}
section
variable {x y : Operand} {t t' : TypeId} {p q : ByteArray} (hx : opd L x = some (.string p)) (hy : opd L y = some (.string q))
include hx hy
theorem rn_addS {v : ByteArray} (ho : o.op = .binOp .add t x y t') (h : catB p q = some v) : Rn P n C o L (.string v) := fun a w ha _ => by
  unfold catB at h
  split at h
  · rename_i h1
    cases h
    have h2 : ¬ ((IntKind.i64.max : Int) < (p.size : Int) + (q.size : Int)) := by
      have : IntKind.i64.max = 9223372036854775807 := by decide
      omega
    simp [execOp, ho, ha.eval hx, ha.eval hy, eqGuard, binOp, Op.stringOp, h2]
    omega
  · cases h
theorem rn_eqlSt (ho : o.op = .binOp .eql t x y t') : Rn P n C o L (.bool (eqB p q)) := fun a w ha _ => by
  simp [execOp, ho, ha.eval hx, ha.eval hy, eqGuard, binOp, Op.stringOp, eqB, ByteArray.toList_eq]
  by_cases e : p.data = q.data <;> simp [e]
theorem rn_neqSt (ho : o.op = .binOp .neq t x y t') : Rn P n C o L (.bool (!(eqB p q))) := fun a w ha _ => by
  simp [execOp, ho, ha.eval hx, ha.eval hy, eqGuard, binOp, Op.stringOp, eqB, ByteArray.toList_eq]
  by_cases e : p.data = q.data <;> simp [e]
end
theorem rn_indexSt {x y : Operand} {t : TypeId} {s : ByteArray} {k : IntKind} {i r : Int} (hu : ∀ w, (underlying t).run P w = .ok .string w) (h : idxB s i = some r) (ho : o.op = .index t x y) (hx : opd L x = some (.string s)) (hy : opd L y = some (.int k i)) :
    Rn P n C o L (.int .u8 r) := fun a w ha _ => by
  unfold idxB at h
  split at h
  · rename_i h1
    cases h
    have hlt : i.toNat < s.size := by omega
    have e : s[i.toNat]? = some (s.data.toList.getD i.toNat 0) := by
      rw [getElem?_pos s i.toNat hlt, List.getD_eq_getElem?_getD, List.getElem?_eq_getElem (by simpa using hlt)]
      rfl
    simp [execOp, ho, ha.eval hx, ha.eval hy, Instr.index, asIntOf, hu, h1.1, e]
  · cases h
theorem rn_sliceSt {s r : ByteArray} {t : TypeId} {x : Operand} {lo hi : Option Operand} {l h : Int} {k1 k2 : IntKind} (hu : ∀ w, (underlying t).run P w = .ok .string w)
    (hlo : lo = none ∧ l = 0 ∨ ∃ y, lo = some y ∧ opd L y = some (.int k1 l)) (hhi : hi = none ∧ h = s.size ∨ ∃ y, hi = some y ∧ opd L y = some (.int k2 h)) (hs : subB s l h = some r)
    (ho : o.op = .slice t x lo hi none) (hx : opd L x = some (.string s)) : Rn P n C o L (.string r) := fun b w ha _ => by
  unfold subB at hs
  split at hs
  · rename_i h1
    cases hs
    have h3 : 0 ≤ h := by omega
    have e3 : l ≤ (h.toNat : Int) := by omega
    rcases hlo with ⟨rfl, rfl⟩ | ⟨y1, rfl, hy1⟩ <;> rcases hhi with ⟨rfl, rfl⟩ | ⟨y2, rfl, hy2⟩
    · simp [execOp, ho, ha.eval hx, Instr.sliceAt, Instr.slice, Instr.sliceBounds, hu]
    · simp [execOp, ho, ha.eval hx, ha.eval hy2, Instr.sliceAt, Instr.slice, Instr.sliceBounds, Instr.sliceBound, asIntOf, hu, h1, h3]
    · simp [execOp, ho, ha.eval hx, ha.eval hy1, Instr.sliceAt, Instr.slice, Instr.sliceBounds, Instr.sliceBound, asIntOf, hu, h1]
    · simp [execOp, ho, ha.eval hx, ha.eval hy1, ha.eval hy2, Instr.sliceAt, Instr.slice, Instr.sliceBounds, Instr.sliceBound, asIntOf, hu, h1, h3, e3]
      intro hh; omega
  · cases hs
theorem rn_indexG {α : Type} {xs : List α} {y : α} {x ix : Operand} {t e : TypeId} {p : Addr} {len sz : Nat} {k : IntKind} {i : Int} (h : idx xs i = some y) (hl : xs.length = len) (ht : ∀ w, (underlying t).run P w = .ok (.array len e) w) (hz : ∀ w, (sizeOf e).run P w = .ok sz w) (ho : o.op = .indexAddr t x ix)
    (hx : opd L x = some (.pointer (some p))) (hi : opd L ix = some (.int k i)) : Rn P n C o L (.pointer (some (aAt (some p) (i.toNat * sz)))) := by
  obtain ⟨h0, h1, _⟩ := idx_ok h
  exact rn_indexA ht hz ho hx hi (by simp only [Bool.and_eq_true, decide_eq_true_eq]; omega)
theorem rn_sliceG {t e : TypeId} {x : Operand} {g : Nat} {len sz : Nat} (ht : ∀ w, (underlying t).run P w = .ok (.array len e) w) (hz : ∀ w, (sizeOf e).run P w = .ok sz w) (ho : o.op = .slice t x none none none) (hx : opd L x = some (.pointer (some ⟨g, 0, none⟩))) :
    Rn P n C o L (.slice (some ⟨g, 0, none⟩) len len) := fun a w ha _ => by
  by_cases h0 : len = 0
  · simp [execOp, ho, ha.eval hx, Instr.sliceAt, Instr.sureAddr, Instr.sliceBounds, ht, hz, h0]
  · simp [execOp, ho, ha.eval hx, Instr.sliceAt, Instr.sureAddr, Instr.sliceBounds, ht, hz, h0, addb]
theorem svC {α : Type} {E : Rp α} {κ : Col} {w : World} {N : List Nat} {i : Nat} {a : Option Addr} {c : Nat} {xs : List α} (h : Rd E κ w i a c xs) (hl : lle [0, i] N = true) : ∀ w', Cl N κ w w' → Sl E (fun _ => True) w' a c xs :=
  fun w' hw => h.st fun b hb => ⟨trivial, hw b hb.1 (lle_mem hl _ hb.2)⟩
theorem svE {α : Type} {E : Rp α} {κ : Col} {w : World} {i : Nat} {a : Option Addr} {c : Nat} {xs : List α} (h : Rd E κ w i a c xs) : ∀ w', w' = w → Sl E (fun _ => True) w' a c xs :=
  fun w' hw => by subst hw; exact h.st fun b hb => ⟨trivial, rfl⟩
theorem push_fold : ∀ (ns : List Int) (s : ByteArray), ns.foldl (fun r n => r.push (UInt8.ofNat n.toNat)) s = ⟨s.data ++ (ns.map fun n => UInt8.ofNat n.toNat).toArray⟩
  | [], s => by simp
  | x :: ns, s => by
    rw [List.foldl_cons, push_fold ns]
    simp [ByteArray.push]
theorem rn_b2s {xs : List Int} {x : Operand} {src dst e : TypeId} {a : Option Addr} {m c : Nat} (hs : P.underlying src = some (.slice e)) (he : P.underlying e = some (.int .u8)) (hd : P.underlying dst = some .string)
    (hm : m = xs.length) (h : ∀ w, C w → Sl (Rp.int .u8) (fun _ => True) w a c xs) (ho : o.op = .convert src dst x) (hx : opd L x = some (.slice a m c)) : Rn P n C o L (.string (strB xs)) := fun b w ha hC => by
  subst hm
  have hr := run_convert_bytes_string (P := P) w src dst e a xs.length c hs he hd
  obtain ⟨h1, h2, h3⟩ := h w hC
  have key : (Conv.bytesToString (.slice a xs.length c)).run P w = .ok (.string (strB xs)) w := by
    cases a with
    | none =>
      have hx0 : xs = [] := by
        rcases h3 with ⟨e, _⟩ | ⟨_, _, e, _⟩
        · exact e
        · cases e
      subst hx0
      simp [Conv.bytesToString, strB]
      rfl
    | some p =>
      have hl : (loadCells p xs.length).run P w = .ok (xs.map (Value.int .u8)).toArray w := by
        have := run_firstCells_some (P := P) w 1 xs.length p xs.length c (xs.map (Value.int .u8)) (by simp) (fun j v hv => by
          rw [List.getElem?_map] at hv
          cases hxj : xs[j]? with
          | none => rw [hxj] at hv; cases hv
          | some z =>
            rw [hxj] at hv
            cases hv
            rcases h3 with ⟨e, _⟩ | ⟨g, of, e, _, hg⟩
            · rw [e] at hxj; cases hxj
            · cases e
              obtain ⟨cs, h4, h5⟩ := hg j z hxj
              have h5 : cs = [.int .u8 z] := h5
              have := h4 0 (.int .u8 z) (by rw [h5]; rfl)
              have e1 : (Rp.int .u8).size = 1 := rfl
              rw [e1, Nat.mul_one, Nat.add_zero] at this
              rw [addb]
              exact this)
        simpa [Builtin.firstCells] using this
      rw [run_bytesToString w p xs.length c xs hl, push_fold]
      simp [strB]
  simp [execOp, ho, ha.eval hx, hr, key]
end
theorem lst_intS {k : IntKind} {F : Nat → Prop} {w : World} : ∀ {xs : List Int}, LstO (Ep.int k) F w (fun _ => False) (xs.map (Value.int k)) xs
  | [] => rfl
  | x :: r => ⟨[.int k x], r.map (Value.int k), fun _ => False, fun _ => False, rfl, fun _ h => h.elim, fun _ h => h.elim, rfl, lst_intS⟩
theorem strCells_bytesB (s : ByteArray) : Lib.strCells s = (bytesB s).map (Value.int .u8) := by simp [Lib.strCells, bytesB]
theorem run_appS {P : Program} {w : World} {t u ty T : TypeId} {ti : TypeInfo} {zv : Value} (ht : P.underlying t = some (.slice T)) (hu : P.underlying u = some .string) (hi : P.info? T = some ti) (hz : ti.zero = some zv) (hs : ti.size = 1) (hby : ti.bytes = 1) (hzs : zv.cells.size = 1)
    {a : Option Addr} {k c : Nat} {olds : List Value} (hrow : OwR w T 1 a k c olds) {s : ByteArray} (hmax : k + s.size ≤ 9223372036854775807) (hb : k + s.size ≤ 140737488355328) :
    ∃ a' c' w', (Builtin.append_ #[t, u] ty #[.slice a k c, .string s]).run P w = .ok (.slice a' (k + s.size) c') w' ∧ OwR w' T 1 a' (k + s.size) c' (olds ++ Lib.strCells s) ∧ Tch (nb a) w w' ∧ (nb a' = nb a ∨ w.heap.size < nb a') := by
  have hkc : k ≤ c := by
    rcases hrow.2 with ⟨_, h2, h3⟩ | ⟨g, o, cur, _, _, h2, _⟩ <;> omega
  have hk1 : olds.length = k := by rw [hrow.1, Nat.mul_one]
  have hsl := Lib.strCells_length s
  have hlen : (olds ++ Lib.strCells s).length = (k + s.size) * 1 := by rw [List.length_append, hk1, hsl, Nat.mul_one]
  have hm63 : k + s.size ≤ maxLen := by unfold maxLen; omega
  have grown : ∀ (old : Nat), old < k + s.size →
      OwR (w.drew.alloc (.cells (olds.toArray ++ (Lib.strCells s).toArray ++ Builtin.zeroCells zv.cells (grownCap w (k + s.size) old T - (k + s.size))) T)) T 1 (some ⟨w.heap.size, 0, none⟩) (k + s.size) (grownCap w (k + s.size) old T) (olds ++ Lib.strCells s) ∧
      Tch (nb a) w (w.drew.alloc (.cells (olds.toArray ++ (Lib.strCells s).toArray ++ Builtin.zeroCells zv.cells (grownCap w (k + s.size) old T - (k + s.size))) T)) := by
    intro old ho
    have hge := grownCap_ge w (k + s.size) old T
    refine ⟨⟨hlen, .inr ⟨w.heap.size, 0, _, rfl, heap_alloc_new w.drew _, hge, grownCap_le_maxLen w (k + s.size) old T hm63, ?_, ?_⟩⟩, ⟨rfl, rfl, rfl, by simp, fun b hb => heap_alloc_old w.drew _ hb.1⟩⟩
    · simp only [Array.size_append, List.size_toArray, size_zeroCells, hzs, hk1, hsl]
      omega
    · simp only [Array.toList_append, List.append_assoc, List.drop_zero]
      rw [← List.append_assoc, ← hlen]
      exact List.take_left
  have hf := Lib.run_firstCells_string (P := P) w 1 s
  rcases hrow.2 with ⟨rfl, rfl, rfl⟩ | ⟨g, o, cur, rfl, hg, _, hcm, hcs, htake⟩
  · have hx : olds = [] := List.eq_nil_of_length_eq_zero (by simpa using hrow.1)
    subst hx
    by_cases hm : s.size = 0
    · have hn : Lib.strCells s = [] := List.eq_nil_of_length_eq_zero (by rw [hsl, hm])
      rw [hn] at hf
      refine ⟨none, 0, w, ?_, ⟨by rw [hn, hm]; rfl, .inl ⟨rfl, by omega, rfl⟩⟩, Fr.refl _ _, .inl rfl⟩
      simp [Builtin.append_, run_underlying ht, run_underlying hu, sizeOf, typeInfo, hi, Builtin.lenOf, hm, Builtin.firstCells]
    · have hr := run_append_nil_string (P := P) w t u ty T ti zv ht hu hi hz s (by omega) (by omega) (by rw [hby]; omega)
      have hgr := grown 0 (by omega)
      have e1 : s.data.map (fun b => Value.int .u8 b.toNat) = (Lib.strCells s).toArray := by
        apply Array.ext'
        simp [Lib.strCells]
      rw [e1] at hr
      simp only [Nat.zero_add, List.nil_append, Array.empty_append] at hgr ⊢
      exact ⟨_, _, _, hr, hgr.1, hgr.2, .inr (by simp [nb])⟩
  · by_cases hroom : k + s.size ≤ c
    · rw [Nat.mul_one] at hcs htake
      have hst := run_storeCells_at P g (o + k) T (Lib.strCells s) 0 cur w hg (by rw [hsl]; omega) (Lib.strCells_oneCell s)
      simp only [Nat.add_zero] at hst
      have hr : (Builtin.append_ #[t, u] ty #[.slice (some ⟨g, o, none⟩) k c, .string s]).run P w = .ok (.slice (some ⟨g, o, none⟩) (k + s.size) c) (w.setRow g (cur.toList.take (o + k) ++ Lib.strCells s ++ cur.toList.drop (o + k + (Lib.strCells s).length)).toArray) := by
        simp [Builtin.append_, run_underlying ht, run_underlying hu, sizeOf, typeInfo, hi, hs, Builtin.lenOf, hroom, hf, addb, hst]
      refine ⟨_, _, _, hr, ⟨hlen, .inr ⟨g, o, _, rfl, setRow_heap w g cur _ T _ hg, hroom, hcm, ?_, ?_⟩⟩, Tch.setRow w g _, .inl rfl⟩
      · simp only [List.size_toArray, List.length_append, List.length_take, List.length_drop, Array.length_toList, hsl]
        omega
      · rw [← htake, Nat.mul_one]
        have hcl : cur.toList.length = cur.size := by simp
        generalize cur.toList = cl at *
        simp only []
        rw [List.append_assoc, List.drop_append, List.drop_take, List.length_take, show o - min (o + k) cl.length = 0 from by omega, List.drop_zero, show o + k - o = k from by omega, ← List.append_assoc]
        refine List.take_left' ?_
        simp only [List.length_append, List.length_take, List.length_drop, hsl]
        omega
    · have holds : ∀ (j : Nat) u, olds[j]? = some u → w.cell? ((⟨g, o, none⟩ : Addr).add j) = some u := fun j u hu => by
        rw [← htake, List.getElem?_take] at hu
        split at hu
        · rw [addb, cell_of_row w g _ cur T (0, 0) hg]
          rw [List.getElem?_drop] at hu
          simpa using hu
        · cases hu
      have hr := Lib.run_append_grow_string (P := P) w t u ty T ti zv ht hu hi hz ⟨g, o, none⟩ k c olds (by rw [hs]; exact hrow.1) holds s (by omega) (by omega) (growslice_fits (by omega) (by rw [hby]; omega))
      have hgr := grown c (by omega)
      exact ⟨_, _, _, hr, hgr.1, hgr.2, .inr (by simp [nb])⟩
section
variable {P : Program} {n : Nat} {ops : Array Oper} {C : World → Prop} {N : Act → World → Prop} {r : List (Nat × Nat)} {L : Env} {κ : Col} {w : World} {i d : Nat} {o : Oper}
/-- the bytes of a string are appended -/
theorem WO.appS (q : Nat) (ho : ops[i]? = some o) (hg : gd ops L o = some true) (hd : o.dst = some d) (hb : Nat.blt d n = true) {t u T : TypeId} {x y : Operand} {zv : Value} {ti : TypeInfo}
    {a : Option Addr} {c lx : Nat} {xs zs : List Int} {s : ByteArray} (hop : o.op = .call { callee := .builtin .append, args := #[x, y], argTypes := #[t, u] }) (hx : opd L x = some (.slice a lx c)) (hlx : lx = xs.length) (hy : opd L y = some (.string s))
    (ht : P.underlying t = some (.slice T)) (hu : P.underlying u = some .string) (hi : P.info? T = some ti) (hz : ti.zero = some zv) (hs : ti.size = 1) (hby : ti.bytes = 1) (hzs : zv.cells.size = 1)
    (hown : Oc (Ep.int .u8) T κ w q a c xs) (happ : appS 1 xs (bytesB s) = some zs) (h0 : nin [q] 0 = true)
    (k : ∀ a' c' w' κ', Stp [q] κ w κ' w' → Oc (Ep.int .u8) T κ' w' q a' c' zs → C w' ∧ WO P n ops C N r ((d, .slice a' zs.length c') :: L) w') : WO P n ops C N ((i, 1) :: r) L w :=
  WO.l ho hg hd hb fun act ha => by
    obtain ⟨cells, hrow, hbk, hlst⟩ := hown
    obtain ⟨hb1, hb2, hzs'⟩ := appS_ok happ
    rw [bytesB_len] at hb1 hb2
    subst hlx
    obtain ⟨a', c', w', hrun, hrow', htch, hnb⟩ := run_appS (P := P) (ty := o.type) ht hu hi hz hs hby hzs hrow (s := s) (by omega) (by omega)
    unfold Runs
    have hex : (execOp act.eval o).run P w = .ok (.value (.slice a' (xs.length + s.size) c')) w' := by
      simp [execOp, hop, ha.eval hx, ha.eval hy, resolve, invoke, builtin, hrun]
    rw [hex]
    have hlz : zs.length = xs.length + s.size := by rw [hzs', List.length_append, bytesB_len]
    have hst : Stp [q] κ w (rlc κ [q] w.heap.size q) w' := Stp.rlT _ _ htch fun b hb => by
      have := (hbk b hb).2
      simp only [List.mem_cons, List.not_mem_nil, or_false] at this
      rw [this]; simp
    have hk := k a' c' w' _ hst ⟨cells ++ Lib.strCells s, by rw [hlz]; exact hrow', fun b hb => ?_, ?_⟩
    · rw [hlz] at hk; exact hk
    · refine ⟨hrow'.lt hb, ?_⟩
      rcases hnb with e | e
      · have h1 := (hbk b (by rw [← e]; exact hb)).2
        simp only [List.mem_cons, List.not_mem_nil, or_false] at h1
        rw [rlc_in (by rw [h1]; simp)]; simp
      · rw [rlc_new (by omega)]; simp
    · rw [hzs', strCells_bytesB]
      have hne : ∀ b, Zl κ w [q] b → b + 1 ≠ nb a → (Zl (rlc κ [q] w.heap.size q) w' [q] b ∧ b + 1 ≠ nb a') ∧ w'.heap[b]? = w.heap[b]? := fun b hb hn => by
        have h1 := htch.block b ⟨hb.1, hn⟩
        refine ⟨⟨⟨Nat.lt_of_lt_of_le hb.1 htch.size, by rw [rlc_in hb.2]; simp⟩, fun h => ?_⟩, h1⟩
        rcases hnb with e | e
        · exact hn (by rw [← e]; exact h)
        · have := hb.1; omega
      have hF := Zl.st hst (nin1 h0)
      have hA : LstO (Ep.int .u8) (Zl (rlc κ [q] w.heap.size q) w' [0]) w' (fun b => Zl κ w [q] b ∧ b + 1 ≠ nb a) cells xs := hlst.st hF fun b hb => ⟨hb, (hne b hb.1 hb.2).2⟩
      exact LstO.append lst_intS (fun b hb => ⟨(hne b hb.1 hb.2).1, fun h => h⟩) (fun b hb => hb.elim) hA
end
end Go.Wk
