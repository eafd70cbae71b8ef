/- Steps that write: a store into a slice or a box of the call's own, an append, a slice literal; a result in memory. -/
import Derived.Test.YtpmnpdphailagaaOwn
set_option linter.unusedVariables false
set_option linter.unusedSimpArgs false
namespace Go.Wk
open Go

theorem Ow.len_le {α : Type} {E : Rp α} {T : TypeId} {M : List Nat} {w : World} {a : Option Addr} {c : Nat} {xs : List α} (h : Ow E T (Fz M w) w a c xs) : (xs.length : Int) ≤ 9223372036854775807 := h.read.len_le
theorem Sl.toE {α : Type} {E : Rp α} {M : List Nat} {w w' : World} {a : Option Addr} {c : Nat} {xs : List α} (h : Sl E (Fz M w) w a c xs) (e : Ext w w') : Sl E (Fz [] w') w' a c xs := h.st fun b hb => ⟨⟨Nat.lt_of_lt_of_le hb.1 e.size, by simp⟩, e.block b hb.1⟩
theorem Sl.toM {α : Type} {E : Rp α} {M : List Nat} {w w' : World} {a : Option Addr} {c : Nat} {xs : List α} (h : Sl E (Fz M w) w a c xs) (e : Ext w w') : Sl E (Fz M w') w' a c xs := h.stp (St.ext (Sub.refl _ _) e)

/-- only the block of this number (and one) was touched; there may be new blocks -/
abbrev Tch (m : Nat) (w w' : World) : Prop := Fr (fun b => b < w.heap.size ∧ b + 1 ≠ m) w w'
theorem Tch.st {m : Nat} {M M' : List Nat} {w w' : World} (h : Tch m w w') (hm : m = 0 ∨ m ∈ M) (hs : Sub w.heap.size M M') : St M w M' w' := St.of hs h.size fun b hb => h.block b ⟨hb.1, fun e => by
  rcases hm with h0 | h0
  · omega
  · exact hb.2 (e ▸ h0)⟩
theorem Tch.ext {m : Nat} {w0 w w' : World} (h : Tch m w w') (e : Ext w0 w) (hm : m = 0 ∨ w0.heap.size < m) : Ext w0 w' :=
  Fr.trans e (Fr.mono h fun b hb => ⟨Nat.lt_of_lt_of_le hb e.size, by simp only [All] at hb; omega⟩)
theorem Ow.tch {α : Type} {E : Rp α} {T : TypeId} {M M' : List Nat} {w w' : World} {a : Option Addr} {c m : Nat} {xs : List α} (h : Ow E T (Fz M w) w a c xs) (t : Tch m w w') (hm : m = 0 ∨ m ∈ M) (hs : Sub w.heap.size M M') (hne : nb a = 0 ∨ nb a ≠ m) : Ow E T (Fz M' w') w' a c xs :=
  h.stp (t.st hm hs) fun b hb => t.block b ⟨by have := h.nb_le; omega, by omega⟩
theorem Bx.tch {w w' : World} {b m : Nat} {T : TypeId} {cs : List Value} (h : Bx w b T cs) (t : Tch m w w') (hne : b + 1 ≠ m) : Bx w' b T cs := (t.block b ⟨h.lt, hne⟩).trans h
theorem Tch.of_grown {w w' : World} {a : Option Addr} {n c : Nat} (h : w.grownBy w' (Value.slice a n c).ownBlock) : Tch (nb a) w w' :=
  ⟨h.os, h.tape, h.output, h.size, fun b hb => h.block b hb.1 (by
    cases a with
    | none => simp [Value.ownBlock]
    | some p => simp only [Value.ownBlock, ne_eq, Option.some.injEq]; intro e; exact hb.2 (by simp [nb, e]))⟩
theorem Tch.setRow (w : World) (g : Nat) (cs : Array Value) : Tch (g + 1) w (w.setRow g cs) := ⟨rfl, rfl, rfl, by simp, fun b hb => setRow_other w g b cs (by have := hb.2; omega)⟩

/-- the cells of what is read, in a row -/
def Src {α : Type} (E : Rp α) (S : Nat → Prop) (w : World) (a : Option Addr) (c : Nat) (xs : List α) : Prop :=
  ∃ cells, Lst E S w cells xs ∧ (a = none → xs = [] ∧ c = 0) ∧ ∀ ad, a = some ad → ∀ (j : Nat) u, cells[j]? = some u → w.cell? (ad.add j) = some u
theorem Lst.one {α : Type} {E : Rp α} {S : Nat → Prop} {w : World} : ∀ {xs : List α} {cells : List Value}, Lst E S w cells xs → ∀ v ∈ cells, v.oneCell' = true
  | [], _, hl, v, hv => by rw [hl] at hv; cases hv
  | x :: r, _, ⟨c1, c2, e, h1, h2⟩, v, hv => by
    rw [e] at hv
    rcases List.mem_append.1 hv with h | h
    · exact E.one h1 v h
    · exact h2.one v h

theorem run_append_none' {P : Program} {w : World} (t ty e : TypeId) (i : TypeInfo) (size : Nat) (ht : P.underlying t = some (.slice e)) (hi : P.info? e = some i) (v : Value) (n : Nat) (xs : List Value) (hown : w.ownsRow 0 e size v n xs) :
    (Builtin.append_ #[t, t] ty #[v, .slice none 0 0]).run P w = .ok v w := run_append_owned_none w 0 t ty e i size ht hi v n xs hown

theorem Ow.src {α : Type} {E : Rp α} {T : TypeId} {M : List Nat} {w : World} {a : Option Addr} {c : Nat} {xs : List α} (h : Ow E T (Fz M w) w a c xs) : Src E (Fz M w) w a c xs := by
  obtain ⟨cells, ho, hl⟩ := h
  refine ⟨cells, hl, fun e => ?_, fun ad e j u hu => ?_⟩
  · rcases ownsRow_form ho with ⟨_, hc, h0, _⟩ | ⟨g, cur, e', _⟩
    · exact ⟨List.eq_nil_of_length_eq_zero h0, hc⟩
    · rw [e'] at e; cases e
  · rcases ownsRow_form ho with ⟨e', _⟩ | ⟨g, cur, e', hg, _, _, _, h4⟩
    · rw [e'] at e; cases e
    · rw [e'] at e
      obtain rfl := Option.some.inj e
      rw [← h4, List.getElem?_take] at hu
      split at hu
      · have : (⟨g, 0, none⟩ : Addr).add j = ⟨g, j, none⟩ := by unfold Addr.add; split <;> simp_all
        rw [this, cell_of_row w g j cur T (0, 0) hg]
        simpa using hu
      · cases hu

theorem lst_of_get {α : Type} {E : Rp α} {S : Nat → Prop} {w : World} (ce : Nat → Option Value) : ∀ (xs : List α) (k : Nat),
    (∀ (i : Nat) x, xs[i]? = some x → ∃ cs : List Value, (∀ (j : Nat) v, cs[j]? = some v → ce ((k + i) * E.size + j) = some v) ∧ E.rel S w cs x) →
    ∃ cells, Lst E S w cells xs ∧ ∀ (j : Nat) u, cells[j]? = some u → ce (k * E.size + j) = some u
  | [], _, _ => ⟨[], rfl, fun j u h => by simp at h⟩
  | x :: r, k, h => by
    obtain ⟨cs, h1, h2⟩ := h 0 x rfl
    obtain ⟨cells, h3, h4⟩ := lst_of_get ce r (k + 1) fun i y hy => by
      obtain ⟨c2, h5, h6⟩ := h (i + 1) y (by simpa using hy)
      exact ⟨c2, fun j v hv => by rw [show k + 1 + i = k + (i + 1) from by omega]; exact h5 j v hv, h6⟩
    refine ⟨cs ++ cells, ⟨cs, cells, rfl, h2, h3⟩, fun j u hu => ?_⟩
    have hl := E.len h2
    by_cases hj : j < cs.length
    · rw [List.getElem?_append_left hj] at hu
      exact h1 j u hu
    · rw [List.getElem?_append_right (by omega)] at hu
      have := h4 _ u hu
      rw [show k * E.size + j = (k + 1) * E.size + (j - cs.length) from by rw [Nat.add_mul]; omega]
      exact this

theorem Sl.src {α : Type} {E : Rp α} {S : Nat → Prop} {w : World} {a : Option Addr} {c : Nat} {xs : List α} (h : Sl E S w a c xs) : Src E S w a c xs := by
  rcases h.2.2 with ⟨e, hc⟩ | ⟨b, o, e, _, hg⟩
  · subst e
    exact ⟨[], rfl, fun ha => ⟨rfl, hc ha⟩, fun _ _ j u hu => by simp at hu⟩
  · obtain ⟨cells, h3, h4⟩ := lst_of_get (E := E) (S := S) (w := w) (fun j => w.cell? ⟨b, o + j, none⟩) xs 0 fun i x hx => by
      obtain ⟨cs, h5, h6⟩ := hg i x hx
      exact ⟨cs, fun j v hv => by simpa [Nat.add_assoc] using h5 j v hv, h6⟩
    refine ⟨cells, h3, fun ha => (by rw [e] at ha; cases ha), fun ad ha j u hu => ?_⟩
    rw [e] at ha
    obtain rfl := Option.some.inj ha
    have := h4 j u hu
    have e2 : (⟨b, o, none⟩ : Addr).add j = ⟨b, o + j, none⟩ := by unfold Addr.add; split <;> simp_all
    rw [e2]
    simpa using this

/-- the block of what an append hands back: the old one, or the next -/
theorem app_block {P : Program} {w : World} {t ty T : TypeId} {ti : TypeInfo} {zv : Value} {size bytes : Nat} (ht : P.underlying t = some (.slice T)) (hi : P.info? T = some ti) (hz : ti.zero = some zv) (hs : ti.size = size) (hby : ti.bytes = bytes)
    {a : Option Addr} {k c : Nat} {cells : List Value} (hrow : w.ownsRow 0 T size (.slice a k c) k cells) {ad : Addr} {m cy : Nat} {news : List Value} (hl : news.length = m * size)
    (hc : ∀ (j : Nat) u, news[j]? = some u → w.cell? (ad.add j) = some u) (h1 : ∀ u ∈ news, u.oneCell' = true) (hmax : k + m ≤ 9223372036854775807) (hb : (k + m) * bytes ≤ 140737488355328)
    {a' : Option Addr} {k' c' : Nat} {w' : World} (hrun : (Builtin.append_ #[t, t] ty #[.slice a k c, .slice (some ad) m cy]).run P w = .ok (.slice a' k' c') w') (hpos : a' ≠ none) : nb a' = nb a ∨ nb a' = w.heap.size + 1 := by
  subst hs hby
  rcases ownsRow_form hrow with ⟨rfl, rfl, rfl, rfl⟩ | ⟨g, cur, rfl, hg, hkc, hcm, hcs, htake⟩
  · by_cases hm : m = 0
    · subst hm
      have hn : news = [] := List.eq_nil_of_length_eq_zero (by simpa using hl)
      subst hn
      have : (Builtin.append_ #[t, t] ty #[.slice none 0 0, .slice (some ad) 0 cy]).run P w = .ok (.slice none 0 0) w := by
        simp [Builtin.append_, run_underlying ht, sizeOf, typeInfo, hi, Builtin.lenOf, Builtin.firstCells, loadCells, loadCellsFrom]
      rw [this] at hrun
      simp only [Result.ok.injEq, Value.slice.injEq] at hrun
      exact absurd hrun.1.1.symm hpos
    · have hr := run_append_nil (P := P) w t ty T ti zv ht hi hz ad m cy news hl hc (by omega) (by omega) (by have hb := hb; simp only [Nat.zero_add] at hb; omega)
      rw [hr] at hrun
      simp only [Result.ok.injEq, Value.slice.injEq] at hrun
      rw [← hrun.1.1]
      exact .inr rfl
  · by_cases hroom : k + m ≤ c
    · have hr := run_append_room (P := P) w t ty T ti ht hi g k c cur hg ad m cy news hl hc h1 hroom (by rw [hl, hcs, ← Nat.add_mul]; exact Nat.mul_le_mul_right _ hroom)
      rw [hr] at hrun
      simp only [Result.ok.injEq, Value.slice.injEq] at hrun
      rw [← hrun.1.1]
      exact .inl rfl
    · have hr := run_append_grow (P := P) w t ty T ti zv ht hi hz ⟨g, 0, none⟩ k c cells hrow.1 (hrow.cells (g := g) rfl) ad m cy news hl hc (by omega) (by omega) (growslice_fits (by omega) hb)
      rw [hr] at hrun
      simp only [Result.ok.injEq, Value.slice.injEq] at hrun
      rw [← hrun.1.1]
      exact .inr rfl

section
variable {P : Program} {n : Nat} {ops : Array Oper} {N : Act → World → Prop} {r : List (Nat × Nat)} {L : Env} {w : World} {i d : Nat} {o : Oper}

/-- append -/
theorem WO.app {C : World → Prop} {α : Type} {E : Rp α} {M : List Nat} (ho : ops[i]? = some o) (hg : gd ops L o = some true) (hd : o.dst = some d) (hb : Nat.blt d n = true) {t T : TypeId} {x y : Operand} {bytes : Nat} {zv : Value} {ti : TypeInfo}
    {a ay : Option Addr} {c cy l ly : Nat} {xs ys zs : List α} (hop : o.op = .call { callee := .builtin .append, args := #[x, y], argTypes := #[t, t] }) (hx : opd L x = some (.slice a l c)) (hl : l = xs.length) (hy : opd L y = some (.slice ay ly cy)) (hly : ly = ys.length)
    (ht : P.underlying t = some (.slice T)) (hi : P.info? T = some ti) (hz : ti.zero = some zv) (hs : ti.size = E.size) (hby : ti.bytes = bytes) (hzs : zv.cells.size = E.size) (h0 : 0 < E.size)
    (hown : Ow E T (Fz M w) w a c xs) (hm : nb a = 0 ∨ nb a ∈ M) (hsrc : Src E (Fz M w) w ay cy ys) (happ : appS bytes xs ys = some zs)
    (k : ∀ a' c' w', (nb a' = nb a ∨ w.heap.size < nb a') → Tch (nb a) w w' → (∀ M', Sub w.heap.size M M' → Ow E T (Fz M' w') w' a' c' zs) → C w' ∧ WO P n ops C N r ((d, .slice a' zs.length c') :: L) w') : WO P n ops C N ((i, 1) :: r) L w :=
  WO.l ho hg hd hb fun act ha => by
    obtain ⟨cells, hrow, hlst⟩ := hown
    obtain ⟨hb1, hb2, hzs'⟩ := appS_ok happ
    obtain ⟨news, hnl, hnone, hcell⟩ := hsrc
    subst hl hly
    unfold Runs
    have hex : ∀ (v' : Value) (w' : World), (Builtin.append_ #[t, t] o.type #[.slice a xs.length c, .slice ay ys.length cy]).run P w = .ok v' w' → (execOp act.eval o).run P w = .ok (.value v') w' := by
      intro v' w' hrun
      simp [execOp, hop, ha.eval hx, ha.eval hy, resolve, invoke, builtin, hrun]
    cases ay with
    | none =>
      obtain ⟨e1, e2⟩ := hnone rfl
      subst e1 e2
      have hrun := run_append_owned_none (P := P) w 0 t o.type T ti E.size ht hi _ _ cells hrow
      rw [hex _ _ hrun]
      simp only [List.append_nil] at hzs'
      subst hzs'
      exact k a c w (.inl rfl) (Fr.refl _ _) fun M' hM' => (Ow.stp ⟨cells, hrow, hlst⟩ (St.of hM' (Nat.le_refl _) fun _ _ => rfl) fun _ _ => rfl)
    | some ad =>
      obtain ⟨v', w', hrun, hown', hgr, hnil⟩ := run_append_own (P := P) w 0 t o.type T ti zv E.size bytes ht hi hz hs hby hzs h0 _ _ cells hrow ad ys.length cy news (hnl.len) (hcell ad rfl) hnl.one (by unfold maxLen; omega) hb1 (Nat.zero_le _)
      rw [hex _ _ hrun]
      have ht' : Tch (nb a) w w' := Tch.of_grown hgr
      have hlz : zs.length = xs.length + ys.length := by rw [hzs', List.length_append]
      obtain ⟨a', c', hv'⟩ : ∃ a' c', v' = .slice a' (xs.length + ys.length) c' := by
        rcases hown'.2 with ⟨e, hn⟩ | ⟨g, cap, cur, e, _⟩
        · exact ⟨none, 0, by rw [e, hn]⟩
        · exact ⟨_, _, e⟩
      subst hv'
      rw [← hlz] at hown'
      have hturn : nb a' = nb a ∨ w.heap.size < nb a' := by
        rcases ownsRow_form hown' with ⟨rfl, rfl, hz0, _⟩ | ⟨g, cur, rfl, hgg, _⟩
        · have : a = none := by
            rw [hlz] at hz0
            have h1 : xs.length + ys.length = 0 := hz0
            rw [h1] at hnil
            have := (hnil.1 rfl).1
            simp only [Value.slice.injEq] at this
            exact this.1
          subst this
          exact .inl rfl
        · rcases app_block ht hi hz hs hby hrow hnl.len (hcell ad rfl) hnl.one hb2 hb1 hrun (by simp) with e | e
          · exact .inl e
          · exact .inr (by omega)
      have hk := k a' c' w' hturn ht' fun M' hM' => ⟨_, hown', by
        have hst := ht'.st hm hM'
        rw [hzs']
        exact Lst.append (hnl.st hst) (hlst.st hst)⟩
      rw [hlz] at hk
      exact hk

theorem run_storeAt {P : Program} {w : World} {t : TypeId} {g off : Nat} {T : TypeId} {cur : Array Value} {v : Value} {cs : List Value} {k : Nat} (hg : w.heap[g]? = some (.cells cur T (0, 0))) (hz : ∀ w, (sizeOf t).run P w = .ok k w) (hcs : v.cells = cs.toArray) (hk : cs.length = k)
    (h1 : ∀ u ∈ cs, u.oneCell' = true) (hfit : off + k ≤ cur.size) : (Instr.storeAt t (.pointer (some ⟨g, off, none⟩)) v).run P w = .ok () (w.setRow g (cur.toList.take off ++ cs ++ cur.toList.drop (off + k)).toArray) := by
  subst hk
  have hst := run_storeCells_at P g off T cs 0 cur w hg (by omega) h1
  simp only [Nat.add_zero] at hst
  simp [Instr.storeAt, Instr.sureAddr, storeVar, hz, hcs, hst]

/-- an element is stored -/
theorem WO.stI {C : World → Prop} {α : Type} {E : Rp α} {M : List Nat} (ho : ops[i]? = some o) (hg : gd ops L o = some true) (hd : o.dst = none) {t T : TypeId} {x y : Operand} {a : Option Addr} {c j sz : Nat} {xs zs : List α} {v : Value} {cs : List Value} {e : α} {ix : Int}
    (hop : o.op = .store t x y) (hx : opd L x = some (.pointer (some (aAt a j)))) (hj : j = ix.toNat * E.size) (hy : opd L y = some v) (hcs : v.cells = cs.toArray) (hz : ∀ w, (sizeOf t).run P w = .ok sz w) (hsz : sz = E.size) (hrel : E.rel (Fz M w) w cs e)
    (hown : Ow E T (Fz M w) w a c xs) (hm : nb a = 0 ∨ nb a ∈ M) (hset : setI xs ix e = some zs)
    (k : ∀ w', Tch (nb a) w w' → Ow E T (Fz M w') w' a c zs → C w' ∧ WO P n ops C N r L w') : WO P n ops C N ((i, 1) :: r) L w :=
  WO.ln ho hg hd fun act ha => by
    subst hj hsz
    obtain ⟨h0, h1, h2, h3⟩ := setI_ok hset
    obtain ⟨cells, hrow, hlst⟩ := hown
    rcases ownsRow_form hrow with ⟨rfl, rfl, h4, _⟩ | ⟨g, cur, rfl, hgg, hkc, hcm, hcsz, htake⟩
    · omega
    · have hit : ix.toNat < xs.length := by omega
      have hmul : ix.toNat * E.size + E.size ≤ xs.length * E.size := by
        have := Nat.mul_le_mul_right E.size (show ix.toNat + 1 ≤ xs.length from hit)
        rwa [Nat.add_mul, Nat.one_mul] at this
      have hmul2 : xs.length * E.size ≤ c * E.size := Nat.mul_le_mul_right _ hkc
      have haddr : aAt (some ⟨g, 0, none⟩) (ix.toNat * E.size) = ⟨g, ix.toNat * E.size, none⟩ := by
        show (⟨g, 0, none⟩ : Addr).add _ = _
        unfold Addr.add; split <;> simp_all
      have hrun := run_storeAt (P := P) (t := t) (off := ix.toNat * E.size) hgg hz hcs (E.len hrel) (E.one hrel) (by omega)
      unfold Runs
      have : (execOp act.eval o).run P w = .ok .skip (w.setRow g (cur.toList.take (ix.toNat * E.size) ++ cs ++ cur.toList.drop (ix.toNat * E.size + E.size)).toArray) := by
        simp only [execOp, hop, ha.eval hx, ha.eval hy, haddr, Sem.run_bind, hrun, Result.andThen_ok, Sem.run_pure]
      rw [this]
      have ht : Tch (nb (some ⟨g, 0, none⟩)) w (w.setRow g (cur.toList.take (ix.toNat * E.size) ++ cs ++ cur.toList.drop (ix.toNat * E.size + E.size)).toArray) := Tch.setRow w g _
      have hst := ht.st hm (Sub.refl _ _)
      refine k _ ht ⟨cells.take (ix.toNat * E.size) ++ cs ++ cells.drop (ix.toNat * E.size + E.size), ?_, ?_⟩
      · have hcl := hrow.1
        have hcs' := E.len hrel
        rw [h3]
        clear hset h2 hrun this hst ht k hx haddr
        generalize ix.toNat * E.size = p at *
        refine ⟨?_, .inr ⟨g, c, _, rfl, Nat.zero_le _, setRow_heap w g cur _ T _ hgg, by omega, hcm, ?_, ?_⟩⟩
        · simp only [List.length_append, List.length_take, List.length_drop, hcl, hcs']; omega
        · simp only [List.size_toArray, List.length_append, List.length_take, List.length_drop, Array.length_toList, hcs', hcsz]; omega
        · rw [← htake]
          generalize xs.length * E.size = q at *
          have hlc : cur.toList.length = c * E.size := by simpa using hcsz
          generalize cur.toList = l at *
          rw [List.append_assoc, List.append_assoc, List.take_append, List.take_append, List.length_take, List.take_take, List.take_take, hlc, hcs',
            show min q p = p from by omega, show min p q = p from by omega, show min p (c * E.size) = p from by omega, List.take_of_length_le (l := cs) (by omega), List.take_drop,
            show p + E.size + (q - p - E.size) = q from by omega]
      · rw [h2]
        exact Lst.set (E.st hst hrel) (hlst.st hst) _ hit

/-- a field of a box is stored -/
theorem WO.stB {C : World → Prop} (ho : ops[i]? = some o) (hg : gd ops L o = some true) (hd : o.dst = none) {t T : TypeId} {x y : Operand} {b off sz : Nat} {v : Value} {cs vc cs' : List Value}
    (hop : o.op = .store t x y) (hx : opd L x = some (.pointer (some ((⟨b, 0, none⟩ : Addr).add off)))) (hy : opd L y = some v) (hvc : v.cells = vc.toArray) (hz : ∀ w, (sizeOf t).run P w = .ok sz w) (hl : vc.length = sz) (h1 : ∀ u ∈ vc, u.oneCell' = true)
    (hb : Bx w b T cs) (hfit : Nat.ble (off + sz) cs.length = true) (hcs' : cs.take off ++ vc ++ cs.drop (off + sz) = cs')
    (k : ∀ w', Tch (b + 1) w w' → Bx w' b T cs' → C w' ∧ WO P n ops C N r L w') : WO P n ops C N ((i, 1) :: r) L w :=
  WO.ln ho hg hd fun act ha => by
    have haddr : (⟨b, 0, none⟩ : Addr).add off = ⟨b, off, none⟩ := by unfold Addr.add; split <;> simp_all
    have hb' : w.heap[b]? = some (.cells cs.toArray T (0, 0)) := hb
    have hrun := run_storeAt (P := P) (t := t) (off := off) hb' hz hvc hl h1 (by simpa using Nat.ble_eq.mp hfit)
    unfold Runs
    have : (execOp act.eval o).run P w = .ok .skip (w.setRow b cs'.toArray) := by
      simp only [execOp, hop, ha.eval hx, ha.eval hy, haddr, Sem.run_bind, hrun, Result.andThen_ok, Sem.run_pure, hcs']
    rw [this]
    exact k _ (Tch.setRow w b _) (setRow_heap w b _ _ T _ hb')

/-- a whole box is stored -/
theorem WO.stB0 {C : World → Prop} (ho : ops[i]? = some o) (hg : gd ops L o = some true) (hd : o.dst = none) {t T : TypeId} {x y : Operand} {b sz : Nat} {v : Value} {cs vc : List Value}
    (hop : o.op = .store t x y) (hx : opd L x = some (.pointer (some ⟨b, 0, none⟩))) (hy : opd L y = some v) (hvc : v.cells = vc.toArray) (hz : ∀ w, (sizeOf t).run P w = .ok sz w) (hl : vc.length = sz) (h1 : ∀ u ∈ vc, u.oneCell' = true)
    (hb : Bx w b T cs) (hfit : cs.length = sz)
    (k : ∀ w', Tch (b + 1) w w' → Bx w' b T vc → C w' ∧ WO P n ops C N r L w') : WO P n ops C N ((i, 1) :: r) L w :=
  WO.stB (off := 0) ho hg hd hop (by simpa [Addr.add] using hx) hy hvc hz hl h1 hb (Nat.ble_eq.mpr (by omega)) (by simp [hfit]) k

/-- a slice literal -/
theorem WO.bld {C : World → Prop} {α : Type} {E : Rp α} {M : List Nat} (ho : ops[i]? = some o) (hg : gd ops L o = some true) (hd : o.dst = some d) (hb : Nat.blt d n = true) {t T : TypeId} {len : Nat} {parts : List (Nat × Operand)} {vs : List Value} {cells : List Value} {zv : Value} {ti : TypeInfo} {xs : List α}
    (hop : o.op = .buildSlice t len parts.toArray) (hv : opds L (parts.map (·.2)) = some vs) (ht : P.underlying t = some (.slice T)) (hi : P.info? T = some ti) (hz : ti.zero = some zv) (hs : ti.size = E.size) (hsmall : Nat.ble (len * ti.size) 16777216 = true) (hpos : Nat.blt 0 (len * ti.size) = true)
    (hp : List.zip (parts.map (·.1)) vs = (vs.zipIdx 0).map fun x => (x.2, x.1)) (hvl : vs.length = len) (hcells : (vs.flatMap fun v => v.cells.toList) = cells) (hlen : xs.length = len)
    (hsz : ∀ v ∈ vs, v.cells.size = E.size) (hl : Lst E (Fz M w) w cells xs)
    (k : ∀ a c w', Ext w w' → w.heap.size < nb a → Ow E T (Fz (nb a :: M) w') w' a c xs → C w' ∧ WO P n ops C N r ((d, .slice a xs.length c) :: L) w') : WO P n ops C N ((i, 1) :: r) L w :=
  WO.l ho hg hd hb fun act ha => by
    have hev : (parts.toArray.map fun (i, x) => (i, act.eval x)).toList = List.zip (parts.map (·.1)) vs := by
      have h1 : (parts.map (·.2)).map act.eval = vs := by simpa using ha.evals hv
      rw [← h1]
      clear hop hv hp h1
      induction parts with
      | nil => simp
      | cons p r ih => simpa using ih
    have h7 : 0 < E.size := by
      have h6 := Nat.ble_eq.mp hpos
      rcases Nat.eq_zero_or_pos E.size with h | h
      · rw [hs, h] at h6; simp at h6
      · exact h
    have hcl : cells.length = len * E.size := by rw [hl.len, hlen]
    have hvs : ∀ v ∈ vs, v.cells.size = E.size := hsz
    have hf := Great.fill_whole h7 vs ((Array.range (len * E.size)).map (zv.cells[· % zv.cells.size]!)) hvs (by simp [hvl])
    rw [← hp, ← hs, hcells] at hf
    unfold Runs
    have hrun := run_buildSlice (P := P) w t T len (parts.toArray.map fun (i, x) => (i, act.eval x)) cells.toArray ti zv ht hi hz (by have := Nat.ble_eq.mp hsmall; omega) (by have := Nat.ble_eq.mp hpos; omega) (by rw [hev]; exact hf)
    have : (execOp act.eval o).run P w = .ok (.value (.slice (some ⟨w.heap.size, 0, none⟩) len len)) (w.alloc (.cells cells.toArray T)) := by
      simp only [execOp, hop, Sem.run_bind, hrun, Result.andThen_ok, Sem.run_pure]
    rw [this]
    subst hlen
    have hmax : xs.length ≤ maxLen := by
      have h5 := Nat.ble_eq.mp hsmall
      have := Nat.le_mul_of_pos_right xs.length (hs ▸ h7 : 0 < ti.size)
      unfold maxLen; omega
    refine k _ _ _ (Ext.alloc _ _) (by simp [nb]) ⟨cells, World.ownsRow_lit w cells.toArray xs.length (Nat.zero_le _) hmax (by simpa using hcl), ?_⟩
    exact hl.st (St.ext (Sub.new (by simp [nb]) (Sub.refl _ _)) (Ext.alloc _ _))
end

theorem le_nil (n : Nat) : ∀ m, m ∈ ([] : List Nat) → m ≤ n := fun m hm => by cases hm
theorem le_base {M : List Nat} {w w' : World} (hM : ∀ m, m ∈ M → m ≤ w.heap.size) (e : Ext w w') : ∀ m, m ∈ M → m ≤ w'.heap.size := fun m hm => Nat.le_trans (hM m hm) e.size
theorem le_cons {n k : Nat} {M : List Nat} (hk : k ≤ n) (h : ∀ m, m ∈ M → m ≤ n) : ∀ m, m ∈ k :: M → m ≤ n := fun m hm => by
  rcases List.mem_cons.1 hm with e | hm
  · rw [e]; exact hk
  · exact h m hm
theorem le_ext {M : List Nat} {w w' : World} (h : ∀ m, m ∈ M → m ≤ w.heap.size) (e : Ext w w') : ∀ m, m ∈ M → m ≤ w'.heap.size := fun m hm => Nat.le_trans (h m hm) e.size

/-- to a results' list: what is on it and not 0 is on the state's list -/
theorem Ow.sbz {α : Type} {E : Rp α} {T : TypeId} {M M' : List Nat} {w : World} {a : Option Addr} {c : Nat} {xs : List α} (h : Ow E T (Fz M w) w a c xs) (s : ∀ m, m ∈ M' → m ≠ 0 → m ∈ M) : Ow E T (Fz M' w) w a c xs :=
  h.stp (fun b hb => ⟨⟨hb.1, fun hm => hb.2 (s _ hm (by omega))⟩, rfl⟩) fun _ _ => rfl

theorem Sl.getStr {S : Nat → Prop} {w : World} {a : Option Addr} {c : Nat} {xs : List ByteArray} (hs : Sl Rp.str S w a c xs) {i : Int} {x : ByteArray} (h : idx xs i = some x) :
    ∀ w', Fr S w w' → w'.cell? (aAt a (i.toNat * 1)) = some (.string x) := by
  obtain ⟨cs, h1, h2⟩ := hs.get h
  have h1 : cs = [.string x] := h1
  subst h1
  intro w' hw'
  exact h2 w' hw' 0 _ rfl

/-- an element of an own slice of slices: itself frozen -/
theorem Ow.getOw {α : Type} {E : Rp α} {T : TypeId} {M : List Nat} {w : World} {a : Option Addr} {c : Nat} {xs : List (List α)} (h : Ow (Rp.sl E) T (Fz M w) w a c xs) {i : Int} {x : List α} (hi : idx xs i = some x) :
    ∃ a' c', Sl E (Fz M w) w a' c' x ∧ ∀ w', Cw [] w w' → w'.cell? (aAt a (i.toNat * 1)) = some (.slice a' x.length c') := by
  obtain ⟨cells, hrow, hl⟩ := h
  obtain ⟨h0, h1, h2⟩ := idx_ok hi
  obtain ⟨cs, h3, a', c', e, h4⟩ := hl.get _ _ h2
  refine ⟨a', c', h4, fun w' hw' => ?_⟩
  rcases ownsRow_form hrow with ⟨_, _, hn, _⟩ | ⟨g, cur, rfl, hg, hkc, hcm, hcs, htake⟩
  · omega
  · have h5 := h3 0 (.slice a' x.length c') (by rw [e]; rfl)
    rw [← htake, List.getElem?_take] at h5
    have hE : (Rp.sl E).size = 1 := rfl
    rw [hE] at h5
    have hw : w'.heap[g]? = w.heap[g]? := hw'.block g ⟨(Array.getElem?_eq_some_iff.1 hg).1, by simp⟩
    have haddr : aAt (some ⟨g, 0, none⟩) (i.toNat * 1) = ⟨g, i.toNat * 1, none⟩ := by
      show (⟨g, 0, none⟩ : Addr).add _ = _
      unfold Addr.add; split <;> simp_all
    rw [haddr, cell_of_row w' g _ cur T (0, 0) (hw.trans hg)]
    split at h5
    · simpa using h5
    · cases h5

section
variable {P : Program} {n : Nat} {ops : Array Oper} {N : Act → World → Prop} {r : List (Nat × Nat)} {L : Env} {w : World} {i d : Nat} {o : Oper}
/-- the literal of no elements -/
theorem WO.bld0 {C : World → Prop} {α : Type} {E : Rp α} {M : List Nat} (ho : ops[i]? = some o) (hg : gd ops L o = some true) (hd : o.dst = some d) (hb : Nat.blt d n = true) {t T : TypeId} {ti : TypeInfo}
    (hop : o.op = .buildSlice t 0 #[]) (ht : P.underlying t = some (.slice T)) (hi : P.info? T = some ti) (hs : ti.size = E.size) (_h : True = True)
    (k : ∀ a c w', Ext w w' → w.heap.size < nb a → Ow E T (Fz (nb a :: M) w') w' a c ([] : List α) → C w' ∧ WO P n ops C N r ((d, .slice a ([] : List α).length c) :: L) w') : WO P n ops C N ((i, 1) :: r) L w :=
  WO.l ho hg hd hb fun act ha => by
    unfold Runs
    have : (execOp act.eval o).run P w = .ok (.value (.slice (some ⟨w.heap.size, 0, none⟩) 0 0)) (w.alloc (.cells #[] T)) := by
      simp [execOp, hop, Instr.buildSlice, run_underlying ht, sizeOf, typeInfo, hi, Instr.fill, newRow, Array.range_zero']
    rw [this]
    exact k _ _ _ (Ext.alloc _ _) (by simp [nb]) ⟨[], World.ownsRow_lit w #[] 0 (Nat.zero_le _) (by unfold maxLen; omega) (by simp), rfl⟩

/-- part of a struct in a box -/
theorem rn_loadBP {M : List Nat} {w0 : World} {x : Operand} {t T : TypeId} {b k : Nat} {cs : List Value} (hb : Bf M w0 b T cs) (off : Nat) (ht : ∀ w, (isAgg t).run P w = .ok true w) (hk : ∀ w, (sizeOf t).run P w = .ok k w) (ho : o.op = .load t x)
    (hx : opd L x = some (.pointer (some ((⟨b, 0, none⟩ : Addr).add off)))) (hl : ((cs.drop off).take k).length = k) : Rn P n (Cw M w0) o L (.agg ((cs.drop off).take k).toArray) :=
  rn_loadAgg ht hk ho hx (fun _ hw j v hv => by
    have h1 := hb.1.fr hw hb.2
    rw [Addr.add_add]
    have h2 : cs[off + j]? = some v := by
      rw [List.getElem?_take] at hv
      split at hv
      · simpa using hv
      · cases hv
    have h3 := h1.cell h2
    have e : (⟨b, 0, none⟩ : Addr).add (off + j) = ⟨b, 0 + off + j, none⟩ := by unfold Addr.add; split <;> simp_all <;> omega
    rwa [e] at h3) hl
end

section
variable {P : Program} {n : Nat} {fn : Func} {R : Value → World → Prop} {L : Env} {w : World}
theorem run_loadBox {b : Nat} {T t : TypeId} {cs : List Value} {k : Nat} (hb : Bx w b T cs) (ha : ∀ w, (isAgg t).run P w = .ok true w) (hk : ∀ w, (sizeOf t).run P w = .ok k w) (hl : cs.length = k) : (loadVar t ⟨b, 0, none⟩).run P w = .ok (.agg cs.toArray) w := by
  subst hl
  simp [loadVar, ha, hk, run_loadCells_list w ⟨b, 0, none⟩ cs fun j v hv => hb.cell hv]
theorem DN.retC {u : Nat} {t T : TypeId} {b k : Nat} {cs : List Value} (hres : fn.results = #[.cell u t]) (hu : look L u = some (.pointer (some ⟨b, 0, none⟩))) (hb : Bx w b T cs) (ha : ∀ w, (isAgg t).run P w = .ok true w) (hk : ∀ w, (sizeOf t).run P w = .ok k w) (hl : cs.length = k)
    (h : R (.agg cs.toArray) w) : DN n (bodyPost P fn (fun e w' => ∃ v, e = .returned v ∧ R v w')) .ret L w := fun a hka =>
  bodyPost_ret (v := .agg cs.toArray) (by simp [results, hres, hka.2.2 u _ hu, asAddr, run_loadBox hb ha hk hl]) hka.1 ⟨_, rfl, h⟩
end

theorem d_new {k m n : Nat} (hk : k ≤ n) (hm : n < m) : k = 0 ∨ k ≠ m := .inr (by omega)
theorem d_newO {k m n : Nat} (hk : k ≤ n) (hm : m = 0 ∨ n < m) : k = 0 ∨ k ≠ m := by omega
theorem d_turn {k m m' n : Nat} (hk : k ≤ n) (hm : m' = m ∨ n < m') (hd : k = 0 ∨ k ≠ m) : k = 0 ∨ k ≠ m' := by omega
theorem d_sym {a b : Nat} (hd : a = 0 ∨ a ≠ b) : b = 0 ∨ b ≠ a := by omega
theorem d_ne {a b : Nat} (hd : a + 1 = 0 ∨ a + 1 ≠ b) : a + 1 ≠ b := by omega
theorem d_none {k : Nat} : k = 0 ∨ k ≠ nb none := by simp only [nb]; omega
theorem f_new {w w1 : World} {m : Nat} (e : Ext w w1) (hm : w1.heap.size < m) : m = 0 ∨ w.heap.size < m := .inr (Nat.lt_of_le_of_lt e.size hm)
theorem f_newO {w w1 : World} {m : Nat} (e : Ext w w1) (hm : m = 0 ∨ w1.heap.size < m) : m = 0 ∨ w.heap.size < m := hm.imp id fun h => Nat.lt_of_le_of_lt e.size h
theorem f_turn {w w1 : World} {m m' : Nat} (e : Ext w w1) (hm : m' = m ∨ w1.heap.size < m') (hf : m = 0 ∨ w.heap.size < m) : m' = 0 ∨ w.heap.size < m' := by
  have := e.size; omega
theorem x_new {w w1 : World} {m : Nat} (e : Ext w w1) (hm : m = 0 ∨ w.heap.size < m) : m = 0 ∨ w.heap.size < m := hm

end Go.Wk
