/- Functions of strings and strconv: the kit's contracts in this frame. -/
import Derived.Test.YtnpmbkaoeihdmaaDoorStr
import Derived.Sort.Grow
import Derived.Lib.LaidTab
import Derived.Lib.ItoaNum
import Derived.Lib.Join
import Derived.Lib.IndexMore
import Derived.Lib.Split
import Derived.Shelf.Strings.Split
import Derived.Below
set_option linter.unusedVariables false
set_option linter.unusedSimpArgs false
namespace Go.Wk
open Go
variable {κ : Col} {w : World} {P : Program} {f : FuncId}

/-- a variable that holds these numbers, in a block that stays -/
def Tb (P : Program) (name : String) (k : IntKind) (zs : List Int) (κ : Col) (w : World) : Prop := Lib.TabIs P w name k zs ∧ ∀ g, P.globalNamed name = some g → g < w.heap.size ∧ κ g = 0
theorem Tb.to {name : String} {k : IntKind} {zs : List Int} {κ' : Col} {w' : World} (h : Tb P name k zs κ w) (hk : ∀ g, g < w.heap.size → κ g = 0 → g < w'.heap.size ∧ κ' g = 0 ∧ w'.heap[g]? = w.heap[g]?) : Tb P name k zs κ' w' := by
  obtain ⟨h1, h2⟩ := h
  refine ⟨?_, fun g hg => ⟨(hk g (h2 g hg).1 (h2 g hg).2).1, (hk g (h2 g hg).1 (h2 g hg).2).2.1⟩⟩
  unfold Lib.TabIs World.var? at h1 ⊢
  cases hg : P.globalNamed name with
  | none => simp [hg] at h1
  | some g =>
    simp only [hg, Option.bind_some] at h1 ⊢
    rw [(hk g (h2 g hg).1 (h2 g hg).2).2.2]
    exact h1
theorem Tb.stp {name : String} {k : IntKind} {zs : List Int} {X : List Nat} {κ' : Col} {w' : World} (h : Tb P name k zs κ w) (s : Stp X κ w κ' w') (h0 : nin X 0 = true) (_ : nin X 0 = true) : Tb P name k zs κ' w' :=
  h.to fun g hg hc => by
    have hs := s.size
    obtain ⟨h1, h2⟩ := s.keep g hg (by rw [hc]; exact nin_true.1 h0)
    exact ⟨by omega, by rw [h1, hc], h2⟩
theorem Tb.map {name : String} {k : IntKind} {zs : List Int} (h : Tb P name k zs κ w) (g : Nat → Nat) (h0 : g 0 = 0) (_ : g 0 = 0) : Tb P name k zs (fun b => g (κ b)) w :=
  h.to fun b hb hc => ⟨hb, by show g (κ b) = 0; rw [hc, h0], rfl⟩
/-- a variable of one number, in a block that stays -/
def Vm (b0 : Nat) (κ : Col) (w : World) : Prop := κ b0 = 0 ∧ b0 < w.heap.size ∧ ∃ m, w.cell? ⟨b0, 0, none⟩ = some (.int .i64 m)
theorem Vm.stp {b0 : Nat} {X : List Nat} {κ' : Col} {w' : World} (h : Vm b0 κ w) (s : Stp X κ w κ' w') (h0 : nin X 0 = true) (_ : nin X 0 = true) : Vm b0 κ' w' := by
  obtain ⟨h1, h2, m, h3⟩ := h
  have hs := s.size
  obtain ⟨h4, h5⟩ := s.keep b0 h2 (by rw [h1]; exact nin_true.1 h0)
  exact ⟨by rw [h4, h1], by omega, m, by rw [World.cell?_of_block (w := w) h5]; exact h3⟩
theorem Vm.map {b0 : Nat} (h : Vm b0 κ w) (g : Nat → Nat) (h0 : g 0 = 0) (_ : g 0 = 0) : Vm b0 (fun b => g (κ b)) w := ⟨by show g (κ b0) = 0; rw [h.1, h0], h.2⟩
theorem ent_below {w' : World} (h : Go.RowKit.Below w.heap.size w w') : Ent κ w κ w' := ⟨h.os, h.tape, h.output, h.size, fun b hb _ => ⟨rfl, h.block b hb⟩⟩

def fmtB (n b : Int) : Option ByteArray := if b = 10 ∧ -9223372036854775808 ≤ n ∧ n ≤ 9223372036854775807 then some ⟨(Lib.itoa n).toArray⟩ else none
theorem fmt_ok {name : String} {k : IntKind} {zs : List Int}
    (hC : ∀ (n : Int) (h0 : -9223372036854775808 ≤ n) (h1 : n ≤ 9223372036854775807) (w : World) (htab : Lib.TabIs P w name k zs), Calls P f #[.int .i64 n, .int .i64 10] w fun e w' => e = .returned (.string ⟨(Lib.itoa n).toArray⟩) ∧ ∃ k os, w' = Go.Sort.grow (w.drewN k) os)
    (g : Tb P name k zs κ w) {p0 p1 : Int} {r : ByteArray} (h : fmtB p0 p1 = some r) : Ret P f [.int .i64 p0, .int .i64 p1] w (fun v w' => ∃ (κ' : Col), v = .string r ∧ Ent κ w κ' w') := by
  unfold fmtB at h
  split at h
  · rename_i hh
    obtain ⟨rfl, h0, h1⟩ := hh
    cases h
    refine Calls.mono (hC p0 h0 h1 w g.1) fun e w' ⟨he, q, os, hw⟩ => ⟨_, he, κ, rfl, ?_⟩
    subst hw
    exact ⟨rfl, rfl, rfl, by simp [Go.Sort.grow], fun b hb _ => ⟨rfl, by
      simp only [Go.Sort.grow, World.heap_drewN]
      rw [Array.getElem?_append_left (by simpa using hb)]⟩⟩
  · cases h
def joinB (xs : List ByteArray) (sep : ByteArray) : Option ByteArray :=
  if xs.length ≤ 140737488355328 ∧ (Lib.join (xs.map (·.data.toList)) sep.data.toList).length ≤ 140737488355328 then some ⟨(Lib.join (xs.map (·.data.toList)) sep.data.toList).toArray⟩ else none
theorem join_ok (hN : ∀ (a : Option Addr) (c : Nat) (sep : ByteArray) (w : World), Calls P f #[.slice a 0 c, .string sep] w fun e w' => e = .returned (.string ⟨#[]⟩) ∧ w' = w)
    (hJ : ∀ (bk o c : Nat) (xs : List ByteArray) (sep : ByteArray) (w : World) (hcells : ∀ (j : Nat) x, xs[j]? = some x → w.cell? ⟨bk, o + j, none⟩ = some (.string x)) (hbk : bk < w.heap.size) (hN : xs.length ≤ 140737488355328) (hcap : xs.length ≤ c) (hlen : (Lib.join (xs.map (·.data.toList)) sep.data.toList).length ≤ 140737488355328),
      Calls P f #[.slice (some ⟨bk, o, none⟩) xs.length c, .string sep] w fun e w' => e = .returned (.string ⟨(Lib.join (xs.map (·.data.toList)) sep.data.toList).toArray⟩) ∧ Go.RowKit.Below w.heap.size w w')
    {a0 : Option Addr} {u0 : Nat} {p0 : List ByteArray} (g0 : Rd Rp.str κ w 0 a0 u0 p0) {p1 r : ByteArray} (h : joinB p0 p1 = some r) : Ret P f [.slice a0 p0.length u0, .string p1] w (fun v w' => ∃ (κ' : Col), v = .string r ∧ Ent κ w κ' w') := by
  unfold joinB at h
  split at h
  · rename_i hh
    obtain ⟨h1, h2⟩ := hh
    cases h
    obtain ⟨g1, g2, g3⟩ := g0
    rcases g3 with ⟨e, _⟩ | ⟨b, o, e, hb, hg⟩
    · subst e
      exact Calls.mono (hN a0 u0 p1 w) fun e w' ⟨he, hw⟩ => ⟨_, he, κ, rfl, by rw [hw]; exact Ent.refl _ _⟩
    · subst e
      refine Calls.mono (hJ b o u0 p0 p1 w (fun j x hx => ?_) hb.1 h1 g1 h2) fun e w' ⟨he, hw⟩ => ⟨_, he, κ, rfl, ent_below hw⟩
      obtain ⟨cs, h4, h5⟩ := hg j x hx
      have h5 : cs = [.string x] := h5
      have := h4 0 (.string x) (by rw [h5]; rfl)
      have e1 : Rp.str.size = 1 := rfl
      rw [e1, Nat.mul_one, Nat.add_zero] at this
      exact this
  · cases h
def cutB (s sep : ByteArray) : Option (ByteArray × ByteArray × Bool) :=
  if s.size < 4294967281 then some (⟨(Lib.cut s.data.toList sep.data.toList).1.toArray⟩, ⟨(Lib.cut s.data.toList sep.data.toList).2.1.toArray⟩, (Lib.cut s.data.toList sep.data.toList).2.2) else none
theorem cut_ok {b0 : Nat} (hC : ∀ (s sep : ByteArray) (m : Int) (w : World) (hs : s.size < 4294967281) (hm : w.cell? ⟨b0, 0, none⟩ = some (.int .i64 m)),
      Calls P f #[.string s, .string sep] w fun e w' => e = .returned (.tuple #[.string ⟨(Lib.cut s.data.toList sep.data.toList).1.toArray⟩, .string ⟨(Lib.cut s.data.toList sep.data.toList).2.1.toArray⟩, .bool (Lib.cut s.data.toList sep.data.toList).2.2]) ∧ ∃ n, w' = w.drewN n)
    (g : Vm b0 κ w) {p0 p1 : ByteArray} {r : ByteArray × ByteArray × Bool} (h : cutB p0 p1 = some r) : Ret P f [.string p0, .string p1] w (fun v w' => ∃ (κ' : Col), v = .tuple #[.string r.1, .string r.2.1, .bool r.2.2] ∧ Ent κ w κ' w') := by
  unfold cutB at h
  split at h
  · rename_i hh
    cases h
    obtain ⟨_, _, m, hm⟩ := g
    refine Calls.mono (hC p0 p1 m w hh hm) fun e w' ⟨he, q, hw⟩ => ⟨_, he, κ, rfl, ?_⟩
    subst hw
    exact ⟨rfl, rfl, rfl, Nat.le_refl _, fun b hb _ => ⟨rfl, rfl⟩⟩
  · cases h
def splitS (s sep : ByteArray) : Option (List ByteArray) := if s.size < 4294967281 ∧ 1 ≤ sep.size then some (Lib.splitB sep 0 (Lib.countB s sep) s) else none
theorem lst_str {F : Nat → Prop} : ∀ {xs : List ByteArray}, LstO Ep.str F w (fun _ => False) (xs.map Value.string) xs
  | [] => rfl
  | x :: r => ⟨[.string x], r.map Value.string, fun _ => False, fun _ => False, rfl, fun _ h => h.elim, fun _ h => h.elim, rfl, lst_str⟩
theorem split_ok {b0 : Nat} {T : TypeId} (hC : ∀ (s sep : ByteArray) (m : Int) (w : World) (hs : s.size < 4294967281) (hm : w.cell? ⟨b0, 0, none⟩ = some (.int .i64 m)) (h1 : 1 ≤ sep.size),
      Calls P f #[.string s, .string sep] w fun e w' => e = .returned (.slice (some ⟨w.heap.size, 0, none⟩) (Lib.countB s sep + 1) (Lib.countB s sep + 1)) ∧ w' = w.alloc (.cells ((Lib.splitB sep 0 (Lib.countB s sep) s).map Value.string).toArray T))
    (g : Vm b0 κ w) {p0 p1 : ByteArray} {r : List ByteArray} (h : splitS p0 p1 = some r) : Ret P f [.string p0, .string p1] w (fun v w' => ∃ (κ' : Col) (ra0 : Option Addr) (ru0 : Nat), v = .slice ra0 r.length ru0 ∧ Ent κ w κ' w' ∧ Oc Ep.str T κ' w' 2 ra0 ru0 r) := by
  unfold splitS at h
  split at h
  · rename_i hh
    obtain ⟨h1, h2⟩ := hh
    cases h
    obtain ⟨_, _, m, hm⟩ := g
    have hle := Lib.countB_le p1 h2 p0.size p0 (Nat.le_refl _)
    have hlen := Lib.splitB_all p1 h2 0 _ p0 rfl
    refine Calls.mono (hC p0 p1 m w h1 hm h2) fun e w' ⟨he, hw⟩ => ⟨_, he, fun b => bif Nat.blt b w.heap.size then κ b else 2, some ⟨w.heap.size, 0, none⟩, Lib.countB p0 p1 + 1, by rw [hlen], ?_, ?_⟩
    · subst hw
      exact ⟨rfl, rfl, rfl, by simp, fun b hb _ => ⟨cond_of (Nat.ble_eq.mpr hb), heap_alloc_old w _ hb⟩⟩
    · subst hw
      have hb : w.heap.size < (w.alloc (.cells ((Lib.splitB p1 0 (Lib.countB p0 p1) p0).map Value.string).toArray T)).heap.size := by simp
      refine ⟨(Lib.splitB p1 0 (Lib.countB p0 p1) p0).map Value.string, ⟨by rw [List.length_map]; exact (Nat.mul_one _).symm, .inr ⟨w.heap.size, 0, _, rfl, heap_alloc_new w _, by rw [hlen]; exact Nat.le_refl _, by unfold maxLen; omega, ?_, ?_⟩⟩, fun b hb' => ?_, lst_str.st (fun _ h => ⟨h, rfl⟩) fun _ h => h.elim⟩
      · show 0 + (Lib.countB p0 p1 + 1) * 1 ≤ _
        simp only [List.size_toArray, List.length_map, hlen]
        omega
      · show ((((Lib.splitB p1 0 (Lib.countB p0 p1) p0).map Value.string).toArray.toList.drop 0).take ((Lib.splitB p1 0 (Lib.countB p0 p1) p0).length * 1)) = _
        rw [List.drop_zero, Nat.mul_one]
        exact List.take_of_length_le (by simp)
      · have : b = w.heap.size := by simpa [nb] using hb'
        subst this
        refine ⟨hb, ?_⟩
        show (bif Nat.blt w.heap.size w.heap.size then κ w.heap.size else 2) ∈ [2]
        have : Nat.blt w.heap.size w.heap.size = false := by
          cases e : Nat.blt w.heap.size w.heap.size with
          | false => rfl
          | true => exact absurd (Nat.le_of_ble_eq_true e) (by omega)
        rw [this]; simp
  · cases h
end Go.Wk
