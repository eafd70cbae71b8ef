/- From what a row says of an argument to the readings of Wk: each type once. -/
import Derived.Test.YtndiklipffipcaaLoop
import Derived.WalkKit
import Derived.ProofKit
import Derived.OpenShut
import Derived.ShutString
import Derived.ChangeOld
import Derived.Below
import Derived.Lib.SmallJoins
import Derived.Deep.Slices
set_option linter.unusedVariables false
set_option linter.unusedSimpArgs false
namespace Go.Wk
open Go Go.ChangeShapes Go.WideShapes Go.ChangeAt Go.RowKit

theorem cell_lt' {w : World} {b o : Nat} {v : Value} (h : w.cell? ⟨b, o, none⟩ = some v) : b < w.heap.size := by
  by_cases hb : b < w.heap.size
  · exact hb
  · have : w.heap[b]? = none := by simp; omega
    simp [World.cell?, this] at h

/-- what a row reads at the type T is data of the reading E, and fits -/
def Opn {α : Type} (P : Program) (T : TypeId) (E : Rp α) (ok : α → Prop) : Prop :=
  ∀ {H : Type} (enc : TypeId × Value → H) (w : World) (n : Nat) (cs : List Value) (y : DataW H × List MemPlace), DataW.trod enc P w 0 (fun _ => true) true n T cs = some y → ∃ x, E.rel (Zl (fun _ => 0) w [0, 0]) w cs x ∧ ok x

/-- an integer of 64 bits with its sign -/
def I64 (n : Int) : Prop := -9223372036854775808 ≤ n ∧ n ≤ 9223372036854775807

/-- an integer of 8 bits without a sign -/
def U8 (n : Int) : Prop := 0 ≤ n ∧ n ≤ 255

def okB (_ : Bool) : Prop := True
def okStr (s : ByteArray) : Prop := s.size ≤ maxLen
def okS {α : Type} (p : α → Prop) (xs : List α) : Prop := (∀ x ∈ xs, p x) ∧ xs.length ≤ maxLen

section
variable {P : Program} {T e : TypeId}
theorem opn_i64 (ht : P.underlying T = some (.int .i64)) : Opn P T (Rp.int .i64) I64 := fun enc w n cs y h => by
  obtain ⟨m, rfl, _, hw⟩ := DataW.trod_int ht h
  refine ⟨m, rfl, ?_⟩
  simp [Lit.wf, IntKind.min, IntKind.max, IntKind.bits, IntKind.signed] at hw
  unfold I64
  omega
theorem opn_u8 (ht : P.underlying T = some (.int .u8)) : Opn P T (Rp.int .u8) U8 := fun enc w n cs y h => by
  obtain ⟨m, rfl, _, hw⟩ := DataW.trod_int ht h
  refine ⟨m, rfl, ?_⟩
  simp [Lit.wf, IntKind.min, IntKind.max, IntKind.bits, IntKind.signed] at hw
  unfold U8
  omega
theorem opn_bool (ht : P.underlying T = some .bool) : Opn P T Rp.bool okB := fun enc w n cs y h => by
  obtain ⟨b, rfl, _⟩ := DataW.trod_bool ht h
  exact ⟨b, rfl, trivial⟩
theorem opn_str (ht : P.underlying T = some .string) : Opn P T Rp.str okStr := fun enc w n cs y h => by
  obtain ⟨s, rfl, _, hs⟩ := DataW.trod_string ht h
  exact ⟨s, rfl, hs⟩
theorem opn_iso {α β : Type} {A : Rp α} {ok : α → Prop} (f : β → α) (g : α → β) (hfg : ∀ x, f (g x) = x) (h : Opn P T A ok) : Opn P T (Rp.iso A f) (fun x => ok (f x)) := fun enc w n cs y hy => by
  obtain ⟨x, h1, h2⟩ := h enc w n cs y hy
  exact ⟨g x, by show A.rel _ _ _ (f (g x)); rw [hfg]; exact h1, by show ok (f (g x)); rw [hfg]; exact h2⟩

theorem choose_list {α : Type} {p : Nat → α → Prop} : ∀ n : Nat, (∀ i, i < n → ∃ x, p i x) → ∃ xs : List α, xs.length = n ∧ ∀ i x, xs[i]? = some x → p i x
  | 0, _ => ⟨[], rfl, fun i x h => by cases i <;> cases h⟩
  | n + 1, h => by
    obtain ⟨xs, h1, h2⟩ := choose_list n fun i hi => h i (by omega)
    obtain ⟨x, hx⟩ := h n (by omega)
    refine ⟨xs ++ [x], by simp [h1], fun i y hy => ?_⟩
    by_cases hi : i < n
    · rw [List.getElem?_append_left (by omega)] at hy
      exact h2 i y hy
    · have hin : i = n := by
        have := (List.getElem?_eq_some_iff.1 hy).1
        simp at this; omega
      subst hin
      rw [List.getElem?_append_right (by omega), h1] at hy
      simp at hy
      subst hy
      exact hx

theorem opn_sl {α : Type} {E : Rp α} {ok : α → Prop} (ht : P.underlying T = some (.slice e)) (hc : P.cellsOf e = E.size) (hp : Nat.ble 1 E.size = true) (h : Opn P e E ok) : Opn P T (Rp.sl E) (okS ok) := fun enc w n cs y hy => by
  rcases Go.Deep.open_slice ht hy with ⟨rfl, _⟩ | ⟨a, len, cap, m, n', D, Pl, rfl, hb, hl, hm, hmm, _, hx⟩
  · exact ⟨[], ⟨none, 0, rfl, Sl.nil⟩, by simp, by simp⟩
  · have hmc : m = cap := by simpa using hmm
    obtain ⟨xs, h1, h2⟩ := choose_list (p := fun i x => ok x ∧ ∃ cs' : List Value, cs'.length = E.size ∧ (∀ j, j < E.size → w.cell? ((a.add (i * E.size)).add j) = cs'[j]?) ∧ E.rel (Zl (fun _ => 0) w [0, 0]) w cs' x) len fun i hi => by
      obtain ⟨cs', h3, h4⟩ := hx i (by omega)
      obtain ⟨x, h5, h6⟩ := h enc w n' cs' _ h4
      rw [hc] at h3
      obtain ⟨_, h7, h8⟩ := World.cells?_some h3
      exact ⟨x, h6, cs', h7, h8, h5⟩
    refine ⟨xs, ⟨some a, cap, by rw [h1], by omega, hm, ?_⟩, fun x hx => ?_, by omega⟩
    · by_cases h0 : xs = []
      · exact .inl ⟨h0, fun h => by cases h⟩
      · right
        have hp := Nat.ble_eq.mp hp
        have hlen : 0 < xs.length := List.length_pos_iff.2 h0
        obtain ⟨b, o, s⟩ := a
        have hsp : ∀ i x, xs[i]? = some x → ∃ cs' : List Value, E.rel (Zl (fun _ => 0) w [0, 0]) w cs' x ∧ ∀ j v, cs'[j]? = some v → w.cell? ((⟨b, o, s⟩ : Addr).add (i * E.size + j)) = some v := fun i x hx => by
          obtain ⟨_, cs', h7, h8, h5⟩ := h2 i x hx
          refine ⟨cs', h5, fun j v hv => ?_⟩
          have hj := (List.getElem?_eq_some_iff.1 hv).1
          have := h8 j (by omega)
          rw [Go.Deep.add_add] at this
          rw [this]; exact hv
        have hs0 : s = none := by
          obtain ⟨_, cs', h7, h8, h5⟩ := h2 0 xs[0] (by simp [hlen])
          have h9 := h8 0 (by omega)
          rw [Nat.zero_mul, Go.Deep.add_add] at h9
          have : cs'[0]? = some cs'[0] := by simp
          rw [this] at h9
          have := World.cell?_spot h9
          simpa [Addr.add] using this
        subst hs0
        have hadd : ∀ k, (⟨b, o, none⟩ : Addr).add k = ⟨b, o + k, none⟩ := fun k => by unfold Addr.add; split <;> simp_all
        refine ⟨b, o, rfl, ⟨?_, by simp⟩, fun i x hx => ?_⟩
        · obtain ⟨_, cs', h7, h8, h5⟩ := h2 0 xs[0] (by simp [hlen])
          have h9 := h8 0 (by omega)
          rw [Nat.zero_mul, Go.Deep.add_add, hadd] at h9
          have : cs'[0]? = some cs'[0] := by simp
          rw [this] at h9
          exact cell_lt' h9
        · obtain ⟨cs', h5, h6⟩ := hsp i x hx
          refine ⟨cs', fun j v hv => ?_, h5⟩
          have := h6 j v hv
          rw [hadd] at this
          rw [show o + i * E.size + j = o + (i * E.size + j) from by omega]
          exact this
    · obtain ⟨i, hi⟩ := List.getElem?_of_mem hx
      exact (h2 i x hi).1

/-- the fields of a struct, from a place on -/
def OpnF {α : Type} (P : Program) (fs : List Field) (off : Nat) (E : Rp α) (ok : α → Prop) : Prop :=
  ∀ {H : Type} (enc : TypeId × Value → H) (w : World) (n : Nat) (cs : List Value), (∀ f ∈ fs, ∃ y, DataW.trod enc P w 0 (fun _ => true) true n f.type ((cs.drop f.offset).take (P.cellsOf f.type)) = some y) → ∃ x, E.rel (Zl (fun _ => 0) w [0, 0]) w ((cs.drop off).take E.size) x ∧ ok x
theorem opnF_one {α : Type} {E : Rp α} {ok : α → Prop} {f : Field} {off : Nat} (ho : f.offset = off) (hc : P.cellsOf f.type = E.size) (h : Opn P f.type E ok) : OpnF P [f] off E ok := fun enc w n cs hy => by
  obtain ⟨y, hy⟩ := hy f (by simp)
  rw [ho, hc] at hy
  exact h enc w n _ y hy
theorem opnF_cons {α β : Type} {E : Rp α} {F : Rp β} {ok : α → Prop} {ok' : β → Prop} {f : Field} {fs : List Field} {off : Nat} (ho : f.offset = off) (hc : P.cellsOf f.type = E.size) (h : Opn P f.type E ok) (h' : OpnF P fs (off + E.size) F ok') :
    OpnF P (f :: fs) off (Rp.pair E F) (fun x => ok x.1 ∧ ok' x.2) := fun enc w n cs hy => by
  obtain ⟨y, hy0⟩ := hy f (by simp)
  rw [ho, hc] at hy0
  obtain ⟨x, h1, h2⟩ := h enc w n _ y hy0
  obtain ⟨x', h3, h4⟩ := h' enc w n cs fun g hg => hy g (by simp [hg])
  refine ⟨(x, x'), ⟨_, _, ?_, h1, h3⟩, h2, h4⟩
  show (cs.drop off).take (E.size + F.size) = _
  rw [List.take_add, List.drop_drop]
theorem opn_struct {α : Type} {E : Rp α} {ok : α → Prop} {fs : Array Field} {l : List Field} (ht : P.underlying T = some (.struct fs)) (hl : fs.toList = l) (hc : P.cellsOf T = E.size) (h : OpnF P l 0 E ok) : Opn P T E ok := fun enc w n cs y hy => by
  obtain ⟨xs, n', _, _, h1, h2, h3⟩ := DataW.trod_struct ht hy
  subst hl
  obtain ⟨x, h4, h5⟩ := h enc w n' cs fun f hf => by
    obtain ⟨i, hi⟩ := List.getElem?_of_mem hf
    have hi' : fs[i]? = some f := by simpa using hi
    have hlt : i < xs.length := by rw [h2]; exact (Array.getElem?_eq_some_iff.1 hi').1
    exact ⟨xs[i], by rw [h3 i f hi']; simp [hlt]⟩
  refine ⟨x, ?_, h5⟩
  rw [List.drop_zero, ← hc, ← h1, List.take_length] at h4
  exact h4

/-- an argument opened -/
theorem opn_arg {α : Type} {E : Rp α} {ok : α → Prop} {H : Type} {enc : TypeId × Value → H} {w : World} {v : Value} {d : DataW H} {ps : List MemPlace} (h : Opn P T E ok) (hd : DataW.Trod enc P w 0 (fun _ => true) true T v d ps) :
    ∃ x, E.rel (Zl (fun _ => 0) w [0, 0]) w v.cells.toList x ∧ ok x := by
  obtain ⟨n, hn⟩ := hd
  exact h enc w n _ _ hn
end
end Go.Wk
