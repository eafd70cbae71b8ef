/- The product of a machine and an automaton: the numbering of pairs. -/
import Derived.Test.YtnmjfjppgpkieaaMachW4
import Derived.Test.YtnmjfjppgpkieaaDetEW4
set_option linter.unusedVariables false
set_option linter.unusedSimpArgs false
namespace Go.Proofs.Ytnmjfjppgpkieaa
open Go Go.Wk Go.Proofs

abbrev Key := Int × Int
/-- where a pair stands -/
def loc (K : List Key) (k : Key) : Option Nat := K.findIdx? (fun x => k == x)
def addK (K : List Key) (k : Key) : List Key := match loc K k with | some _ => K | none => K ++ [k]
def atK (K : List Key) (k : Key) : Int := match loc K k with | some i => (i : Int) | none => (K.length : Int)
def ixm (n : Nat) (K : List Key) : List (Key × Int) := (K.zipIdx n).map fun p => (p.1, (p.2 : Int))
theorem ixm_cons (n : Nat) (x : Key) (K : List Key) : ixm n (x :: K) = (x, (n : Int)) :: ixm (n + 1) K := rfl
theorem loc_cons (x : Key) (K : List Key) (k : Key) : loc (x :: K) k = if k = x then some 0 else (loc K k).map (· + 1) := by
  unfold loc
  rw [List.findIdx?_cons]
  by_cases h : k = x
  · simp [h]
  · have : (k == x) = false := by rw [beq_eq_false_iff_ne]; exact h
    rw [this, if_neg h]; rfl
theorem getK_ixm : ∀ (K : List Key) (n : Nat) (k : Key), getK (ixm n K) k = (loc K k).map fun i => ((n + i : Nat) : Int)
  | [], _, _ => rfl
  | x :: K, n, k => by
    rw [ixm_cons, loc_cons]
    show (if k = x then some (n : Int) else getK (ixm (n + 1) K) k) = _
    rw [getK_ixm K (n + 1) k]
    by_cases h : k = x
    · simp [h]
    · rw [if_neg h, if_neg h]
      cases loc K k with
      | none => rfl
      | some i =>
        show some ((n + 1 + i : Nat) : Int) = some ((n + (i + 1) : Nat) : Int)
        congr 2; omega
theorem putK_ixm : ∀ (K : List Key) (n : Nat) (k : Key), loc K k = none → putK (ixm n K) k ((n + K.length : Nat) : Int) = ixm n (K ++ [k])
  | [], n, k, _ => rfl
  | x :: K, n, k, h => by
    rw [loc_cons] at h
    have hk : ¬ k = x := fun e => by rw [if_pos e] at h; cases h
    rw [if_neg hk] at h
    have h' : loc K k = none := by cases e : loc K k with
      | none => rfl
      | some i => rw [e] at h; cases h
    rw [ixm_cons, List.cons_append, ixm_cons]
    show (if k = x then _ else _ :: putK (ixm (n + 1) K) k _) = _
    rw [if_neg hk, show n + (x :: K).length = (n + 1) + K.length from by simp only [List.length_cons]; omega, putK_ixm K (n + 1) k h']
theorem mget_ixm (K : List Key) {k : Key} (hw : kwI2 k = true) : mget kwI2 (ixm 0 K) k (0 : Int) = some (match loc K k with | some i => ((i : Int), true) | none => (0, false)) := by
  unfold mget
  rw [if_pos hw, getK_ixm]
  cases loc K k with
  | none => rfl
  | some i => simp
theorem mset_ixm {K : List Key} {k : Key} (hw : kwI2 k = true) (h : loc K k = none) : mset kwI2 (ixm 0 K) k (K.length : Int) = some (ixm 0 (K ++ [k])) := by
  unfold mset
  rw [if_pos hw]
  have := putK_ixm K 0 k h
  rw [Nat.zero_add] at this
  rw [this]
theorem kw_in {k : Key} (h1 : 0 ≤ k.1) (h2 : k.1 ≤ 1000) (h3 : 0 ≤ k.2) (h4 : k.2 ≤ 1000) : kwI2 k = true := by
  unfold kwI2 wf2
  simp only [decide_eq_true_eq]
  omega
theorem addK_len (K : List Key) (k : Key) : K.length ≤ (addK K k).length ∧ (addK K k).length ≤ K.length + 1 := by
  unfold addK
  cases loc K k <;> simp
theorem addK_get {K : List Key} {k : Key} {i : Nat} {v : Key} (h : K[i]? = some v) : (addK K k)[i]? = some v := by
  unfold addK
  cases loc K k with
  | some _ => exact h
  | none =>
    have := (List.getElem?_eq_some_iff.1 h).1
    dsimp only
    rw [List.getElem?_append_left this]; exact h
theorem addK_mem {K : List Key} {k x : Key} (h : x ∈ addK K k) : x ∈ K ∨ x = k := by
  unfold addK at h
  cases e : loc K k with
  | some _ => rw [e] at h; exact .inl h
  | none => rw [e] at h; simpa using h
theorem find_eq {x : l30Graph} {K : List Key} (h1 : x.of = K.map (·.1)) (h2 : x.by0 = K.map (·.2)) (hl : K.length ≤ 100000) (p q : Int) :
    s_l30Find x p q = some (atK K (p, q), (addK K (p, q)).map (·.1), (addK K (p, q)).map (·.2)) := by
  have hlen : x.of.length = K.length := by rw [h1, List.length_map]
  unfold s_l30Find
  rw [hlen, cnt_find0 (f := s_l30Find_b0 x p q) (fun k => ((p, q) : Key) == k) (fun i => ((i : Int), x.of, x.by0)) (xs := K) (fun i k hk => by
    unfold s_l30Find_b0
    rw [idx_nat, idx_nat, show x.of[i]? = some k.1 from by rw [h1, List.getElem?_map, hk]; rfl, show x.by0[i]? = some k.2 from by rw [h2, List.getElem?_map, hk]; rfl]
    simp only [Option.bind_some]
    have : (((p, q) : Key) == k) = ((k.1 == p) && (k.2 == q)) := by
      obtain ⟨a, b⟩ := k
      rw [Bool.eq_iff_iff, beq_iff_eq, Bool.and_eq_true, beq_iff_eq, beq_iff_eq, Prod.mk.injEq]
      exact ⟨fun h => ⟨h.1.symm, h.2.symm⟩, fun h => ⟨h.1.symm, h.2.symm⟩⟩
    rw [this]
    cases k.1 == p <;> cases k.2 == q <;> rfl)]
  unfold atK addK loc
  rw [Option.bind_some]
  cases K.findIdx? (fun k => ((p, q) : Key) == k) with
  | some i => simp [aft, h1, h2]
  | none =>
    have l2 : x.by0.length = K.length := by rw [h2, List.length_map]
    simp only [aft_inr]
    rw [app1 (by omega) rfl, Option.bind_some, app1 (by omega) rfl, Option.bind_some, h1, h2]
    simp only [List.length_append, List.length_map, List.length_cons, List.length_nil, List.map_append, List.map_cons, List.map_nil]
    rw [wr' (by omega) (by omega)]
    congr 2
    omega
def nums (n : Nat) : List Int := (List.range n).map (fun i : Nat => (i : Int))
theorem nums_succ (n : Nat) : nums (n + 1) = nums n ++ [(n : Int)] := by simp [nums, List.range_succ]
/-- a step of the product -/
def keyW (m : Machine) (d : Det) (ins q r j : Int) : Key := (tab m.Next q j, tab d.Next r (tab m.Out q j * ins + j))
abbrev St3 := List Key × List Int × List Int
def stepW (m : Machine) (d : Det) (ins q r : Int) (s : St3) (j : Int) : St3 := (addK s.1 (keyW m d ins q r j), s.2.1 ++ [atK s.1 (keyW m d ins q r j)], s.2.2 ++ [tab m.Out q j * ins + j])
def rowW (m : Machine) (d : Det) (ins q r : Int) (K : List Key) (j : Nat) : St3 := (nums j).foldl (stepW m d ins q r) (K, [], [])
theorem rowW_succ (m : Machine) (d : Det) (ins q r : Int) (K : List Key) (j : Nat) : rowW m d ins q r K (j + 1) = stepW m d ins q r (rowW m d ins q r K j) j := by
  unfold rowW
  rw [nums_succ, List.foldl_append]; rfl
def Kin (a b : Int) (K : List Key) : Prop := ∀ k ∈ K, 0 ≤ k.1 ∧ k.1 < a ∧ 0 ≤ k.2 ∧ k.2 < b
section
variable {p : Sig} {m : Machine} {d : Det} (hm : machOk p m = true) (hd : detOk p d = true)
include hm hd
theorem keyW_in {q r j : Int} (q0 : 0 ≤ q) (q1 : q < m.Next.length) (r0 : 0 ≤ r) (r1 : r < d.Next.length) (j0 : 0 ≤ j) (j1 : j < pw p.In) :
    ∃ a b c, idx m.Next q = some a ∧ idx a j = some (keyW m d (pw p.In) q r j).1 ∧ idx m.Out q = some b ∧ idx b j = some (tab m.Out q j) ∧ idx d.Next r = some c ∧ idx c (tab m.Out q j * pw p.In + j) = some (keyW m d (pw p.In) q r j).2 ∧
      0 ≤ tab m.Out q j ∧ tab m.Out q j < 4 ∧ 0 ≤ (keyW m d (pw p.In) q r j).1 ∧ (keyW m d (pw p.In) q r j).1 < m.Next.length ∧ 0 ≤ (keyW m d (pw p.In) q r j).2 ∧ (keyW m d (pw p.In) q r j).2 < d.Next.length := by
  obtain ⟨_, _, hlen, n1, n2⟩ := machOk_spec hm
  obtain ⟨_, _, _, n3⟩ := detOk_spec hd
  obtain ⟨a, a1, a2, a3, a4⟩ := tab_in n1 q0 q1 j0 j1
  obtain ⟨b, b1, b2, b3, b4⟩ := tab_in n2 q0 (by omega) j0 j1
  have pO := pw_le p.Out
  have hlt : tab m.Out q j * pw p.In + j < ltd p := by
    unfold ltd
    have hp : pw p.In = 2 ∨ pw p.In = 4 := by unfold pw; split <;> simp
    rcases hp with hp | hp <;> rw [hp] at j1 ⊢ <;> omega
  have h0 : 0 ≤ tab m.Out q j * pw p.In + j := by
    have hp : pw p.In = 2 ∨ pw p.In = 4 := by unfold pw; split <;> simp
    rcases hp with hp | hp <;> rw [hp] <;> omega
  obtain ⟨c, c1, c2, c3, c4⟩ := tab_in n3 r0 r1 h0 hlt
  exact ⟨a, b, c, a1, a2, b1, b2, c1, c2, b3, by omega, a3, a4, c3, c4⟩
theorem rowW_in {q r : Int} (q0 : 0 ≤ q) (q1 : q < m.Next.length) (r0 : 0 ≤ r) (r1 : r < d.Next.length) {K : List Key} (hK : Kin m.Next.length d.Next.length K) : ∀ (j : Nat), (j : Int) ≤ pw p.In →
    Kin m.Next.length d.Next.length (rowW m d (pw p.In) q r K j).1 ∧ K.length ≤ (rowW m d (pw p.In) q r K j).1.length ∧ (rowW m d (pw p.In) q r K j).1.length ≤ K.length + j ∧ (rowW m d (pw p.In) q r K j).2.1.length = j ∧ (rowW m d (pw p.In) q r K j).2.2.length = j ∧
      (∀ (i : Nat) v, K[i]? = some v → (rowW m d (pw p.In) q r K j).1[i]? = some v)
  | 0, _ => ⟨hK, Nat.le_refl _, by simp [rowW, nums], rfl, rfl, fun _ _ h => h⟩
  | j + 1, hj => by
    obtain ⟨h1, h2, h3, h4, h5, h6⟩ := rowW_in q0 q1 r0 r1 hK j (by omega)
    obtain ⟨_, _, _, _, _, _, _, _, _, _, _, k1, k2, k3, k4⟩ := keyW_in hm hd q0 q1 r0 r1 (j := (j : Int)) (by omega) (by omega)
    rw [rowW_succ]
    generalize rowW m d (pw p.In) q r K j = F at *
    have hl := addK_len F.1 (keyW m d (pw p.In) q r j)
    refine ⟨fun k hk => ?_, ?_, ?_, ?_, ?_, fun i v hv => addK_get (h6 i v hv)⟩
    · rcases addK_mem hk with hk | rfl
      · exact h1 k hk
      · exact ⟨k1, k2, k3, k4⟩
    · show K.length ≤ (addK F.1 _).length
      omega
    · show (addK F.1 _).length ≤ _
      omega
    · show (F.2.1 ++ [_]).length = _
      simp [h4]
    · show (F.2.2 ++ [_]).length = _
      simp [h5]
end
end Go.Proofs.Ytnmjfjppgpkieaa
