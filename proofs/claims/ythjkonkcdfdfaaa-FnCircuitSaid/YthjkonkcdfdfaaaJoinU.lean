/- JoinedBy, ChosenBy: what both sides compute. -/
import Derived.Test.YthjkonkcdfdfaaaStepOfU
set_option linter.unusedVariables false
set_option linter.unusedSimpArgs false
namespace Go.Proofs.Ythjkonkcdfdfaaa
open Go Go.Wk Go.Proofs

theorem getK_put {K V : Type} [DecidableEq K] : ∀ (xs : List (K × V)) (k k' : K) (v : V), getK (putK xs k v) k' = if k' = k then some v else getK xs k'
  | [], k, k', v => by simp [putK, getK]
  | p :: r, k, k', v => by
    simp only [putK]
    by_cases h : k = p.1
    · rw [if_pos h]
      simp only [getK]
      by_cases h' : k' = k
      · rw [if_pos h', if_pos h']
      · rw [if_neg h', if_neg h', if_neg (fun e => h' (e.trans h.symm))]
    · rw [if_neg h]
      simp only [getK]
      by_cases h' : k' = p.1
      · rw [if_pos h', if_pos h', if_neg (fun e => h (e.symm.trans h'))]
      · rw [if_neg h', if_neg h', getK_put r k k' v]
/-- a gate with its smaller literal first -/
def nrm (g : Gate) : Gate := ⟨if g.B < g.A then g.B else g.A, if g.A < g.B then g.B else g.A⟩
theorem nrm_nrm (g : Gate) : nrm (nrm g) = nrm g := by
  unfold nrm
  by_cases h1 : g.B < g.A
  · have h2 : ¬ g.A < g.B := by omega
    simp [h1, h2]
  · by_cases h2 : g.A < g.B
    · simp [h1, h2]
    · have e : g.A = g.B := by omega
      simp [e]
def findG (G : List Gate) (g : Gate) : Option Nat := G.findIdx? (fun x => decide (nrm x = g))
/-- what the builder knows -/
def Known (base : Int) (G : List Gate) (kn : List (Gate × Int)) : Prop := ∀ g, getK kn g = (findG G g).map (fun i : Nat => 2 * (base + (i : Int)))
theorem findG_push (G : List Gate) (x g : Gate) : findG (G ++ [x]) g = match findG G g with | some i => some i | none => if nrm x = g then some G.length else none := by
  unfold findG
  rw [List.findIdx?_append]
  cases G.findIdx? (fun x => decide (nrm x = g)) with
  | some i => rfl
  | none => by_cases h : nrm x = g <;> simp [h]
theorem wf_in {a b : Int} (a0 : 0 ≤ a) (a1 : a < 1000000) (b0 : 0 ≤ b) (b1 : b < 1000000) : wf2 a b = true := by
  unfold wf2
  exact decide_eq_true (by omega)
theorem nrm_in {g : Gate} (a0 : 0 ≤ g.A) (a1 : g.A < 1000000) (b0 : 0 ≤ g.B) (b1 : g.B < 1000000) : kwGate (nrm g) = true := by
  unfold kwGate nrm
  by_cases h1 : g.B < g.A <;> by_cases h2 : g.A < g.B <;> simp only [h1, h2, if_true, if_false] <;> exact wf_in (by omega) (by omega) (by omega) (by omega)
theorem learn_eq {base : Int} {G : List Gate} {k : builder} (hk : Known base G k.known) {g : Gate} (hg : kwGate (nrm g) = true) {x : Int} (hx : x = 2 * (base + (G.length : Int))) : ∃ kn, i_builder_learn k g x = some kn ∧ Known base (G ++ [g]) kn := by
  unfold i_builder_learn
  rw [show (⟨(if g.B < g.A then g.B else g.A), (if g.A < g.B then g.B else g.A)⟩ : Gate) = nrm g from rfl]
  unfold mget mset
  rw [if_pos hg, if_pos hg, hk (nrm g)]
  cases hf : findG G (nrm g) with
  | some i =>
    refine ⟨k.known, by simp, fun g' => ?_⟩
    rw [hk g', findG_push]
    cases hf' : findG G g' with
    | some j => rfl
    | none =>
      by_cases e : nrm g = g'
      · rw [← e, hf] at hf'; cases hf'
      · simp [e]
  | none =>
    refine ⟨putK k.known (nrm g) x, by simp, fun g' => ?_⟩
    rw [getK_put, findG_push]
    by_cases e : g' = nrm g
    · subst e
      rw [hf]
      simp [hx]
    · rw [if_neg e, hk g']
      cases hf' : findG G g' with
      | some j => rfl
      | none =>
        have h' : ¬ nrm g = g' := fun h => e h.symm
        simp only [if_neg h']
/-- the other literal of a signal -/
def turn (x : Int) : Int := if x % 2 = 1 then x - 1 else x + 1
theorem s_l31Turn_eq {x : Int} (h0 : 0 ≤ x) (h1 : x < 1000000) : s_l31Turn x = some (turn x) := by
  unfold s_l31Turn turn
  rw [Int.tmod_eq_emod_of_nonneg h0, wr' (by omega) (by omega), wr' (by omega) (by omega)]
  by_cases h : x % 2 = 1
  · simp [h]
  · have : (x % 2 == 1) = false := by rw [beq_eq_false_iff_ne]; exact h
    simp [h, this]
theorem xor_one (n : Nat) : n ^^^ 1 = if n % 2 = 1 then n - 1 else n + 1 := by
  have h1 : (n ^^^ 1) / 2 = n / 2 := by rw [Nat.xor_div_two]; simp
  have h2 := Nat.testBit_xor n 1 0
  rw [Nat.testBit_zero, Nat.testBit_zero, Nat.testBit_zero] at h2
  by_cases hn : n % 2 = 1
  · rw [decide_eq_true hn] at h2
    have h3 : ¬ (n ^^^ 1) % 2 = 1 := of_decide_eq_false (h2.trans rfl)
    rw [if_pos hn]; omega
  · rw [decide_eq_false hn] at h2
    have h3 : (n ^^^ 1) % 2 = 1 := of_decide_eq_true (h2.trans rfl)
    rw [if_neg hn]; omega
theorem i_turn {x : Int} (h0 : 0 ≤ x) (h1 : x < 1000000) : IntKind.i64.wrap ((BitVec.ofInt (IntKind.bits IntKind.i64) x ^^^ BitVec.ofInt (IntKind.bits IntKind.i64) 1).toNat : Int) = turn x := by
  rw [bxor h0 (by omega) (by omega) (by omega)]
  show ((x.toNat ^^^ 1 : Nat) : Int) = _
  rw [xor_one]
  unfold turn
  split <;> split <;> omega
theorem turn_in {x : Int} {n : Int} (h0 : 0 ≤ x) (h1 : x < 2 * n) : 0 ≤ turn x ∧ turn x < 2 * n := by
  unfold turn
  split <;> omega
/-- the circuit with other gates -/
def withG (c : Circuit) (G : List Gate) : Circuit := ⟨c.Inputs, c.Latches, c.Next, G, c.Outs⟩
def base (c : Circuit) : Int := 1 + c.Inputs + c.Latches
def zeroC : Circuit := ⟨0, 0, [], [], []⟩
/-- what a join asks of a circuit -/
def Head (c : Circuit) : Prop := 0 ≤ c.Inputs ∧ c.Inputs ≤ 4 ∧ 0 ≤ c.Latches ∧ c.Latches ≤ 6 ∧ (c.Gates.length : Int) ≤ 8000
theorem Head.of {c : Circuit} (h : circHead c = true) : Head c := by
  obtain ⟨h1, h2, h3, h4, h5, _⟩ := circHead_in h
  exact ⟨h1, h2, h3, h4, h5⟩
theorem Head.sig {c : Circuit} (h : Head c) : 1 ≤ sigs c ∧ sigs c ≤ 8011 := by
  unfold Head at h
  unfold sigs; omega
theorem Head.s_eq {c : Circuit} (h : Head c) : s_l31Signals c = some (sigs c) := by
  unfold Head at h
  unfold s_l31Signals sigs
  rw [wr' (z := 1 + c.Inputs) (by omega) (by omega), wr' (z := 1 + c.Inputs + c.Latches) (by omega) (by omega), wr' (by omega) (by omega)]
theorem Head.i_eq {c : Circuit} (h : Head c) : i_signalsOf c = some (sigs c) := h.s_eq
theorem Head.wth {c : Circuit} (h : Head c) {G : List Gate} (hG : G.length ≤ 8000) : Head (withG c G) ∧ sigs (withG c G) = base c + G.length := by
  unfold Head at h
  exact ⟨⟨h.1, h.2.1, h.2.2.1, h.2.2.2.1, by show (G.length : Int) ≤ 8000; omega⟩, rfl⟩
theorem head_with {c : Circuit} (h : circHead c = true) {G : List Gate} (hG : G.length ≤ 8000) : circHead (withG c G) = true ∧ sigs (withG c G) = base c + G.length := by
  have := circHead_in h
  refine ⟨?_, rfl⟩
  have e : circHead (withG c G) = (decide (0 ≤ c.Inputs) && decide (c.Inputs ≤ 4) && (decide (0 ≤ c.Latches) && decide (c.Latches ≤ 6)) && decide ((G.length : Int) ≤ 8000) && decide ((c.Outs.length : Int) ≤ 4) && ((c.Next.length : Int) == c.Latches)) := rfl
  rw [e]
  simp only [Bool.and_eq_true, decide_eq_true_eq, beq_iff_eq]
  exact ⟨⟨⟨⟨⟨by omega, by omega⟩, by omega, by omega⟩, by omega⟩, by omega⟩, by omega⟩
theorem gate_same {x : Gate} {a b : Int} : ((x.A == (if b < a then b else a)) && (x.B == (if a < b then b else a)) || ((x.A == (if a < b then b else a)) && (x.B == (if b < a then b else a)))) = decide (nrm x = ⟨if b < a then b else a, if a < b then b else a⟩) := by
  rw [Bool.eq_iff_iff]
  simp only [Bool.or_eq_true, Bool.and_eq_true, beq_iff_eq, decide_eq_true_eq, nrm, Gate.mk.injEq]
  by_cases h1 : b < a <;> by_cases h2 : a < b <;> by_cases h3 : x.B < x.A <;> by_cases h4 : x.A < x.B <;> simp only [h1, h2, h3, h4, if_true, if_false] <;> omega
/-- a join, by both -/
theorem join_head {c : Circuit} (hh : Head c) {f : Bool} {kn : List (Gate × Int)} (hk : Known (base c) c.Gates kn) {a b : Int} (a0 : 0 ≤ a) (a1 : a < 2 * sigs c) (b0 : 0 ≤ b) (b1 : b < 2 * sigs c) :
    ∃ x G fl kn', i_builder_join ⟨c, f, kn⟩ a b = some (x, G, fl, kn') ∧ G.length ≤ 8000 ∧ c.Gates.length ≤ G.length ∧ 0 ≤ x ∧ x < 2 * (base c + G.length) ∧ Known (base c) G kn' ∧
      ((fl = f ∧ s_l31Join c a b = some (withG c G, x)) ∨ (fl = true ∧ s_l31Join c a b = some (zeroC, -1) ∧ 8000 ≤ c.Gates.length)) ∧ (G = c.Gates ∨ G = c.Gates ++ [⟨if b < a then b else a, if a < b then b else a⟩]) := by
  have hb := hh
  unfold Head at hb
  have hs := hh.sig
  have hsg : sigs c = base c + c.Gates.length := rfl
  have hc : withG c c.Gates = c := rfl
  unfold i_builder_join s_l31Join
  simp only [orE, Option.bind_some, i_turn b0 (by omega : b < 1000000), s_l31Turn_eq b0 (by omega : b < 1000000)]
  cases e1 : (a == 0 || b == 0 || a == turn b) with
  | true => exact ⟨0, c.Gates, f, kn, rfl, by omega, Nat.le_refl _, by omega, by unfold base; omega, hk, .inl ⟨rfl, rfl⟩, .inl rfl⟩
  | false =>
    cases e2 : (a == 1) with
    | true => exact ⟨b, c.Gates, f, kn, rfl, by omega, Nat.le_refl _, b0, by omega, hk, .inl ⟨rfl, rfl⟩, .inl rfl⟩
    | false =>
      cases e3 : (b == 1 || a == b) with
      | true => exact ⟨a, c.Gates, f, kn, rfl, by omega, Nat.le_refl _, a0, by omega, hk, .inl ⟨rfl, rfl⟩, .inl rfl⟩
      | false =>
        simp only [cond_false]
        have hmin : s_l1Min a b = some (if b < a then b else a) := by
          unfold s_l1Min
          by_cases h : a < b
          · have : ¬ b < a := by omega
            simp [h, this]
          · by_cases h' : b < a
            · simp [h, h']
            · have : a = b := by omega
              subst this; simp
        have hmax : s_l1Max a b = some (if a < b then b else a) := by
          unfold s_l1Max
          by_cases h : a < b
          · have : ¬ b < a := by omega
            simp [h, this]
          · by_cases h' : b < a
            · simp [h, h']
            · have : a = b := by omega
              subst this; simp
        rw [hmin, hmax, Option.bind_some, Option.bind_some]
        have hg : kwGate (⟨if b < a then b else a, if a < b then b else a⟩ : Gate) = true := nrm_in (g := ⟨a, b⟩) a0 (by show a < _; omega) b0 (by show b < _; omega)
        have hn : nrm (⟨if b < a then b else a, if a < b then b else a⟩ : Gate) = ⟨if b < a then b else a, if a < b then b else a⟩ := nrm_nrm ⟨a, b⟩
        rw [cnt_find0 (f := s_l31Join_b1 c (if b < a then b else a) (if a < b then b else a)) (fun x => decide (nrm x = ⟨if b < a then b else a, if a < b then b else a⟩)) (fun i => (c, 2 * (base c + (i : Int)))) (xs := c.Gates) (fun i x hx => by
          have hi := (List.getElem?_eq_some_iff.1 hx).1
          unfold s_l31Join_b1
          rw [idx_nat, hx]
          simp only [Option.bind_some, andE, orE]
          rw [← gate_same, wr' (z := 1 + c.Inputs) (by omega) (by omega), wr' (z := 1 + c.Inputs + c.Latches) (by omega) (by omega), wr' (z := 1 + c.Inputs + c.Latches + i) (by omega) (by omega), wr' (by omega) (by omega)]
          cases ((x.A == (if b < a then b else a)) && (x.B == (if a < b then b else a)) || ((x.A == (if a < b then b else a)) && (x.B == (if b < a then b else a)))) <;> rfl)]
        unfold mget
        rw [if_pos hg, hk]
        rw [show (List.findIdx? (fun x => decide (nrm x = ⟨if b < a then b else a, if a < b then b else a⟩)) c.Gates) = findG c.Gates ⟨if b < a then b else a, if a < b then b else a⟩ from rfl]
        cases hf : findG c.Gates ⟨if b < a then b else a, if a < b then b else a⟩ with
        | some i =>
          have hi : i < c.Gates.length := by
            unfold findG at hf
            rw [List.findIdx?_eq_some_iff_getElem] at hf
            exact hf.1
          exact ⟨2 * (base c + i), c.Gates, f, kn, rfl, by omega, Nat.le_refl _, by unfold base; omega, by omega, hk, .inl ⟨rfl, rfl⟩, .inl rfl⟩
        | none =>
          simp only [Option.map_none, Option.bind_some, aft_inr, cond_false]
          by_cases hfull : 8000 ≤ (c.Gates.length : Int)
          · simp only [hfull, decide_true, cond_true]
            exact ⟨0, c.Gates, true, kn, rfl, by omega, Nat.le_refl _, by omega, by unfold base; omega, hk, .inr ⟨rfl, rfl, by omega⟩, .inl rfl⟩
          · simp only [hfull, decide_false, cond_false, hh.i_eq, Option.bind_some]
            rw [app1 (by omega) rfl, Option.bind_some, Option.bind_some, wr' (z := 2 * sigs c) (by omega) (by omega)]
            have hlen : (c.Gates ++ [(⟨if b < a then b else a, if a < b then b else a⟩ : Gate)]).length = c.Gates.length + 1 := by simp
            obtain ⟨hh', hs'⟩ := hh.wth (G := c.Gates ++ [(⟨if b < a then b else a, if a < b then b else a⟩ : Gate)]) (by omega)
            obtain ⟨kn', k1, k2⟩ := learn_eq (k := ⟨withG c (c.Gates ++ [(⟨if b < a then b else a, if a < b then b else a⟩ : Gate)]), f, kn⟩) (base := base c) (G := c.Gates) hk (g := ⟨if b < a then b else a, if a < b then b else a⟩) (by rw [hn]; exact hg) (x := 2 * sigs c) (by rw [hsg])
            rw [show (⟨⟨c.Inputs, c.Latches, c.Next, c.Gates ++ [(⟨if b < a then b else a, if a < b then b else a⟩ : Gate)], c.Outs⟩, f, kn⟩ : builder) = ⟨withG c (c.Gates ++ [(⟨if b < a then b else a, if a < b then b else a⟩ : Gate)]), f, kn⟩ from rfl, k1]
            rw [show (⟨c.Inputs, c.Latches, c.Next, c.Gates ++ [(⟨if b < a then b else a, if a < b then b else a⟩ : Gate)], c.Outs⟩ : Circuit) = withG c (c.Gates ++ [(⟨if b < a then b else a, if a < b then b else a⟩ : Gate)]) from rfl, hh'.s_eq, hs', Option.bind_some, Option.bind_some]
            have e9 : IntKind.i64.wrap (2 * IntKind.i64.wrap (base c + ((c.Gates ++ [(⟨if b < a then b else a, if a < b then b else a⟩ : Gate)]).length : Int) - 1)) = 2 * sigs c := by
              rw [hlen, wr' (z := base c + ((c.Gates.length + 1 : Nat) : Int) - 1) (by omega) (by omega), wr' (by omega) (by omega)]; omega
            rw [e9]
            exact ⟨2 * sigs c, _, f, kn', rfl, by omega, by omega, by omega, by omega, k2, .inl ⟨rfl, rfl⟩, .inr rfl⟩
theorem join_full {c : Circuit} (hh : circHead c = true) {f : Bool} {kn : List (Gate × Int)} (hk : Known (base c) c.Gates kn) {a b : Int} (a0 : 0 ≤ a) (a1 : a < 2 * sigs c) (b0 : 0 ≤ b) (b1 : b < 2 * sigs c) :
    ∃ x G fl kn', i_builder_join ⟨c, f, kn⟩ a b = some (x, G, fl, kn') ∧ G.length ≤ 8000 ∧ c.Gates.length ≤ G.length ∧ 0 ≤ x ∧ x < 2 * (base c + G.length) ∧ Known (base c) G kn' ∧
      ((fl = f ∧ s_l31Join c a b = some (withG c G, x)) ∨ (fl = true ∧ s_l31Join c a b = some (zeroC, -1) ∧ 8000 ≤ c.Gates.length)) ∧ (G = c.Gates ∨ G = c.Gates ++ [⟨if b < a then b else a, if a < b then b else a⟩]) :=
  join_head (Head.of hh) hk a0 a1 b0 b1
theorem join_same {c : Circuit} (hh : circHead c = true) {f : Bool} {kn : List (Gate × Int)} (hk : Known (base c) c.Gates kn) {a b : Int} (a0 : 0 ≤ a) (a1 : a < 2 * sigs c) (b0 : 0 ≤ b) (b1 : b < 2 * sigs c) :
    ∃ x G fl kn', i_builder_join ⟨c, f, kn⟩ a b = some (x, G, fl, kn') ∧ G.length ≤ 8000 ∧ c.Gates.length ≤ G.length ∧ 0 ≤ x ∧ x < 2 * (base c + G.length) ∧ Known (base c) G kn' ∧
      ((fl = f ∧ s_l31Join c a b = some (withG c G, x)) ∨ (fl = true ∧ s_l31Join c a b = some (zeroC, -1))) := by
  obtain ⟨x, G, fl, kn', h1, h2, h3, h4, h5, h6, h7, _⟩ := join_full hh (f := f) hk a0 a1 b0 b1
  refine ⟨x, G, fl, kn', h1, h2, h3, h4, h5, h6, ?_⟩
  rcases h7 with h7 | ⟨h7, h8, _⟩
  · exact .inl h7
  · exact .inr ⟨h7, h8⟩
theorem newBuilder_eq {c : Circuit} (hc : circOk c = true) : ∃ kn, i_newBuilder c = some ⟨c, false, kn⟩ ∧ Known (base c) c.Gates kn := by
  obtain ⟨hh, hgates, _, _⟩ := circOk_spec hc
  have hb := circHead_in hh
  unfold i_newBuilder
  rw [appL (by rw [List.length_nil]; omega) rfl, appL (by rw [List.length_nil]; omega) rfl, appL (by rw [List.length_nil]; omega) rfl]
  simp only [Option.bind_some, List.nil_append]
  obtain ⟨s, h1, h2⟩ := cnt_inv (f := i_newBuilder_b0 c c.Next c.Gates c.Outs) (fun j s => Known (base c) (c.Gates.take j) s) c.Gates.length (s := []) (fun g => rfl) (fun j s hj hs => by
    have hx : c.Gates[j]? = some c.Gates[j] := by simp [hj]
    have hg := hgates j _ hx
    unfold gateOk at hg
    rw [Bool.and_eq_true] at hg
    obtain ⟨g1, g2⟩ := inR_iff.1 hg.1
    obtain ⟨g3, g4⟩ := inR_iff.1 hg.2
    obtain ⟨kn, k1, k2⟩ := learn_eq (k := ⟨c, false, s⟩) hs (g := c.Gates[j]) (nrm_in g1 (by omega) g3 (by omega)) (x := 2 * (1 + c.Inputs + c.Latches + (j : Int))) (by rw [List.length_take]; unfold base; omega)
    unfold i_newBuilder_b0
    rw [idx_nat, hx, Option.bind_some, wr' (z := 1 + c.Inputs) (by omega) (by omega), wr' (z := 1 + c.Inputs + c.Latches) (by omega) (by omega), wr' (z := 1 + c.Inputs + c.Latches + j) (by omega) (by omega), wr' (by omega) (by omega)]
    rw [show (⟨⟨c.Inputs, c.Latches, c.Next, c.Gates, c.Outs⟩, false, s⟩ : builder) = ⟨c, false, s⟩ from rfl, k1]
    refine ⟨kn, rfl, ?_⟩
    rw [List.take_add_one, hx]
    exact k2)
  rw [List.take_length] at h2
  rw [h1]
  exact ⟨s, rfl, h2⟩
/-- gates that look back only -/
def GOk (bs : Int) (G : List Gate) : Prop := ∀ (i : Nat) g, G[i]? = some g → 0 ≤ g.A ∧ g.A < 2 * (bs + i) ∧ 0 ≤ g.B ∧ g.B < 2 * (bs + i)
theorem GOk.add {bs : Int} {G : List Gate} (h : GOk bs G) {g : Gate} (a0 : 0 ≤ g.A) (a1 : g.A < 2 * (bs + G.length)) (b0 : 0 ≤ g.B) (b1 : g.B < 2 * (bs + G.length)) : GOk bs (G ++ [g]) := fun i x hx => by
  rw [List.getElem?_append] at hx
  split at hx
  · exact h i x hx
  · rename_i hl
    have : i - G.length = 0 := by
      rcases Nat.eq_zero_or_pos (i - G.length) with e | e
      · exact e
      · rw [List.getElem?_eq_none (by simp; omega)] at hx; cases hx
    rw [this] at hx
    cases hx
    have : i = G.length := by omega
    subst this
    exact ⟨a0, a1, b0, b1⟩
end Go.Proofs.Ythjkonkcdfdfaaa
