/- The truths of signals: what gates, joins and choices add. -/
import Derived.Test.YthjkonkcdfdfaaaJoinU
set_option linter.unusedVariables false
set_option linter.unusedSimpArgs false
namespace Go.Proofs.Ythjkonkcdfdfaaa
open Go Go.Wk Go.Proofs

/-- is a literal true? -/
def lit (V : List Bool) (x : Int) : Bool := V.getD (x / 2).toNat false != decide (x % 2 = 1)
/-- the truths behind some gates -/
def evG (V : List Bool) : List Gate → List Bool
  | [] => V
  | g :: G => evG (V ++ [lit V g.A && lit V g.B]) G
theorem evG_append : ∀ (G H : List Gate) (V : List Bool), evG V (G ++ H) = evG (evG V G) H
  | [], _, _ => rfl
  | g :: G, H, V => evG_append G H _
theorem evG_len : ∀ (G : List Gate) (V : List Bool), (evG V G).length = V.length + G.length
  | [], _ => rfl
  | g :: G, V => by
    show (evG (V ++ [lit V g.A && lit V g.B]) G).length = _
    rw [evG_len G, List.length_append, List.length_cons, List.length_cons, List.length_nil]; omega
theorem evG_ext : ∀ (G : List Gate) (V : List Bool), ∃ W, evG V G = V ++ W
  | [], V => ⟨[], by simp [evG]⟩
  | g :: G, V => by
    obtain ⟨W, h⟩ := evG_ext G (V ++ [lit V g.A && lit V g.B])
    exact ⟨[lit V g.A && lit V g.B] ++ W, by show evG _ G = _; rw [h, List.append_assoc]⟩
theorem lit_app {V W : List Bool} {x : Int} (x0 : 0 ≤ x) (x1 : x < 2 * (V.length : Int)) : lit (V ++ W) x = lit V x := by
  unfold lit
  rw [List.getD_eq_getElem?_getD, List.getD_eq_getElem?_getD, List.getElem?_append_left (by omega)]
theorem lit_ev {V : List Bool} (G : List Gate) {x : Int} (x0 : 0 ≤ x) (x1 : x < 2 * (V.length : Int)) : lit (evG V G) x = lit V x := by
  obtain ⟨W, h⟩ := evG_ext G V
  rw [h, lit_app x0 x1]
theorem lit_zero {V : List Bool} (h : V[0]? = some false) : lit V 0 = false ∧ lit V 1 = true := by
  unfold lit
  have e : V.getD 0 false = false := by rw [List.getD_eq_getElem?_getD, h]; rfl
  constructor
  · rw [show ((0 : Int) / 2).toNat = 0 from rfl, e]; rfl
  · rw [show ((1 : Int) / 2).toNat = 0 from rfl, e]; rfl
theorem lit_turn {V : List Bool} {x : Int} (x0 : 0 ≤ x) : lit V (turn x) = !lit V x := by
  unfold lit turn
  by_cases h : x % 2 = 1
  · rw [if_pos h, show (x - 1) / 2 = x / 2 from by omega]
    have : ¬ (x - 1) % 2 = 1 := by omega
    simp only [h, this, decide_true, decide_false]
    cases V.getD (x / 2).toNat false <;> rfl
  · rw [if_neg h, show (x + 1) / 2 = x / 2 from by omega]
    have : (x + 1) % 2 = 1 := by omega
    simp only [h, this, decide_true, decide_false]
    cases V.getD (x / 2).toNat false <;> rfl
/-- the truth of a gate's signal -/
theorem ev_gate {V : List Bool} {G : List Gate} (hG : ∀ (i : Nat) g, G[i]? = some g → 0 ≤ g.A ∧ g.A < 2 * ((V.length : Int) + i) ∧ 0 ≤ g.B ∧ g.B < 2 * ((V.length : Int) + i)) {i : Nat} {g : Gate} (hi : G[i]? = some g) :
    lit (evG V G) (2 * ((V.length : Int) + i)) = (lit (evG V G) g.A && lit (evG V G) g.B) := by
  obtain ⟨a0, a1, b0, b1⟩ := hG i g hi
  have hlt := (List.getElem?_eq_some_iff.1 hi).1
  have hsp : G = G.take i ++ g :: G.drop (i + 1) := by
    have := List.take_append_drop i G
    rw [List.drop_eq_getElem_cons hlt, (List.getElem?_eq_some_iff.1 hi).2] at this
    exact this.symm
  have hlen : (evG V (G.take i)).length = V.length + i := by rw [evG_len, List.length_take]; omega
  have e : evG V G = evG (evG V (G.take i) ++ [lit (evG V (G.take i)) g.A && lit (evG V (G.take i)) g.B]) (G.drop (i + 1)) := by
    conv => lhs; rw [hsp]
    rw [evG_append]
    rfl
  generalize evG V (G.take i) = U at hlen e
  have l1 : ((U ++ [lit U g.A && lit U g.B]).length : Int) = (V.length : Int) + i + 1 := by rw [List.length_append, hlen]; simp
  rw [e, lit_ev _ (by omega) (by omega), lit_ev _ a0 (by omega), lit_ev _ b0 (by omega), lit_app a0 (by omega), lit_app b0 (by omega)]
  show (_ != _) = _
  have h2 : (2 * ((V.length : Int) + i)) / 2 = ((U.length : Nat) : Int) := by omega
  have h3 : decide ((2 * ((V.length : Int) + i)) % 2 = 1) = false := decide_eq_false (by omega)
  rw [h2, h3, Int.toNat_natCast, List.getD_eq_getElem?_getD, List.getElem?_append_right (Nat.le_refl _), Nat.sub_self]
  simp
theorem nrm_lit {V : List Bool} {g h : Gate} (e : nrm g = nrm h) : (lit V g.A && lit V g.B) = (lit V h.A && lit V h.B) := by
  have key : ∀ g : Gate, (lit V (nrm g).A && lit V (nrm g).B) = (lit V g.A && lit V g.B) := fun g => by
    unfold nrm
    dsimp only
    by_cases h1 : g.B < g.A
    · have h2 : ¬ g.A < g.B := by omega
      rw [if_pos h1, if_neg h2, Bool.and_comm]
    · rw [if_neg h1]
      by_cases h2 : g.A < g.B
      · rw [if_pos h2]
      · rw [if_neg h2, show g.B = g.A from by omega]
  rw [← key g, ← key h, e]
/-- a join says: both -/
theorem join_sem {c : Circuit} (hh : Head c) {V : List Bool} (hV : (V.length : Int) = base c) (hz : V[0]? = some false) (hG : GOk (base c) c.Gates)
    {a b : Int} (a0 : 0 ≤ a) (a1 : a < 2 * sigs c) (b0 : 0 ≤ b) (b1 : b < 2 * sigs c) (hl : c.Gates.length < 8000) :
    ∃ x G, s_l31Join c a b = some (withG c G, x) ∧ (∃ W, G = c.Gates ++ W) ∧ G.length ≤ c.Gates.length + 1 ∧ GOk (base c) G ∧ 0 ≤ x ∧ x < 2 * (base c + G.length) ∧ lit (evG V G) x = (lit (evG V c.Gates) a && lit (evG V c.Gates) b) := by
  have hb := hh
  unfold Head at hb
  have hs := hh.sig
  have hsg : sigs c = base c + c.Gates.length := rfl
  have hc : withG c c.Gates = c := rfl
  have hz' : (evG V c.Gates)[0]? = some false := by
    obtain ⟨W, hW⟩ := evG_ext c.Gates V
    have hlt := (List.getElem?_eq_some_iff.1 hz).1
    rw [hW, List.getElem?_append_left hlt, hz]
  obtain ⟨z0, z1⟩ := lit_zero hz'
  unfold s_l31Join
  simp only [orE, Option.bind_some, s_l31Turn_eq b0 (by omega : b < 1000000)]
  cases e1 : (a == 0 || b == 0 || a == turn b) with
  | true =>
    refine ⟨0, c.Gates, rfl, ⟨[], by simp⟩, by omega, hG, by omega, by unfold base; omega, ?_⟩
    rw [z0]
    simp only [Bool.or_eq_true, beq_iff_eq] at e1
    rcases e1 with (rfl | rfl) | rfl
    · rw [z0]; rfl
    · rw [z0, Bool.and_false]
    · rw [lit_turn b0]
      cases lit (evG V c.Gates) b <;> rfl
  | false =>
    cases e2 : (a == 1) with
    | true =>
      refine ⟨b, c.Gates, rfl, ⟨[], by simp⟩, by omega, hG, b0, by omega, ?_⟩
      rw [beq_iff_eq] at e2
      rw [e2, z1]; rfl
    | false =>
      cases e3 : (b == 1 || a == b) with
      | true =>
        refine ⟨a, c.Gates, rfl, ⟨[], by simp⟩, by omega, hG, a0, by omega, ?_⟩
        simp only [Bool.or_eq_true, beq_iff_eq] at e3
        rcases e3 with rfl | rfl
        · rw [z1, Bool.and_true]
        · rw [Bool.and_self]
      | false =>
        simp only [cond_false]
        have hmin : s_l1Min a b = some (if b < a then b else a) := by
          unfold s_l1Min
          by_cases h : a < b
          · have : ¬ b < a := by omega
            simp [h, this]
          · by_cases h' : b < a
            · simp [h, h']
            · have : a = b := by omega
              subst this; simp
        have hmax : s_l1Max a b = some (if a < b then b else a) := by
          unfold s_l1Max
          by_cases h : a < b
          · have : ¬ b < a := by omega
            simp [h, this]
          · by_cases h' : b < a
            · simp [h, h']
            · have : a = b := by omega
              subst this; simp
        rw [hmin, hmax, Option.bind_some, Option.bind_some]
        have hn : nrm (⟨if b < a then b else a, if a < b then b else a⟩ : Gate) = ⟨if b < a then b else a, if a < b then b else a⟩ := nrm_nrm ⟨a, b⟩
        rw [cnt_find0 (f := s_l31Join_b1 c (if b < a then b else a) (if a < b then b else a)) (fun x => decide (nrm x = ⟨if b < a then b else a, if a < b then b else a⟩)) (fun i => (c, 2 * (base c + (i : Int)))) (xs := c.Gates) (fun i x hx => by
          have hi := (List.getElem?_eq_some_iff.1 hx).1
          unfold s_l31Join_b1
          rw [idx_nat, hx]
          simp only [Option.bind_some, andE, orE]
          rw [← gate_same, wr' (z := 1 + c.Inputs) (by omega) (by omega), wr' (z := 1 + c.Inputs + c.Latches) (by omega) (by omega), wr' (z := 1 + c.Inputs + c.Latches + i) (by omega) (by omega), wr' (by omega) (by omega)]
          cases ((x.A == (if b < a then b else a)) && (x.B == (if a < b then b else a)) || ((x.A == (if a < b then b else a)) && (x.B == (if b < a then b else a)))) <;> rfl)]
        have hab : (lit (evG V c.Gates) a && lit (evG V c.Gates) b) = (lit (evG V c.Gates) (if b < a then b else a) && lit (evG V c.Gates) (if a < b then b else a)) := nrm_lit (g := ⟨a, b⟩) (h := ⟨if b < a then b else a, if a < b then b else a⟩) hn.symm
        cases hf : List.findIdx? (fun x => decide (nrm x = ⟨if b < a then b else a, if a < b then b else a⟩)) c.Gates with
        | some i =>
          rw [List.findIdx?_eq_some_iff_getElem] at hf
          obtain ⟨hi, hp, _⟩ := hf
          refine ⟨2 * (base c + i), c.Gates, rfl, ⟨[], by simp⟩, by omega, hG, by unfold base; omega, by omega, ?_⟩
          rw [decide_eq_true_eq] at hp
          have hgi : c.Gates[i]? = some c.Gates[i] := by simp [hi]
          rw [← hV, ev_gate (fun i g h => by rw [hV]; exact hG i g h) hgi, hab]
          exact nrm_lit (h := ⟨if b < a then b else a, if a < b then b else a⟩) (hp.trans hn.symm)
        | none =>
          have hfull : ¬ 8000 ≤ (c.Gates.length : Int) := by omega
          simp only [Option.bind_some, aft_inr, hfull, decide_false, cond_false]
          rw [app1 (by omega) rfl, Option.bind_some]
          have hlen : (c.Gates ++ [(⟨if b < a then b else a, if a < b then b else a⟩ : Gate)]).length = c.Gates.length + 1 := by simp
          obtain ⟨hh', hs'⟩ := hh.wth (G := c.Gates ++ [(⟨if b < a then b else a, if a < b then b else a⟩ : Gate)]) (by omega)
          rw [show (⟨c.Inputs, c.Latches, c.Next, c.Gates ++ [(⟨if b < a then b else a, if a < b then b else a⟩ : Gate)], c.Outs⟩ : Circuit) = withG c (c.Gates ++ [(⟨if b < a then b else a, if a < b then b else a⟩ : Gate)]) from rfl, hh'.s_eq, hs', Option.bind_some]
          have e9 : IntKind.i64.wrap (2 * IntKind.i64.wrap (base c + ((c.Gates ++ [(⟨if b < a then b else a, if a < b then b else a⟩ : Gate)]).length : Int) - 1)) = 2 * (base c + c.Gates.length) := by
            rw [hlen, wr' (z := base c + ((c.Gates.length + 1 : Nat) : Int) - 1) (by omega) (by omega), wr' (by omega) (by omega)]; omega
          rw [e9]
          refine ⟨_, _, rfl, ⟨_, rfl⟩, by rw [hlen]; exact Nat.le_refl _, ?_, by unfold base; omega, by rw [hlen]; omega, ?_⟩
          · refine hG.add ?_ ?_ ?_ ?_ <;> (dsimp only; split <;> omega)
          rw [evG_append, hab]
          have hl' := evG_len c.Gates V
          generalize evG V c.Gates = U at hl' ⊢
          show lit (U ++ [_]) _ = _
          unfold lit
          rw [show (2 * (base c + (c.Gates.length : Int))) / 2 = ((U.length : Nat) : Int) from by omega, show decide ((2 * (base c + (c.Gates.length : Int))) % 2 = 1) = false from decide_eq_false (by omega), Int.toNat_natCast, List.getD_eq_getElem?_getD, List.getElem?_append_right (Nat.le_refl _), Nat.sub_self]
          simp
/-- literals of what was there keep their truth -/
theorem lit_keep {c : Circuit} {V : List Bool} (hV : (V.length : Int) = base c) {G W : List Gate} (hW : G = c.Gates ++ W) {x : Int} (x0 : 0 ≤ x) (x1 : x < 2 * sigs c) : lit (evG V G) x = lit (evG V c.Gates) x := by
  have hsg : sigs c = base c + c.Gates.length := rfl
  have hl := evG_len c.Gates V
  rw [hW, evG_append, lit_ev W x0 (by omega)]
/-- a choice says: one or the other -/
theorem choose_sem {c : Circuit} (hh : Head c) {V : List Bool} (hV : (V.length : Int) = base c) (hz : V[0]? = some false) (hG : GOk (base c) c.Gates)
    {x a b : Int} (x0 : 0 ≤ x) (x1 : x < 2 * sigs c) (a0 : 0 ≤ a) (a1 : a < 2 * sigs c) (b0 : 0 ≤ b) (b1 : b < 2 * sigs c) (hl : c.Gates.length + 3 ≤ 8000) :
    ∃ y G, s_l31Choose c x a b = some (withG c G, y) ∧ (∃ W, G = c.Gates ++ W) ∧ G.length ≤ c.Gates.length + 3 ∧ GOk (base c) G ∧ 0 ≤ y ∧ y < 2 * (base c + G.length) ∧ lit (evG V G) y = (if lit (evG V c.Gates) x then lit (evG V c.Gates) a else lit (evG V c.Gates) b) := by
  have hb := hh
  unfold Head at hb
  have hs := hh.sig
  have hsg : sigs c = base c + c.Gates.length := rfl
  have hbs : base c ≤ 11 := by unfold base; omega
  unfold s_l31Choose
  cases e1 : (a == b) with
  | true =>
    rw [beq_iff_eq] at e1
    refine ⟨a, c.Gates, rfl, ⟨[], by simp⟩, by omega, hG, a0, by omega, ?_⟩
    rw [e1]
    split <;> rfl
  | false =>
    simp only [cond_false]
    obtain ⟨tx0, tx1⟩ := turn_in x0 x1
    obtain ⟨q, G1, j1, ⟨W1, w1⟩, j2, j3, j4, j5, j6⟩ := join_sem hh hV hz hG x0 x1 a0 a1 (by omega)
    obtain ⟨h1, s1⟩ := hh.wth (G := G1) (by omega)
    have hl1 : c.Gates.length ≤ G1.length := by rw [w1, List.length_append]; omega
    obtain ⟨r, G2, k1, ⟨W2, w2⟩, k2, k3, k4, k5, k6⟩ := join_sem h1 (V := V) hV hz j3 tx0 (by omega : turn x < 2 * sigs (withG c G1)) b0 (by omega : b < 2 * sigs (withG c G1)) (by show G1.length < 8000; omega)
    have w2 : G2 = G1 ++ W2 := w2
    have k2 : G2.length ≤ G1.length + 1 := k2
    have k5 : r < 2 * (base c + G2.length) := k5
    have hl2 : G1.length ≤ G2.length := by rw [w2, List.length_append]; omega
    obtain ⟨h2, s2⟩ := hh.wth (G := G2) (by omega)
    obtain ⟨tq0, tq1⟩ := turn_in j4 (n := base c + G2.length) (by omega)
    obtain ⟨tr0, tr1⟩ := turn_in k4 (n := base c + G2.length) (by omega)
    obtain ⟨p, G3, m1, ⟨W3, w3⟩, m2, m3, m4, m5, m6⟩ := join_sem h2 (V := V) hV hz k3 tq0 (by omega : turn q < 2 * sigs (withG c G2)) tr0 (by omega : turn r < 2 * sigs (withG c G2)) (by show G2.length < 8000; omega)
    have w3 : G3 = G2 ++ W3 := w3
    have m2 : G3.length ≤ G2.length + 1 := m2
    have m5 : p < 2 * (base c + G3.length) := m5
    obtain ⟨tp0, tp1⟩ := turn_in m4 (n := base c + G3.length) (by omega)
    have hneg : ∀ {z : Int}, 0 ≤ z → decide (z < 0) = false := fun h => decide_eq_false (by omega)
    have bq : q < 1000000 := by omega
    have br : r < 1000000 := by omega
    have bp : p < 1000000 := by omega
    refine ⟨turn p, G3, ?_, ⟨W1 ++ W2 ++ W3, by rw [w3, w2, w1]; simp⟩, by omega, m3, tp0, tp1, ?_⟩
    · rw [j1, Option.bind_some]
      simp only [hneg j4, cond_false, s_l31Turn_eq x0 (by omega : x < 1000000), Option.bind_some]
      rw [k1, Option.bind_some]
      simp only [hneg k4, cond_false, s_l31Turn_eq j4 bq, s_l31Turn_eq k4 br, Option.bind_some]
      rw [show withG (withG c G1) G2 = withG c G2 from rfl, m1, Option.bind_some]
      simp only [hneg m4, cond_false, s_l31Turn_eq m4 bp, Option.bind_some]
      rfl
    · have m6 : lit (evG V G3) p = (lit (evG V G2) (turn q) && lit (evG V G2) (turn r)) := m6
      have k6 : lit (evG V G2) r = (lit (evG V G1) (turn x) && lit (evG V G1) b) := k6
      have f1 : lit (evG V G2) q = lit (evG V G1) q := lit_keep (c := withG c G1) hV w2 j4 (by rw [s1]; exact j5)
      have f2 := lit_keep hV w1 x0 x1
      have f3 := lit_keep hV w1 b0 b1
      rw [lit_turn m4, m6, lit_turn j4, lit_turn k4, k6, f1, j6, lit_turn x0, f2, f3]
      cases lit (evG V c.Gates) x <;> cases lit (evG V c.Gates) a <;> cases lit (evG V c.Gates) b <;> rfl
end Go.Proofs.Ythjkonkcdfdfaaa
