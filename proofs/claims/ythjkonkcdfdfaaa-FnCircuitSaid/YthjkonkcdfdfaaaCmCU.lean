/- The circuit of a machine meets what runs beside it; the machine of the circuit. -/
import Derived.Test.YthjkonkcdfdfaaaCmBU
import Derived.Test.YthjkonkcdfdfaaaCircuitMeetsSU
import Derived.Test.YthjkonkcdfdfaaaPlaceIU
import Derived.Test.YthjkonkcdfdfaaaNamesU
set_option linter.unusedVariables false
set_option linter.unusedSimpArgs false
namespace Go.Proofs.Ythjkonkcdfdfaaa
open Go Go.Wk Go.Proofs

/-- a loop that never leaves early, if it ends -/
theorem while_part {ρ σ : Type} {f : σ → Option (ρ ⊕ (σ ⊕ σ))} (I : σ → Prop) (step : ∀ s o, I s → f s = some o → (∃ s', o = .inr (.inl s')) ∨ ∃ s', o = .inr (.inr s') ∧ I s') : ∀ (n : Nat) (s : σ) (o : ρ ⊕ σ), I s → whileM f n s = some o → ∃ s', o = .inr s'
  | 0, s, o, _, h => by cases h
  | n + 1, s, o, hI, h => by
    have h : Option.bind (f s) (lpK (whileM f n)) = some o := h
    cases hf : f s with
    | none => rw [hf] at h; cases h
    | some o' =>
      rw [hf, Option.bind_some] at h
      rcases step s o' hI hf with ⟨s', rfl⟩ | ⟨s', rfl, hI'⟩
      · cases h; exact ⟨_, rfl⟩
      · exact while_part I step n s' o hI' h
theorem cnt_part {ρ σ : Type} {f : Int → σ → Option (ρ ⊕ (σ ⊕ σ))} (I : Nat → σ → Prop) (N : Nat) (step : ∀ (j : Nat) s o, j < N → I j s → f j s = some o → ∃ s', o = .inr (.inr s') ∧ I (j + 1) s') : ∀ (k j : Nat) (s : σ) (o : ρ ⊕ σ), j + k = N → I j s → cntM f k j s = some o → ∃ s', o = .inr s' ∧ I N s'
  | 0, j, s, o, hj, hI, h => by
    have h : some (Sum.inr s) = some o := h
    cases h
    exact ⟨s, rfl, by rw [← hj]; exact hI⟩
  | k + 1, j, s, o, hj, hI, h => by
    have h : Option.bind (f j s) (lpK (cntM f k ((j : Int) + 1))) = some o := h
    cases hf : f j s with
    | none => rw [hf] at h; cases h
    | some o' =>
      rw [hf, Option.bind_some] at h
      obtain ⟨s', rfl, hI'⟩ := step j s o' (by omega) hI hf
      exact cnt_part I N step k (j + 1) s' o (by omega) hI' h
theorem idx_pre {α : Type} {xs ys : List α} (h : xs <+: ys) {z : Int} {x : α} (hx : idx xs z = some x) : idx ys z = some x := by
  obtain ⟨h0, h1, h2⟩ := idx_ok hx
  obtain ⟨r, rfl⟩ := h
  rw [idx_int h0, List.getElem?_append_left (List.getElem?_eq_some_iff.1 h2).1]
  exact h2
section
variable {p : Sig} {m : Machine} (hs : sigOk p = true) (hm : machOk p m = true) {c : Circuit} (S : Steps p m c)
include hs hm S
/-- a machine that runs in step with the first is met -/
theorem meets_of {m' : Machine} (hm' : machOk p m' = true) (Rel : Nat → Nat → Prop) (h0 : Rel 0 0)
    (hR : ∀ a b : Nat, Rel a b → a < m.Next.length ∧ b < m'.Next.length ∧ ∀ i : Nat, (i : Int) < pw p.In → Rel (tab m.Next a i).toNat (tab m'.Next b i).toNat ∧ tab m.Out a i = tab m'.Out b i) : i_CircuitMeets p c m' = some true ∧ s_CircuitMeets p c m' = some true := by
  obtain ⟨hc, hI, hO, hst⟩ := S
  obtain ⟨n1, n2, n3, n4, n5⟩ := machOk_spec hm
  obtain ⟨k1, k2, k3, k4, k5⟩ := machOk_spec hm'
  have pI := pw_le p.In
  obtain ⟨b, hsb, hb⟩ := CircuitMeets_same p c m'
  suffices hbt : b = true by subst hbt; exact ⟨hb, hsb⟩
  unfold i_CircuitMeets at hb
  rw [i_isSig_eq, hs] at hb
  simp only [Option.bind_some, Bool.not_true, cond_false] at hb
  rw [i_isMachine_eq hs, hm'] at hb
  have e1 : (c.Inputs != p.In) = false := by rw [hI]; simp
  have e2 : ((c.Outs.length : Int) != p.Out) = false := by rw [hO]; simp
  simp only [Option.bind_some, Bool.not_true, cond_false, i_isCircuit_eq, hc, e1, e2] at hb
  cases hw : whileM (i_CircuitMeets_b0 c m') (2 ^ 64) ([(0, 0)], 0) with
  | none => rw [hw] at hb; cases hb
  | some o =>
    obtain ⟨s', rfl⟩ := while_part (fun s : List (Int × Int) × Int => ∀ q ∈ s.1, ∃ a b : Nat, q = ((a : Int), (b : Int)) ∧ Rel a b) (fun s o hs1 hf => by
      obtain ⟨od, i⟩ := s
      dsimp only at hs1
      unfold i_CircuitMeets_b0 at hf
      dsimp only at hf
      by_cases hlt : i < (od.length : Int)
      · simp only [hlt, decide_true, cond_true] at hf
        cases hq : idx od i with
        | none => rw [hq] at hf; cases hf
        | some q =>
          have hqm : q ∈ od := List.mem_of_getElem? (idx_ok hq).2.2
          obtain ⟨a, b, rfl, hab⟩ := hs1 q hqm
          obtain ⟨ha, hb', hstep⟩ := hR a b hab
          obtain ⟨row, r1, r2⟩ := get_el (xs := m'.Next) (z := (b : Int)) (by omega) (by omega)
          obtain ⟨hrl, _⟩ := k4 row r2
          rw [hq, Option.bind_some, r1, Option.bind_some] at hf
          cases hcn : cntM (i_CircuitMeets_b2 c m' (od, i) row) row.length 0 od with
          | none => rw [hcn] at hf; cases hf
          | some oo =>
            obtain ⟨od', rfl, _, hgood⟩ := cnt_part (f := i_CircuitMeets_b2 c m' (od, i) row) (fun _ s4 => od <+: s4 ∧ ∀ q ∈ s4, ∃ a b : Nat, q = ((a : Int), (b : Int)) ∧ Rel a b) row.length (fun j s4 o' hj ⟨hpre, hg⟩ hf' => by
              obtain ⟨row', u1, u2, u3, u4⟩ := tab_in k4 (q := (b : Int)) (i := (j : Int)) (by omega) (by omega) (by omega) (by omega)
              rw [r1] at u1
              cases u1
              obtain ⟨orow, v1, v2, _⟩ := tab_in k5 (q := (b : Int)) (i := (j : Int)) (by omega) (by omega) (by omega) (by omega)
              obtain ⟨_, _, _, w3, w4⟩ := tab_in n4 (q := (a : Int)) (i := (j : Int)) (by omega) (by omega) (by omega) (by omega)
              obtain ⟨hrel, hout⟩ := hstep j (by omega)
              have hne : (tab m.Out a j != tab m'.Out b j) = false := by rw [hout]; simp
              unfold i_CircuitMeets_b2 at hf'
              dsimp only at hf'
              simp only [u2, Option.bind_some, idx_pre hpre hq, hst a j ha (by omega), v1, v2, hne, cond_false] at hf'
              cases hct : slices_Contains_2_int64_2_int64 s4 (tab m.Next a j, tab m'.Next b j) with
              | none => rw [hct] at hf'; cases hf'
              | some bb =>
                rw [hct, Option.bind_some] at hf'
                cases bb with
                | true =>
                  cases hf'
                  exact ⟨_, rfl, hpre, hg⟩
                | false =>
                  simp only [Bool.not_false, cond_true] at hf'
                  unfold appS at hf'
                  split at hf'
                  · cases hf'
                    refine ⟨_, rfl, hpre.trans (List.prefix_append ..), fun q hq' => ?_⟩
                    rw [List.mem_append, List.mem_singleton] at hq'
                    rcases hq' with hq' | rfl
                    · exact hg q hq'
                    · exact ⟨(tab m.Next a j).toNat, (tab m'.Next b j).toNat, by rw [Int.toNat_of_nonneg w3, Int.toNat_of_nonneg u3], hrel⟩
                  · cases hf') row.length 0 od _ (by omega) ⟨List.prefix_refl _, hs1⟩ hcn
            rw [hcn] at hf
            cases hf
            exact .inr ⟨_, rfl, hgood⟩
      · simp only [hlt, decide_false, cond_false] at hf
        cases hf
        exact .inl ⟨_, rfl⟩) (2 ^ 64) _ o (fun q hq => by
      dsimp only at hq
      rw [List.mem_singleton] at hq
      subst hq
      exact ⟨0, 0, rfl, h0⟩) hw
    rw [hw] at hb
    exact (Option.some.inj hb).symm
/-- the rows of the machine of the circuit -/
def RowsOk (m : Machine) (w : Int) (od : List Int) (nx ot : List (List Int)) : Prop := ∀ r : Nat, r < nx.length → ∃ (a : Nat) (row orow : List Int), od[r]? = some (a : Int) ∧ nx[r]? = some row ∧ ot[r]? = some orow ∧ (row.length : Int) = w ∧ (orow.length : Int) = w ∧
  ∀ x : Nat, (x : Int) < w → ∃ k : Nat, row[x]? = some (k : Int) ∧ od[k]? = some (tab m.Next a x) ∧ orow[x]? = some (tab m.Out a x)
theorem machine_of : ∃ (od : List Int) (back : Machine), i_CircuitMachine p c = some (back, true) ∧ Names m.Next.length od ∧ od[0]? = some 0 ∧ back.Next.length = od.length ∧ back.Out.length = od.length ∧ RowsOk m (pw p.In) od back.Next back.Out := by
  obtain ⟨hc, hI, hO, hst⟩ := S
  obtain ⟨n1, n2, n3, n4, n5⟩ := machOk_spec hm
  have pI := pw_le p.In
  obtain ⟨w, hw⟩ := ex_nat (z := pw p.In) (by omega)
  have hrng : rng (w : Int) = some () := by unfold rng; rw [if_pos (by omega)]
  unfold i_CircuitMachine
  rw [i_isSig_eq, hs]
  simp only [Option.bind_some, Bool.not_true, cond_false]
  have e1 : (c.Inputs != p.In) = false := by rw [hI]; simp
  have e2 : ((c.Outs.length : Int) != p.Out) = false := by rw [hO]; simp
  simp only [Option.bind_some, Bool.not_true, cond_false, i_isCircuit_eq, hc, e1, e2]
  obtain ⟨o, h1, h2⟩ := while_out (f := i_CircuitMachine_b0 p c) (fun j (s : List Int × Int × List (List Int) × List (List Int)) => s.2.1 = (j : Int) ∧ j ≤ s.1.length ∧ Names m.Next.length s.1 ∧ s.1[0]? = some 0 ∧ s.2.2.1.length = j ∧ s.2.2.2.length = j ∧ RowsOk m (pw p.In) s.1 s.2.2.1 s.2.2.2) (fun _ => False)
    (fun s => Names m.Next.length s.1 ∧ s.1[0]? = some 0 ∧ s.2.2.1.length = s.1.length ∧ s.2.2.2.length = s.1.length ∧ RowsOk m (pw p.In) s.1 s.2.2.1 s.2.2.2) 48
    (fun j s ⟨k1, k2, k3, k4, k5, k6, k7⟩ => by
      obtain ⟨od, i, nx, ot⟩ := s
      dsimp only at k1 k2 k3 k4 k5 k6 k7 ⊢
      subst k1
      have hlen := k3.len
      unfold i_CircuitMachine_b0
      dsimp only
      by_cases hlt : (j : Int) < (od.length : Int)
      · have hl : od[j]? = some (od[j]'(by omega)) := List.getElem?_eq_getElem (by omega)
        obtain ⟨a0, a1⟩ := k3.2 _ (List.getElem_mem (show j < od.length by omega))
        obtain ⟨a, ha⟩ := ex_nat a0
        rw [ha] at hl a1
        simp only [hlt, decide_true, cond_true, i_inputsOf_eq hs, hw, hrng, Option.bind_some, Int.sub_zero, Int.toNat_natCast]
        obtain ⟨s', q1, q2⟩ := cnt_inv (f := i_CircuitMachine_b2 c (od, (j : Int), nx, ot)) (fun x (s4 : List Int × List Int × List Int) => Names m.Next.length s4.1 ∧ od <+: s4.1 ∧ s4.2.1.length = x ∧ s4.2.2.length = x ∧ ∀ y : Nat, y < x → ∃ k : Nat, s4.2.1[y]? = some (k : Int) ∧ s4.1[k]? = some (tab m.Next a y) ∧ s4.2.2[y]? = some (tab m.Out a y)) w (s := (od, [], []))
          ⟨k3, List.prefix_refl _, rfl, rfl, fun y hy => by omega⟩ (fun x s4 hx ⟨g1, g2, g3, g4, g5⟩ => by
            obtain ⟨od', row, orow⟩ := s4
            dsimp only at g1 g2 g3 g4 g5 ⊢
            have hl' := g1.len
            have hat : idx od' (j : Int) = some (a : Int) := idx_pre g2 (by rw [idx_nat]; exact hl)
            obtain ⟨_, _, _, t0, t1⟩ := tab_in n4 (q := (a : Int)) (i := (x : Int)) (by omega) (by omega) (by omega) (by omega)
            unfold i_CircuitMachine_b2
            dsimp only
            rw [hat, Option.bind_some, hst a x (by omega) (by omega), Option.bind_some]
            dsimp only
            rw [index_place, Option.bind_some, place_lt]
            -- what was said of the rows so far lasts
            have hlast : ∀ (od2 : List Int) (k : Nat), od' <+: od2 → od2[k]? = some (tab m.Next a x) → ∀ y : Nat, y < x + 1 → ∃ k' : Nat, (row ++ [(k : Int)])[y]? = some (k' : Int) ∧ od2[k']? = some (tab m.Next a y) ∧ (orow ++ [tab m.Out a x])[y]? = some (tab m.Out a y) := fun od2 k hpre hk y hy => by
              by_cases hyx : y < x
              · obtain ⟨k', z1, z2, z3⟩ := g5 y hyx
                refine ⟨k', by rw [List.getElem?_append_left (by omega)]; exact z1, ?_, by rw [List.getElem?_append_left (by omega)]; exact z3⟩
                obtain ⟨r, rfl⟩ := hpre
                rw [List.getElem?_append_left (List.getElem?_eq_some_iff.1 z2).1]
                exact z2
              · have : y = x := by omega
                subst this
                refine ⟨k, ?_, hk, ?_⟩
                · rw [List.getElem?_append_right (by omega), g3, Nat.sub_self]; rfl
                · rw [List.getElem?_append_right (by omega), g4, Nat.sub_self]; rfl
            by_cases hu : tab m.Next a x ∈ od'
            · obtain ⟨k, p1, p2, p3⟩ := place_in hu
              simp only [hu, decide_true, Bool.not_true, cond_false, Option.bind_some, p1]
              rw [app1 (by omega) rfl, Option.bind_some, app1 (by omega) rfl]
              exact ⟨_, rfl, g1, g2, by dsimp only; rw [List.length_append, g3]; rfl, by dsimp only; rw [List.length_append, g4]; rfl, hlast od' k (List.prefix_refl _) p3⟩
            · simp only [hu, decide_false, Bool.not_false, cond_true]
              rw [app1 (by omega) rfl, Option.bind_some, Option.bind_some]
              dsimp only
              rw [app1 (by omega) rfl, Option.bind_some, app1 (by omega) rfl]
              have hadd := (g1.add (u := tab m.Next a x) t0 t1).1
              unfold addN at hadd
              rw [if_neg hu] at hadd
              refine ⟨_, rfl, hadd, g2.trans (List.prefix_append ..), by dsimp only; rw [List.length_append, g3]; rfl, by dsimp only; rw [List.length_append, g4]; rfl, hlast (od' ++ [tab m.Next a x]) od'.length (List.prefix_append ..) ?_⟩
              rw [List.getElem?_append_right (Nat.le_refl _), Nat.sub_self]; rfl)
        obtain ⟨od', row, orow⟩ := s'
        obtain ⟨g1, ⟨r, hr⟩, g3, g4, g5⟩ := q2
        dsimp only at g1 hr g3 g4 g5
        rw [q1, Option.bind_some, aft_inr]
        dsimp only
        rw [app1 (by omega) rfl, Option.bind_some, app1 (by omega) rfl, Option.bind_some, wr' (by omega) (by omega)]
        have hpre : ∀ (k : Nat) v, od[k]? = some v → od'[k]? = some v := fun k v hk => by
          rw [← hr, List.getElem?_append_left (List.getElem?_eq_some_iff.1 hk).1]; exact hk
        have hlo : od.length ≤ od'.length := by rw [← hr, List.length_append]; omega
        refine ⟨_, rfl, by omega, by dsimp only; omega, by dsimp only; omega, g1, hpre 0 _ k4, by dsimp only; rw [List.length_append, k5]; rfl, by dsimp only; rw [List.length_append, k6]; rfl, fun r' hr' => ?_⟩
        dsimp only at hr' ⊢
        rw [List.length_append, List.length_singleton] at hr'
        by_cases hrj : r' < nx.length
        · obtain ⟨a', row', orow', z1, z2, z3, z4, z5, z6⟩ := k7 r' hrj
          refine ⟨a', row', orow', hpre _ _ z1, by rw [List.getElem?_append_left hrj]; exact z2, by rw [List.getElem?_append_left (by omega)]; exact z3, z4.trans hw, z5.trans hw, fun x hx => ?_⟩
          obtain ⟨k, y1, y2, y3⟩ := z6 x (by omega)
          exact ⟨k, y1, hpre _ _ y2, y3⟩
        · have : r' = j := by omega
          subst this
          refine ⟨a, row, orow, hpre _ _ hl, by rw [List.getElem?_append_right (by omega), k5, Nat.sub_self]; rfl, by rw [List.getElem?_append_right (by omega), k6, Nat.sub_self]; rfl, by omega, by omega, fun x hx => g5 x (by omega)⟩
      · simp only [hlt, decide_false, cond_false]
        exact ⟨_, rfl, k3, k4, by dsimp only; omega, by dsimp only; omega, k7⟩)
    (2 ^ 64) 0 ([0], 0, [], []) (by omega) ⟨rfl, by simp, ⟨by simp, fun x hx => by rw [List.mem_singleton] at hx; subst hx; omega⟩, rfl, rfl, rfl, fun r hr => by simp at hr⟩ (by omega)
  match o, h2 with
  | .inr s, ⟨g1, g2, g3, g4, g5⟩ =>
    have hlen := g1.len
    have h48 : ¬ 48 < (s.1.length : Int) := by omega
    refine ⟨s.1, ⟨s.2.2.1, s.2.2.2⟩, ?_, g1, g2, g3, g4, g5⟩
    rw [h1, Option.bind_some, aft_inr]
    simp only [h48, decide_false, cond_false]
end
end Go.Proofs.Ythjkonkcdfdfaaa
