/- The reference's attractor, whole. -/
import Derived.Test.YtndiklipffipcaaAttST
set_option linter.unusedVariables false
set_option linter.unusedSimpArgs false
namespace Go.Proofs.Ytndiklipffipcaa
open Go Go.Wk Go.Proofs

/-- the game of the reference -/
def gS (x : l7Game) : Par.Gm := mkG (rowS x) (ownL x.owner) (priL x.prio)
theorem take_one {α : Type} {xs : List α} {j : Nat} {y : α} (h : xs[j]? = some y) : xs.take (j + 1) = xs.take j ++ [y] := by rw [List.take_add_one, h]; rfl
theorem nodup_take {xs : List Int} {j : Nat} {y : Int} (hn : xs.Nodup) (h : xs[j]? = some y) : y ∉ xs.take j := by
  have h2 := hn.sublist (List.take_sublist (j + 1) xs)
  rw [take_one h, List.nodup_append] at h2
  exact fun hm => h2.2.2 y hm y (by simp) rfl
section
variable {x : l7Game} {n : Nat} (wf : WfS x n) {B : List Bool} (hB : B.length = n)
include wf hB
omit wf in
theorem cert_len {p : Bool} {goal : Int → Prop} {Q : List Int} (h : Cert (rowS x) (ownL x.owner) (In B) p goal Q) : Q.length ≤ n := nodup_lenN n Q h.nd fun v hv => In_rng hB (h.mem v hv)
/-- the first marks -/
theorem s_att_init {goal : List Bool} (hG : goal.length = n) {p : Bool} (hN : Par.NoDead (gS x) (In B)) : ∃ Q out left, cntM (s_l7Attract_b0 x B goal) B.length 0 ([], List.replicate n false, List.replicate n 0) = some (.inr (Q, out, left)) ∧
    Cert (rowS x) (ownL x.owner) (In B) p (In goal) Q ∧ (∀ v, In B v → In goal v → v ∈ Q) ∧ Trap (rowS x) (ownL x.owner) (In B) p Q (fun _ y => y ∈ ([] : List Int)) ∧
    (out.length = n ∧ ∀ v : Int, 0 ≤ v → v < n → idx out v = some (decide (v ∈ Q))) ∧ (left.length = n ∧ ∀ w, In B w → w ∉ Q → idx left w = some (lf (rowS x w) (In B) (fun y => y ∈ ([] : List Int)) : Int)) := by
  have hn := wf.n256
  obtain ⟨s, h1, h2⟩ := cnt_inv (f := s_l7Attract_b0 x B goal) (fun j (s : List Int × List Bool × List Int) => s.1.Nodup ∧ (∀ v, v ∈ s.1 ↔ v < (j : Int) ∧ In B v ∧ In goal v) ∧
      (s.2.1.length = n ∧ ∀ v : Int, 0 ≤ v → v < n → idx s.2.1 v = some (decide (v ∈ s.1))) ∧ (s.2.2.length = n ∧ ∀ w : Int, w < (j : Int) → In B w → idx s.2.2 w = some (lf (rowS x w) (In B) (fun _ => False) : Int))) B.length (s := ([], List.replicate n false, List.replicate n 0))
    ⟨by simp, fun v => ⟨fun h => by simp at h, fun ⟨h, hb, _⟩ => by have := (In_rng hB hb).1; omega⟩, ⟨by simp, fun v v0 v1 => by
      rw [idx_int v0, List.getElem?_replicate, if_pos (by omega)]; simp⟩, ⟨by simp, fun w hw hb => by have := (In_rng hB hb).1; omega⟩⟩ (fun j s hj ⟨q1, q2, o, l⟩ => by
    obtain ⟨Q, out, left⟩ := s
    dsimp only at q1 q2 o l
    rw [hB] at hj
    obtain ⟨b, hb⟩ := idx_some (xs := B) (i := (j : Int)) (by omega) (by omega)
    obtain ⟨g, hg⟩ := idx_some (xs := goal) (i := (j : Int)) (by omega) (by omega)
    have hlen : Q.length ≤ n := nodup_lenN n Q q1 fun v hv => In_rng hB ((q2 v).1 hv).2.1
    have hjQ : (j : Int) ∉ Q := fun h => by have := ((q2 _).1 h).1; omega
    have hlf := lf_le (row := rowS x (j : Int)) (inn := In B) (d := fun _ => False)
    have hl16 := (rowS_ok wf (j : Int)).2.1
    obtain ⟨left', hs, hsl⟩ := setI_some (xs := left) (i := (j : Int)) (lf (rowS x (j : Int)) (In B) (fun _ => False) : Int) (by omega) (by omega)
    obtain ⟨out', hso, hsol⟩ := setI_some (xs := out) (i := (j : Int)) true (by omega) (by omega)
    obtain ⟨ol, hol⟩ := idx_some (xs := left) (i := (j : Int)) (by omega) (by omega)
    unfold s_l7Attract_b0
    dsimp only
    simp only [hb, Option.bind_some, hg, andE, s_degree wf hB (show 0 ≤ (j : Int) by omega) (show (j : Int) < n by omega), hs, hso, hol, o.2 (j : Int) (by omega) (by omega), app1 (show Q.length ≤ 10000000000 by omega) (show Nat.ble 8 1024 = true from rfl)]
    have hleft : ∀ (l2 : List Int), l2 = (bif b then left' else left) → (l2.length = n ∧ ∀ w : Int, w < ((j + 1 : Nat) : Int) → In B w → idx l2 w = some (lf (rowS x w) (In B) (fun _ => False) : Int)) := fun l2 e => by
      subst e
      cases b with
      | true =>
        refine ⟨by dsimp only [cond_true]; omega, fun w hw hi => ?_⟩
        dsimp only [cond_true]
        rw [idx_setI hs]
        by_cases e : w = (j : Int)
        · rw [if_pos e, e]
        · rw [if_neg e]; exact l.2 w (by omega) hi
      | false =>
        refine ⟨l.1, fun w hw hi => ?_⟩
        by_cases e : w = (j : Int)
        · subst e; unfold In at hi; rw [hb] at hi; cases hi
        · exact l.2 w (by omega) hi
    have hin : In B (j : Int) ↔ b = true := by unfold In; rw [hb]; simp
    have hig : In goal (j : Int) ↔ g = true := by unfold In; rw [hg]; simp
    cases hbg : (b && g) with
    | true =>
      have hb1 : b = true := by revert hbg; cases b <;> simp
      have hg1 : g = true := by revert hbg; cases b <;> simp
      subst hb1 hg1
      simp only [cond_true, Option.bind_some]
      refine ⟨_, rfl, ?_, ?_, ⟨by dsimp only; omega, ?_⟩, hleft _ rfl⟩
      · dsimp only
        rw [List.nodup_append]
        exact ⟨q1, by simp, fun a ha c hc => by simp at hc; subst hc; exact fun e => hjQ (e ▸ ha)⟩
      · intro v
        dsimp only
        rw [List.mem_append, List.mem_singleton, q2 v]
        constructor
        · rintro (⟨h1, h2, h3⟩ | rfl)
          · exact ⟨by omega, h2, h3⟩
          · exact ⟨by omega, hin.2 rfl, hig.2 rfl⟩
        · rintro ⟨h1, h2, h3⟩
          by_cases e : v = (j : Int)
          · exact .inr e
          · exact .inl ⟨by omega, h2, h3⟩
      · intro v v0 v1
        dsimp only
        rw [idx_setI hso]
        by_cases e : v = (j : Int)
        · subst e; simp
        · rw [if_neg e, o.2 v v0 v1]; simp [e]
    | false =>
      have hq : ∀ v, v ∈ Q ↔ v < ((j + 1 : Nat) : Int) ∧ In B v ∧ In goal v := fun v => by
        rw [q2 v]
        constructor
        · rintro ⟨h1, h2, h3⟩; exact ⟨by omega, h2, h3⟩
        · rintro ⟨h1, h2, h3⟩
          refine ⟨?_, h2, h3⟩
          have : v ≠ (j : Int) := fun e => by
            subst e
            rw [hin.1 h2, hig.1 h3] at hbg
            cases hbg
          omega
      cases b with
      | true =>
        simp only [cond_true, cond_false, Option.bind_some]
        exact ⟨_, rfl, q1, hq, o, hleft _ rfl⟩
      | false =>
        simp only [cond_false, Option.bind_some]
        exact ⟨_, rfl, q1, hq, o, hleft _ rfl⟩)
  obtain ⟨Q, out, left⟩ := s
  obtain ⟨q1, q2, o, l⟩ := h2
  dsimp only at q1 q2 o l
  have hz : ∀ w, lf (rowS x w) (In B) (fun y => y ∈ ([] : List Int)) = lf (rowS x w) (In B) (fun _ => False) := fun w => lf_congr fun y _ _ => by simp
  refine ⟨Q, out, left, h1, ⟨q1, fun v hv => ((q2 v).1 hv).2.1, fun k v hk => .inl ((q2 v).1 (List.mem_of_getElem? hk)).2.2⟩, fun v hb hg => (q2 v).2 ⟨by have := In_rng hB hb; omega, hb, hg⟩, fun v hv hq => ⟨fun _ y _ _ h => by simp at h, fun ho => ?_⟩, o, l.1, fun w hw hq => ?_⟩
  · obtain ⟨u, e1, e2⟩ := hN v hv
    exact ⟨u, e1, e2, by simp⟩
  · rw [hz]; exact l.2 w (by have := In_rng hB hw; omega) hw
/-- the reference's attractor is one -/
theorem s_attr {goal : List Bool} (hG : goal.length = n) (p : Bool) (hN : Par.NoDead (gS x) (In B)) : ∃ A, s_l7Attract x B (b2i p) goal = some A ∧ A.length = n ∧ Par.IsAttr (gS x) (In B) p (In goal) (In A) := by
  have hn := wf.n256
  obtain ⟨Q0, out0, left0, i1, i2, i3, i4, i5, i6⟩ := s_att_init wf hB hG (p := p) hN
  unfold s_l7Attract
  rw [hB, mkS_nat (by omega) rfl, Option.bind_some, mkS_nat (by omega) rfl, Option.bind_some]
  rw [hB] at i1
  rw [i1, Option.bind_some, aft_inr]
  dsimp only
  obtain ⟨o, w1, w2⟩ := while_out (f := s_l7Attract_b2 x B (b2i p)) (fun j (s : List Int × Int × List Bool × List Int) => s.2.1 = (j : Int) ∧ j ≤ s.1.length ∧ Cert (rowS x) (ownL x.owner) (In B) p (In goal) s.1 ∧ (∀ v, In B v → In goal v → v ∈ s.1) ∧ Trap (rowS x) (ownL x.owner) (In B) p s.1 (fun _ y => y ∈ s.1.take j) ∧
      (s.2.2.1.length = n ∧ ∀ v : Int, 0 ≤ v → v < n → idx s.2.2.1 v = some (decide (v ∈ s.1))) ∧ (s.2.2.2.length = n ∧ ∀ w, In B w → w ∉ s.1 → idx s.2.2.2 w = some (lf (rowS x w) (In B) (fun y => y ∈ s.1.take j) : Int))) (fun _ => False)
      (fun s => ∃ Q, Cert (rowS x) (ownL x.owner) (In B) p (In goal) Q ∧ (∀ v, In B v → In goal v → v ∈ Q) ∧ Trap (rowS x) (ownL x.owner) (In B) p Q (fun _ y => y ∈ Q) ∧ (s.2.2.1.length = n ∧ ∀ v : Int, 0 ≤ v → v < n → idx s.2.2.1 v = some (decide (v ∈ Q)))) n (fun j s ⟨a1, a2, a3, a4, a5, a6, a7⟩ => by
    obtain ⟨Q, i, out, left⟩ := s
    dsimp only at a1 a2 a3 a4 a5 a6 a7
    subst a1
    have hQn := cert_len hB a3
    unfold s_l7Attract_b2
    dsimp only
    by_cases hlt : (j : Int) < (Q.length : Int)
    · have hjl : j < Q.length := by omega
      have hu : Q[j]? = some Q[j] := List.getElem?_eq_getElem hjl
      have hQe : Q = Q.take j ++ Q[j] :: Q.drop (j + 1) := by rw [← List.drop_eq_getElem_cons hjl, List.take_append_drop]
      generalize Q[j] = u at hu hQe
      obtain ⟨u0, u1⟩ := In_rng hB (a3.mem u (List.mem_of_getElem? hu))
      obtain ⟨P, hP⟩ := idx_some (xs := x.prev) u0 (by rw [wf.lv]; exact u1)
      obtain ⟨p1, p2, p3⟩ := wf.prev u P hP
      simp only [hlt, decide_true, cond_true, idx_nat, hu, Option.bind_some]
      have hm0 : Mid (rowS x) (ownL x.owner) (In B) p (In goal) (Q.take j) u [] Q := by
        have := Mid.first (T := Q.take j) (u := u) (R := Q.drop (j + 1)) (hQe ▸ a3) (hQe ▸ a5)
        rwa [← hQe] at this
      obtain ⟨oi, v1, v2⟩ := while_out (f := s_l7Attract_b4 x B (b2i p) u) (fun k (s : List Int × Int × List Bool × List Int) => s.2.1 = (k : Int) ∧ k ≤ P.length ∧ Mid (rowS x) (ownL x.owner) (In B) p (In goal) (Q.take j) u (P.take k) s.1 ∧
          (s.2.2.1.length = n ∧ ∀ v : Int, 0 ≤ v → v < n → idx s.2.2.1 v = some (decide (v ∈ s.1))) ∧ (s.2.2.2.length = n ∧ ∀ w, In B w → w ∉ s.1 → idx s.2.2.2 w = some (lf (rowS x w) (In B) (dn (Q.take j) u (P.take k) w) : Int)) ∧ (∀ v ∈ Q, v ∈ s.1)) (fun _ => False)
          (fun s => Mid (rowS x) (ownL x.owner) (In B) p (In goal) (Q.take j) u P s.1 ∧ (s.2.2.1.length = n ∧ ∀ v : Int, 0 ≤ v → v < n → idx s.2.2.1 v = some (decide (v ∈ s.1))) ∧ (s.2.2.2.length = n ∧ ∀ w, In B w → w ∉ s.1 → idx s.2.2.2 w = some (lf (rowS x w) (In B) (dn (Q.take j) u P w) : Int)) ∧ (∀ v ∈ Q, v ∈ s.1)) P.length (fun k s ⟨b1, b2, b3, b4, b5, b6⟩ => by
        obtain ⟨Q', i', out', left'⟩ := s
        dsimp only at b1 b2 b3 b4 b5 b6
        subst b1
        by_cases hk : k < P.length
        · have hv : P[k]? = some P[k] := List.getElem?_eq_getElem hk
          generalize P[k] = v at hv
          have hQ'n := cert_len hB b3.cert
          obtain ⟨Q2, o2, l2, c1, c2, c3, c4, c5⟩ := s_prev_step wf hB b3 (nodup_take p1 hv) hP hv (by omega) b4 b5
          refine ⟨_, c1, by omega, rfl, by omega, ?_, c3, ?_, fun v hv => c5 v (b6 v hv)⟩
          · rw [take_one hv]; exact c2
          · rw [take_one hv]; exact c4
        · unfold s_l7Attract_b4
          rw [hP, Option.bind_some]
          have : ¬ (k : Int) < (P.length : Int) := by omega
          dsimp only
          simp only [this, decide_false, cond_false]
          have e : P.take k = P := List.take_of_length_le (by omega)
          rw [e] at b3 b5
          exact ⟨_, rfl, b3, b4, b5, b6⟩) (2 ^ 64) 0 (Q, 0, out, left) (by omega) ⟨rfl, by omega, by simpa using hm0, a6, ⟨a7.1, fun w hw hq => by
            rw [a7.2 w hw hq]
            congr 2
            exact lf_congr fun y _ _ => (dn_self0 (by simp)).symm⟩, fun _ h => h⟩ (by omega)
      match oi, v2 with
      | .inr s, ⟨c1, c2, c3, c4⟩ =>
        obtain ⟨Q', i', out', left'⟩ := s
        dsimp only at c1 c2 c3 c4
        have hwr : IntKind.i64.wrap ((j : Int) + 1) = ((j + 1 : Nat) : Int) := by rw [wr' (by omega) (by omega)]; omega
        rw [v1, Option.bind_some, aft_inr, hwr]
        have htk : Q'.take (j + 1) = Q.take j ++ [u] := by
          obtain ⟨R, e⟩ := c1.hu
          have hjl : (Q.take j).length = j := by rw [List.length_take]; omega
          rw [e, show Q.take j ++ u :: R = (Q.take j ++ [u]) ++ R from by simp, List.take_append_of_le_length (by rw [List.length_append, hjl]; simp), List.take_of_length_le (by rw [List.length_append, hjl]; simp)]
        have hlen : j + 1 ≤ Q'.length := by
          obtain ⟨R, e⟩ := c1.hu
          have hjl : (Q.take j).length = j := by rw [List.length_take]; omega
          rw [e, List.length_append, hjl, List.length_cons]; omega
        have hall : ∀ v, In B v → u ∈ rowS x v → v ∈ P := fun v hv hu => by
          rw [p3]
          unfold rowS at hu
          cases hr : idx x.next v with
          | none => rw [hr] at hu; simp at hu
          | some r =>
            cases hk : idx x.pick v with
            | none => rw [hr, hk] at hu; simp at hu
            | some k => rw [hr, hk] at hu; exact ⟨r, rfl, (List.mem_filter.1 hu).1⟩
        have hjn : j < n := by omega
        refine ⟨_, rfl, hjn, rfl, hlen, c1.cert, fun v hb hg => c4 v (a4 v hb hg), ?_, c2, c3.1, fun w hw hq => ?_⟩
        · dsimp only
          rw [htk]; exact c1.last hall
        · dsimp only
          dsimp only at hq
          rw [c3.2 w hw hq, htk]
          congr 2
          exact lf_congr fun y hy _ => by
            unfold dn
            rw [List.mem_append, List.mem_singleton]
            constructor
            · rintro (h | ⟨h, _⟩)
              · exact .inl h
              · exact .inr h
            · rintro (h | h)
              · exact .inl h
              · exact .inr ⟨h, hall w hw (h ▸ hy)⟩
    · simp only [hlt, decide_false, cond_false]
      rw [List.take_of_length_le (by omega)] at a5
      exact ⟨_, rfl, Q, a3, a4, a5, a6⟩) (2 ^ 64) 0 (Q0, 0, out0, left0) (by omega) ⟨rfl, by omega, i2, i3, by simpa using i4, i5, by simpa using i6⟩ (by omega)
  match o, w2 with
  | .inr s, ⟨Q, k1, k2, k3, k4⟩ =>
    rw [w1, Option.bind_some, aft_inr]
    refine ⟨_, rfl, k4.1, ?_⟩
    have ha := k1.attr (pri := priL x.prio) k2 k3
    have e : (fun v => v ∈ Q) = In s.2.2.1 := by
      funext v
      apply propext
      constructor
      · intro hv
        obtain ⟨v0, v1⟩ := In_rng hB (k1.mem v hv)
        unfold In; rw [k4.2 v v0 v1]; simp [hv]
      · intro hv
        have hr := idx_rng hv
        unfold In at hv
        rw [k4.2 v hr.1 (by omega)] at hv
        simpa using hv
    rw [← e]; exact ha
end
end Go.Proofs.Ytndiklipffipcaa
