/- The product of clauses: both sides compute the same. -/
import Derived.Test.YtcmamhmpoinmnaaGreatL0BR
import Derived.Test.YtcmamhmpoinmnaaGreatLawBR
set_option linter.unusedVariables false
set_option linter.unusedSimpArgs false
namespace Go.Proofs.YtcmamhmpoinmnaaGreat
open Go Go.Wk Go.Proofs
def oneD (n : Nat) : Det := ⟨[List.replicate n 0], []⟩
inductive PR (n : Nat) : List Clause → Det → Prop
 | nil : PR n [] (oneD n)
 | snoc {cs c D K R} (h : PR n cs D) (k : JK D (monD c n) n K R) : PR n (cs ++ [c]) (jD D (monD c n) K R)
theorem mon_le (c : Clause) (n : Nat) : (monD c n).Next.length ≤ 4 := by
 show ((numsN _).map _).length ≤ 4
 rw [List.length_map, numsN_len]
 unfold monStates
 (repeat' split) <;> omega
theorem PR.size {n : Nat} {cs : List Clause} {D : Det} (h : PR n cs D) : D.Next.length ≤ 4 ^ cs.length := by
 induction h with
 | nil => exact Nat.le_refl _
 | @snoc cs c D K R hp k ih =>
  show R.length ≤ _
  rw [k.prod.rl, List.length_append]
  exact Nat.le_trans (keys_len k.prod.nod k.kin) (by show _ ≤ 4 ^ (cs.length + 1); rw [Nat.pow_succ]; exact Nat.mul_le_mul ih (mon_le c n))
def clausesOk (p : Sig) (cs : List Clause) : Bool := decide ((cs.length : Int) ≤ 3) && cs.all (clauseOk p)
theorem oneD_ok {p : Sig} (hs : sigOk p = true) {n : Nat} (hn : ltd p = n) : detOk p (oneD n) = true := by
 have h := ltr_in hs
 unfold ltr at h
 unfold ltd at hn
 unfold detOk oneD
 have e : ([List.replicate n (0 : Int)].all (detRow p ((1 : Nat) : Int))) = true := by
  rw [List.all_eq_true]
  intro row hrow
  rw [List.mem_singleton] at hrow
  subst hrow
  unfold detRow ltd
  rw [List.length_replicate, Bool.and_eq_true, beq_iff_eq, List.all_eq_true]
  refine ⟨hn.symm, fun x hx => ?_⟩
  rw [(List.mem_replicate.1 hx).2]
  exact inR_iff.2 ⟨Int.le_refl _, by omega⟩
 show (decide ((1 : Int) ≤ ((1 : Nat) : Int)) && decide (((1 : Nat) : Int) ≤ 48) && pairsOk [] ((1 : Nat) : Int) && ([List.replicate n (0 : Int)].all (detRow p ((1 : Nat) : Int)))) = true
 rw [e]; rfl
theorem Product_same (p : Sig) {cs : List Clause} (hb : ∀ c ∈ cs, Clause.bd c) : (s_ProductOf p cs = some (zeroD, false) ∧ i_ProductOf p cs = some (zeroD, false) ∧ (sigOk p = true → clausesOk p cs = true → 2 < cs.length)) ∨
 (sigOk p = true ∧ clausesOk p cs = true ∧ ∃ n D, ltd p = ((n : Nat) : Int) ∧ n ≤ 16 ∧ PR n cs D ∧ detOk p D = true ∧ D.Pairs.length = cs.length ∧ s_ProductOf p cs = some (D, true) ∧ i_ProductOf p cs = some (D, true)) := by
 unfold s_ProductOf i_ProductOf
 rw [i_isSig_eq]
 cases hs : sigOk p with
 | false =>
  left
  have : s_ClausesOk p cs = some false := by
   unfold s_ClausesOk
   rw [s_SigOk_eq, hs]; rfl
  rw [this]
  exact ⟨rfl, rfl, fun h => by cases h⟩
 | true =>
  rw [s_ClausesOk_eq hs hb, Option.bind_some, Option.bind_some, Bool.not_true, cond_false, i_areClauses_eq hs hb, Option.bind_some, Option.bind_some]
  show _ ∨ (_ ∧ clausesOk p cs = true ∧ _)
  have hc' : (decide ((cs.length : Int) ≤ 3) && cs.all (clauseOk p)) = clausesOk p cs := rfl
  rw [hc']
  cases hc : clausesOk p cs with
  | false => exact .inl ⟨rfl, rfl, fun _ h => by cases h⟩
  | true =>
   have hcc := hc
   unfold clausesOk at hcc
   rw [Bool.and_eq_true, decide_eq_true_eq, List.all_eq_true] at hcc
   obtain ⟨l1, l2⟩ := ltr_in hs
   obtain ⟨n, hn⟩ := ex_nat (z := ltr p) (by omega)
   have hn' : ltd p = (n : Int) := hn
   have hmk : mkS 8 (n : Int) (0 : Int) = some (List.replicate n 0) := mkS_nat (by omega) rfl
   have hone := oneD_ok hs hn'
   rw [Bool.not_true, cond_false, cond_false, s_LettersOf_eq hs, i_lettersOf_eq hs, hn, Option.bind_some, Option.bind_some, hmk, Option.bind_some, Option.bind_some]
   obtain ⟨o, t, w1, w2, w3⟩ := cnt_sim2 (f := s_ProductOf_b0 p cs) (g := i_ProductOf_b0 p cs) (fun j s t => s = t ∧ PR n (cs.take j) ⟨s.1, s.2⟩ ∧ detOk p ⟨s.1, s.2⟩ = true ∧ s.2.length = j) (fun r r' => r = (zeroD, false) ∧ r' = (zeroD, false) ∧ 2 < cs.length) (fun _ _ => False) cs.length (fun j s t hj ⟨e, hP, hd, hl⟩ => by
    subst e
    have hcj : cs[j]? = some cs[j] := List.getElem?_eq_getElem hj
    generalize cs[j] = c at hcj
    have hcm := List.mem_of_getElem? hcj
    obtain ⟨q1, q2⟩ := monD_ok (hcc.2 c hcm) hn
    have hsum : (⟨s.1, s.2⟩ : Det).Pairs.length + (monD c n).Pairs.length ≤ 4 := by
     rw [q2]
     show s.2.length + 1 ≤ 4
     omega
    unfold s_ProductOf_b0 i_ProductOf_b0
    rw [idx_nat, hcj, Option.bind_some, Option.bind_some, s_monitor hs (hb c hcm) (hcc.2 c hcm) hn, i_monitor hs (hcc.2 c hcm) hn, Option.bind_some, Option.bind_some]
    have hJ : s_JoinedDet p ⟨s.1, s.2⟩ (monD c n) = s_l26Joined ⟨s.1, s.2⟩ (monD c n) (n : Int) := by
     have hb1 : ∀ D : Det, detOk p D = true → ∀ x ∈ D.Pairs, x.Ask.length ≤ 1000000000 ∧ x.Give.length ≤ 1000000000 := fun D hD x hx => by
      obtain ⟨d1, d2, _, _⟩ := detOk_spec hD
      unfold detOk at hD
      simp only [Bool.and_eq_true] at hD
      have hp := hD.1.2
      unfold pairsOk at hp
      rw [Bool.and_eq_true, List.all_eq_true] at hp
      have := hp.2 x hx
      unfold pairOk at this
      rw [Bool.and_eq_true] at this
      have a1 := (St.of this.1).len
      have a2 := (St.of this.2).len
      omega
     unfold s_JoinedDet
     rw [s_DetOk_eqD hs (hb1 _ hd), hd, Option.bind_some, Bool.not_true, cond_false, s_DetOk_eqD hs (hb1 _ q1), q1, Option.bind_some, Bool.not_true, Option.bind_some, cond_false, wr' (by omega) (by omega), decide_eq_false (by omega), Option.bind_some, cond_false, s_LettersOf_eq hs, hn, Option.bind_some]
     cases s_l26Joined ⟨s.1, s.2⟩ (monD c n) (n : Int) <;> rfl
    rw [hJ]
    rcases joined_same hs hd q1 hsum hn' with ⟨j1, j2, j3⟩ | ⟨K, R, hK, j1, j2⟩
    · rw [j1, j2]
      refine ⟨_, _, rfl, rfl, rfl, rfl, ?_⟩
      have z1 := hP.size
      have z2 : (monD c n).Next.length ≤ 4 := mon_le c n
      rw [List.length_take, Nat.min_eq_left (by omega)] at z1
      by_cases hj2 : j < 2
      · exfalso
        have z3 : 4 ^ j ≤ 4 ^ 1 := Nat.pow_le_pow_right (by omega) (by omega)
        have z4 : (⟨s.1, s.2⟩ : Det).Next.length * (monD c n).Next.length ≤ 4 * 4 := Nat.mul_le_mul (by omega) z2
        omega
      · omega
    · rw [j1, j2]
      refine ⟨_, _, rfl, rfl, rfl, ?_, jD_ok hsum hn' hK, ?_⟩
      · rw [List.take_add_one, hcj]
        exact PR.snoc hP hK
      · show ((s.2.map _ ++ (monD c n).Pairs.map _).length) = _
        rw [List.length_append, List.length_map, List.length_map, hl, q2]) cs.length 0 ([List.replicate n 0], []) ([List.replicate n 0], []) (by omega) ⟨rfl, PR.nil, hone, rfl⟩
   have w1' : cntM (s_ProductOf_b0 p cs) cs.length 0 ([List.replicate n 0], []) = some o := w1
   have w2' : cntM (i_ProductOf_b0 p cs) cs.length 0 ([List.replicate n 0], []) = some t := w2
   rw [w1', w2', Option.bind_some, Option.bind_some]
   match o, t, w3 with
   | .inl r, .inl r', w3 =>
    left
    rw [w3.1, w3.2.1]
    exact ⟨rfl, rfl, fun _ _ => w3.2.2⟩
   | .inr s, .inr t, .inl ⟨e, hP, hd, hl⟩ =>
    right
    subst e
    rw [List.take_length] at hP
    exact ⟨rfl, rfl, n, ⟨s.1, s.2⟩, hn', by omega, hP, hd, hl, rfl, rfl⟩
end Go.Proofs.YtcmamhmpoinmnaaGreat
set_option linter.unusedVariables false
set_option linter.unusedSimpArgs false
namespace Go.Proofs.YtcmamhmpoinmnaaGreat
open Go Go.Wk Go.Proofs
theorem find_eq {x : l30Graph} {K : List Key} (h1 : x.of = K.map (·.1)) (h2 : x.by0 = K.map (·.2)) (hl : K.length ≤ 100000) (p q : Int) :
 s_l30Find x p q = some (atK K (p, q), (addK K (p, q)).map (·.1), (addK K (p, q)).map (·.2)) := by
 have hlen : x.of.length = K.length := by rw [h1, List.length_map]
 unfold s_l30Find
 rw [hlen, cnt_find0 (f := s_l30Find_b0 x p q) (fun k => ((p, q) : Key) == k) (fun i => ((i : Int), x.of, x.by0)) (xs := K) (fun i k hk => by
  unfold s_l30Find_b0
  rw [idx_nat, idx_nat, show x.of[i]? = some k.1 from by rw [h1, List.getElem?_map, hk]; rfl, show x.by0[i]? = some k.2 from by rw [h2, List.getElem?_map, hk]; rfl]
  simp only [Option.bind_some]
  have : (((p, q) : Key) == k) = ((k.1 == p) && (k.2 == q)) := by
   obtain ⟨a, b⟩ := k
   rw [Bool.eq_iff_iff, beq_iff_eq, Bool.and_eq_true, beq_iff_eq, beq_iff_eq, Prod.mk.injEq]
   exact ⟨fun h => ⟨h.1.symm, h.2.symm⟩, fun h => ⟨h.1.symm, h.2.symm⟩⟩
  rw [this]
  cases k.1 == p <;> cases k.2 == q <;> rfl)]
 unfold atK addK loc
 rw [Option.bind_some]
 cases K.findIdx? (fun k => ((p, q) : Key) == k) with
 | some i => simp [aft, h1, h2]
 | none =>
  have l2 : x.by0.length = K.length := by rw [h2, List.length_map]
  simp only [aft_inr]
  rw [app1 (by omega) rfl, Option.bind_some, app1 (by omega) rfl, Option.bind_some, h1, h2]
  simp only [List.length_append, List.length_map, List.length_cons, List.length_nil, List.map_append, List.map_cons, List.map_nil]
  rw [wr' (by omega) (by omega)]
  congr 2
  omega
def nums (n : Nat) : List Int := (List.range n).map (fun i : Nat => (i : Int))
theorem nums_succ (n : Nat) : nums (n + 1) = nums n ++ [(n : Int)] := by simp [nums, List.range_succ]
def keyW (m : Machine) (d : Det) (ins q r j : Int) : Key := (tab m.Next q j, tab d.Next r (tab m.Out q j * ins + j))
abbrev St3 := List Key × List Int × List Int
def stepW (m : Machine) (d : Det) (ins q r : Int) (s : St3) (j : Int) : St3 := (addK s.1 (keyW m d ins q r j), s.2.1 ++ [atK s.1 (keyW m d ins q r j)], s.2.2 ++ [tab m.Out q j * ins + j])
def rowW (m : Machine) (d : Det) (ins q r : Int) (K : List Key) (j : Nat) : St3 := (nums j).foldl (stepW m d ins q r) (K, [], [])
theorem rowW_succ (m : Machine) (d : Det) (ins q r : Int) (K : List Key) (j : Nat) : rowW m d ins q r K (j + 1) = stepW m d ins q r (rowW m d ins q r K j) j := by
 unfold rowW
 rw [nums_succ, List.foldl_append]; rfl
def Kin (a b : Int) (K : List Key) : Prop := ∀ k ∈ K, 0 ≤ k.1 ∧ k.1 < a ∧ 0 ≤ k.2 ∧ k.2 < b
section
variable {p : Sig} {m : Machine} {d : Det} (hm : machOk p m = true) (hd : detOk p d = true)
include hm hd
theorem keyW_in {q r j : Int} (q0 : 0 ≤ q) (q1 : q < m.Next.length) (r0 : 0 ≤ r) (r1 : r < d.Next.length) (j0 : 0 ≤ j) (j1 : j < pw p.In) :
 ∃ a b c, idx m.Next q = some a ∧ idx a j = some (keyW m d (pw p.In) q r j).1 ∧ idx m.Out q = some b ∧ idx b j = some (tab m.Out q j) ∧ idx d.Next r = some c ∧ idx c (tab m.Out q j * pw p.In + j) = some (keyW m d (pw p.In) q r j).2 ∧
  0 ≤ tab m.Out q j ∧ tab m.Out q j < 4 ∧ 0 ≤ (keyW m d (pw p.In) q r j).1 ∧ (keyW m d (pw p.In) q r j).1 < m.Next.length ∧ 0 ≤ (keyW m d (pw p.In) q r j).2 ∧ (keyW m d (pw p.In) q r j).2 < d.Next.length := by
 obtain ⟨_, _, hlen, n1, n2⟩ := machOk_spec hm
 obtain ⟨_, _, _, n3⟩ := detOk_spec hd
 obtain ⟨a, a1, a2, a3, a4⟩ := tab_in n1 q0 q1 j0 j1
 obtain ⟨b, b1, b2, b3, b4⟩ := tab_in n2 q0 (by omega) j0 j1
 have pO := pw_le p.Out
 have hlt : tab m.Out q j * pw p.In + j < ltd p := by
  unfold ltd
  have hp : pw p.In = 2 ∨ pw p.In = 4 := by unfold pw; split <;> simp
  rcases hp with hp | hp <;> rw [hp] at j1 ⊢ <;> omega
 have h0 : 0 ≤ tab m.Out q j * pw p.In + j := by
  have hp : pw p.In = 2 ∨ pw p.In = 4 := by unfold pw; split <;> simp
  rcases hp with hp | hp <;> rw [hp] <;> omega
 obtain ⟨c, c1, c2, c3, c4⟩ := tab_in n3 r0 r1 h0 hlt
 exact ⟨a, b, c, a1, a2, b1, b2, c1, c2, b3, by omega, a3, a4, c3, c4⟩
theorem rowW_in {q r : Int} (q0 : 0 ≤ q) (q1 : q < m.Next.length) (r0 : 0 ≤ r) (r1 : r < d.Next.length) {K : List Key} (hK : Kin m.Next.length d.Next.length K) : ∀ (j : Nat), (j : Int) ≤ pw p.In →
 Kin m.Next.length d.Next.length (rowW m d (pw p.In) q r K j).1 ∧ K.length ≤ (rowW m d (pw p.In) q r K j).1.length ∧ (rowW m d (pw p.In) q r K j).1.length ≤ K.length + j ∧ (rowW m d (pw p.In) q r K j).2.1.length = j ∧ (rowW m d (pw p.In) q r K j).2.2.length = j ∧
  (∀ (i : Nat) v, K[i]? = some v → (rowW m d (pw p.In) q r K j).1[i]? = some v)
 | 0, _ => ⟨hK, Nat.le_refl _, by simp [rowW, nums], rfl, rfl, fun _ _ h => h⟩
 | j + 1, hj => by
  obtain ⟨h1, h2, h3, h4, h5, h6⟩ := rowW_in q0 q1 r0 r1 hK j (by omega)
  obtain ⟨_, _, _, _, _, _, _, _, _, _, _, k1, k2, k3, k4⟩ := keyW_in hm hd q0 q1 r0 r1 (j := (j : Int)) (by omega) (by omega)
  rw [rowW_succ]
  generalize rowW m d (pw p.In) q r K j = F at *
  have hl := addK_len F.1 (keyW m d (pw p.In) q r j)
  refine ⟨fun k hk => ?_, ?_, ?_, ?_, ?_, fun i v hv => addK_get (h6 i v hv)⟩
  · rcases addK_mem hk with hk | rfl
    · exact h1 k hk
    · exact ⟨k1, k2, k3, k4⟩
  · show K.length ≤ (addK F.1 _).length
    omega
  · show (addK F.1 _).length ≤ _
    omega
  · show (F.2.1 ++ [_]).length = _
    simp [h4]
  · show (F.2.2 ++ [_]).length = _
    simp [h5]
end
end Go.Proofs.YtcmamhmpoinmnaaGreat
set_option linter.unusedVariables false
set_option linter.unusedSimpArgs false
namespace Go.Proofs.YtcmamhmpoinmnaaGreat
open Go Go.Wk Go.Proofs
abbrev WT := List Key × Int × List (List Int) × List (List Int) × List (Key × Int)
abbrev WS := Int × List Int × List Int × List (List Int) × List (List Int)
def toS (t : WT) : WS := (t.2.1, t.1.map (·.1), t.1.map (·.2), t.2.2.1, t.2.2.2.1)
def InvW (m : Machine) (d : Det) (k : Nat) (t : WT) : Prop := Kin m.Next.length d.Next.length t.1 ∧ 0 ≤ t.2.1 ∧ t.2.1 ≤ t.1.length ∧ (t.2.2.1.length : Int) = t.2.1 ∧ (t.2.2.2.1.length : Int) = t.2.1 ∧ (∀ r ∈ t.2.2.1, r.length = k) ∧ t.2.2.2.2 = ixm 0 t.1 ∧ t.1.length ≤ 256
section
variable {p : Sig} {m : Machine} {d : Det} (hs : sigOk p = true) (hm : machOk p m = true) (hd : detOk p d = true) {k : Nat} (hk : pw p.In = (k : Int))
include hs hm hd hk
theorem i_rowW {q r : Int} (q0 : 0 ≤ q) (q1 : q < m.Next.length) (r0 : 0 ≤ r) (r1 : r < d.Next.length) {K : List Key} (hK : Kin m.Next.length d.Next.length K) (hl : K.length ≤ 1000) {x42 x47 : Key} (e1 : x42.1 = q) (e2 : x47.2 = r) {row : List Int} (e3 : idx m.Next q = some row) :
 cntM (i_watchOf_b2 p m d x42 x47 row) k 0 (K, [], [], ixm 0 K) = some (.inr ((rowW m d (pw p.In) q r K k).1, (rowW m d (pw p.In) q r K k).2.1, (rowW m d (pw p.In) q r K k).2.2, ixm 0 (rowW m d (pw p.In) q r K k).1)) := by
 obtain ⟨m1, m2, m3, m4, m5⟩ := machOk_spec hm
 obtain ⟨d1, d2, _, _⟩ := detOk_spec hd
 obtain ⟨s', h1, h2⟩ := cnt_inv (f := i_watchOf_b2 p m d x42 x47 row) (fun j s => s = ((rowW m d (pw p.In) q r K j).1, (rowW m d (pw p.In) q r K j).2.1, (rowW m d (pw p.In) q r K j).2.2, ixm 0 (rowW m d (pw p.In) q r K j).1)) k (s := (K, [], [], ixm 0 K)) rfl (fun j s hj hI => by
  subst hI
  obtain ⟨g1, g2, g3, g4, g5, g6⟩ := rowW_in hm hd q0 q1 r0 r1 hK j (by omega)
  obtain ⟨a, b, c, k1, k2, k3, k4, k5, k6, k7, k8, k9, k10, k11, k12⟩ := keyW_in hm hd q0 q1 r0 r1 (j := (j : Int)) (by omega) (by omega)
  rw [e3] at k1
  cases k1
  refine ⟨_, ?_, rfl⟩
  rw [rowW_succ]
  have hpw := pw_le p.In
  have hlt : 0 ≤ tab m.Out q j * pw p.In ∧ tab m.Out q j * pw p.In ≤ 16 := by
   have hp : pw p.In = 2 ∨ pw p.In = 4 := by unfold pw; split <;> simp
   rcases hp with hp | hp <;> rw [hp] <;> omega
  unfold i_watchOf_b2
  rw [e1, e2, k2, Option.bind_some, k3, Option.bind_some, k4, Option.bind_some, i_inputsOf_eq hs, Option.bind_some, k5, Option.bind_some, wr' (z := tab m.Out q j * pw p.In) (by omega) (by omega), wr' (by omega) (by omega), k6, Option.bind_some]
  have hw : kwI2 (keyW m d (pw p.In) q r j) = true := kw_in k9 (by omega) k11 (by omega)
  unfold stepW
  generalize rowW m d (pw p.In) q r K j = F at *
  generalize keyW m d (pw p.In) q r j = u at *
  dsimp only
  rw [show ((u.1, u.2) : Key) = u from rfl, mget_ixm F.1 hw, Option.bind_some]
  unfold addK atK
  cases hloc : loc F.1 u with
  | some i =>
   simp only [Bool.not_true, cond_false, Option.bind_some]
   rw [app1 (by omega) rfl, Option.bind_some, app1 (by omega) rfl]
   rfl
  | none =>
   simp only [Bool.not_false, cond_true]
   rw [mset_ixm hw hloc, Option.bind_some, app1 (by omega) rfl, Option.bind_some, Option.bind_some]
   dsimp only
   rw [app1 (by omega) rfl, Option.bind_some, app1 (by omega) rfl]
   rfl)
 rw [h1, h2]
theorem s_rowW {q r : Int} (q0 : 0 ≤ q) (q1 : q < m.Next.length) (r0 : 0 ≤ r) (r1 : r < d.Next.length) {K : List Key} (hK : Kin m.Next.length d.Next.length K) (hl : K.length ≤ 1000) {s1 : WS} {i : Nat} (hi : s1.1 = (i : Int)) (hq : K[i]? = some (q, r)) :
 ∃ z, whileM (s_l30Watch_b2 p m d s1) (2 ^ 64) ([], [], 0, K.map (·.1), K.map (·.2)) = some (.inr ((rowW m d (pw p.In) q r K k).2.1, (rowW m d (pw p.In) q r K k).2.2, z, (rowW m d (pw p.In) q r K k).1.map (·.1), (rowW m d (pw p.In) q r K k).1.map (·.2))) := by
 obtain ⟨m1, m2, m3, m4, m5⟩ := machOk_spec hm
 obtain ⟨d1, d2, _, _⟩ := detOk_spec hd
 have hpw := pw_le p.In
 obtain ⟨hsi, _⟩ := sigOk_in hs
 obtain ⟨o, h1, h2⟩ := while_out (f := s_l30Watch_b2 p m d s1) (fun j s => s = ((rowW m d (pw p.In) q r K j).2.1, (rowW m d (pw p.In) q r K j).2.2, (j : Int), (rowW m d (pw p.In) q r K j).1.map (·.1), (rowW m d (pw p.In) q r K j).1.map (·.2)) ∧ j ≤ k)
  (fun _ => False) (fun s => s = ((rowW m d (pw p.In) q r K k).2.1, (rowW m d (pw p.In) q r K k).2.2, (k : Int), (rowW m d (pw p.In) q r K k).1.map (·.1), (rowW m d (pw p.In) q r K k).1.map (·.2))) k (fun j s ⟨hI, hj⟩ => by
  subst hI
  unfold s_l30Watch_b2 s_l29Ins
  rw [s_l23Power_eq hsi, Option.bind_some, Option.bind_some]
  by_cases hlt : (j : Int) < pw p.In
  · obtain ⟨g1, g2, g3, g4, g5, g6⟩ := rowW_in hm hd q0 q1 r0 r1 hK j (by omega)
    obtain ⟨a, b, c, k1, k2, k3, k4, k5, k6, k7, k8, k9, k10, k11, k12⟩ := keyW_in hm hd q0 q1 r0 r1 (j := (j : Int)) (by omega) (by omega)
    have hlt2 : 0 ≤ tab m.Out q j * pw p.In ∧ tab m.Out q j * pw p.In ≤ 16 := by
     have hp : pw p.In = 2 ∨ pw p.In = 4 := by unfold pw; split <;> simp
     rcases hp with hp | hp <;> rw [hp] <;> omega
    have hr := rowW_succ m d (pw p.In) q r K j
    have hqj := g6 i _ hq
    refine ⟨.inr (.inr ((rowW m d (pw p.In) q r K (j + 1)).2.1, (rowW m d (pw p.In) q r K (j + 1)).2.2, ((j + 1 : Nat) : Int), (rowW m d (pw p.In) q r K (j + 1)).1.map (·.1), (rowW m d (pw p.In) q r K (j + 1)).1.map (·.2))), ?_, by omega, rfl, by omega⟩
    rw [hr]
    unfold stepW
    generalize rowW m d (pw p.In) q r K j = F at *
    generalize hu : keyW m d (pw p.In) q r j = u at *
    simp only [hlt, decide_true, cond_true]
    rw [hi, idx_nat, idx_nat, show (F.1.map (·.1))[i]? = some q from by rw [List.getElem?_map, hqj]; rfl, show (F.1.map (·.2))[i]? = some r from by rw [List.getElem?_map, hqj]; rfl]
    simp only [Option.bind_some, k1, k2, k3, k4, k5]
    rw [wr' (z := tab m.Out q j * pw p.In) (by omega) (by omega), wr' (by omega) (by omega), k6, Option.bind_some, find_eq (K := F.1) rfl rfl (by omega), Option.bind_some, app1 (by omega) rfl, Option.bind_some, app1 (by omega) rfl, Option.bind_some, wr' (by omega) (by omega)]
    rfl
  · have : j = k := by omega
    subst this
    refine ⟨.inr (.inl _), ?_, rfl⟩
    simp only [hlt, decide_false, cond_false]) (2 ^ 64) 0 ([], [], 0, K.map (·.1), K.map (·.2)) (by omega) ⟨rfl, by omega⟩ (by omega)
 match o, h2 with
 | .inr s, h2 => exact ⟨(k : Int), by rw [h1, h2]⟩
end
end Go.Proofs.YtcmamhmpoinmnaaGreat
set_option linter.unusedVariables false
set_option linter.unusedSimpArgs false
namespace Go.Proofs.YtcmamhmpoinmnaaGreat
open Go Go.Wk Go.Proofs
theorem s_l1Has_eqW (row : List Int) (v : Int) : s_l1Has row v = some (row.any (fun x => v == x)) := by
 unfold s_l1Has
 rw [cnt_all0 (f := s_l1Has_b0 row v) (r := true) (fun x => !(v == x)) (xs := row) rfl (fun i y hy => by
  unfold s_l1Has_b0
  rw [idx_nat, hy, Option.bind_some, show (y == v) = (v == y) from BEq.comm]
  cases v == y <;> rfl), List.any_eq_not_all_not]
 cases row.all (fun x => !(v == x)) <;> rfl
def partN (K : List Key) (S : List Int) : Nat → List Int
 | 0 => []
 | j + 1 => bif (match K[j]? with | some k => S.any (fun x => k.2 == x) | none => false) then partN K S j ++ [(j : Int)] else partN K S j
theorem partN_len (K : List Key) (S : List Int) : ∀ j, (partN K S j).length ≤ j
 | 0 => Nat.le_refl _
 | j + 1 => by
  have := partN_len K S j
  unfold partN
  cases (match K[j]? with | some k => S.any (fun x => k.2 == x) | none => false) with
  | false => exact Nat.le_succ_of_le this
  | true => simpa using this
theorem s_part {x : l30Graph} {K : List Key} (h2 : x.by0 = K.map (·.2)) (hl : K.length ≤ 1000) (S : List Int) : s_l30Part x S = some (partN K S K.length) := by
 unfold s_l30Part
 obtain ⟨s', h3, h4⟩ := cnt_inv (f := s_l30Part_b0 x S) (fun j s => s = partN K S j) K.length (s := []) rfl (fun j s hj hI => by
  subst hI
  obtain ⟨k, hk⟩ : ∃ k, K[j]? = some k := ⟨_, List.getElem?_eq_getElem hj⟩
  have := partN_len K S j
  refine ⟨_, ?_, rfl⟩
  unfold s_l30Part_b0
  rw [idx_nat, show x.by0[j]? = some k.2 from by rw [h2, List.getElem?_map, hk]; rfl, Option.bind_some, s_l1Has_eqW, Option.bind_some]
  conv => rhs; unfold partN
  rw [hk]
  dsimp only
  cases S.any (fun x => k.2 == x) with
  | false => rfl
  | true =>
   simp only [cond_true]
   rw [app1 (by omega) rfl]; rfl)
 rw [h2, List.length_map, h3, h4]; rfl
def partP (K : List Key) (x : Pair) : Pair := ⟨partN K x.Ask K.length, partN K x.Give K.length⟩
theorem i_part {s3 : WT} (hl : s3.1.length ≤ 1000) (x : Pair) : cntM (i_watchOf_b6 s3 x) s3.1.length 0 ([], []) = some (.inr (partN s3.1 x.Ask s3.1.length, partN s3.1 x.Give s3.1.length)) := by
 obtain ⟨s', h3, h4⟩ := cnt_inv (f := i_watchOf_b6 s3 x) (fun j s => s = (partN s3.1 x.Ask j, partN s3.1 x.Give j)) s3.1.length (s := ([], [])) rfl (fun j s hj hI => by
  subst hI
  obtain ⟨k, hk⟩ : ∃ k, s3.1[j]? = some k := ⟨_, List.getElem?_eq_getElem hj⟩
  have := partN_len s3.1 x.Ask j
  have := partN_len s3.1 x.Give j
  refine ⟨_, ?_, rfl⟩
  unfold i_watchOf_b6
  rw [idx_nat, hk, Option.bind_some, slices_Contains_I_int64_eq, Option.bind_some, slices_Contains_I_int64_eq]
  conv => rhs; unfold partN
  rw [hk]
  dsimp only
  cases x.Ask.any (fun x => k.2 == x) <;> cases x.Give.any (fun x => k.2 == x) <;> simp only [cond_true, cond_false, Option.bind_some]
  · rw [app1 (by omega) rfl]; rfl
  · rw [app1 (by omega) rfl]; rfl
  · rw [app1 (by omega) rfl, Option.bind_some, Option.bind_some, app1 (by omega) rfl]; rfl)
 rw [h3, h4]
section
variable {p : Sig} {m : Machine} {d : Det} (hs : sigOk p = true) (hm : machOk p m = true) (hd : detOk p d = true)
include hs hm hd
end
end Go.Proofs.YtcmamhmpoinmnaaGreat
set_option linter.unusedVariables false
set_option linter.unusedSimpArgs false
namespace Go.Proofs.YtcmamhmpoinmnaaGreat
open Go Go.Wk Go.Proofs
def kyW (m : Machine) (d : Det) (ins : Int) (v : Key) (x : Int) : Key := keyW m d ins v.1 v.2 x
def letW (m : Machine) (ins : Int) (v : Key) (x : Int) : Int := tab m.Out v.1 x * ins + x
theorem rowW_rowK (m : Machine) (d : Det) (ins : Int) (v : Key) (K : List Key) : ∀ j : Nat, (rowW m d ins v.1 v.2 K j).1 = (rowK (kyW m d ins v) K j).1 ∧ (rowW m d ins v.1 v.2 K j).2.1 = (rowK (kyW m d ins v) K j).2 ∧ (rowW m d ins v.1 v.2 K j).2.2 = (nums j).map (letW m ins v)
 | 0 => ⟨rfl, rfl, rfl⟩
 | j + 1 => by
  obtain ⟨h1, h2, h3⟩ := rowW_rowK m d ins v K j
  rw [rowW_succ]
  unfold stepW
  dsimp only
  have e : rowK (kyW m d ins v) K (j + 1) = (addK (rowK (kyW m d ins v) K j).1 (kyW m d ins v j), (rowK (kyW m d ins v) K j).2 ++ [atK (rowK (kyW m d ins v) K j).1 (kyW m d ins v j)]) := rfl
  rw [h1, h2, h3, e, nums_succ, List.map_append]
  exact ⟨rfl, rfl, rfl⟩
def InvX (m : Machine) (d : Det) (ins : Int) (k : Nat) (t : WT) : Prop := Prod (kyW m d ins) k t.1 t.2.1.toNat t.2.2.1 ∧ t.2.2.2.1.length = t.2.2.1.length ∧ ∀ (j : Nat) l, t.2.2.2.1[j]? = some l → ∃ v, t.1[j]? = some v ∧ l = (nums k).map (letW m ins v)
theorem InvX.init (m : Machine) (d : Det) (ins : Int) (k : Nat) : InvX m d ins k ([(0, 0)], 0, [], [], ixm 0 [(0, 0)]) := ⟨Prod.init _ _, rfl, fun j l h => by simp at h⟩
theorem InvX.step {m : Machine} {d : Det} {ins : Int} {k : Nat} {K : List Key} {i : Nat} {nx lt : List (List Int)} {ix ix' : List (Key × Int)} (h : InvX m d ins k (K, (i : Int), nx, lt, ix)) {q r : Int} (hq : K[i]? = some (q, r)) :
 InvX m d ins k ((rowW m d ins q r K k).1, (i : Int) + 1, nx ++ [(rowW m d ins q r K k).2.1], lt ++ [(rowW m d ins q r K k).2.2], ix') := by
 obtain ⟨h1, h2, h3⟩ := h
 dsimp only at h1 h2 h3
 obtain ⟨e1, e2, e3⟩ := rowW_rowK m d ins (q, r) K k
 dsimp only at e1 e2 e3
 have rk := rowK_ok (kyW m d ins (q, r)) K k
 unfold InvX
 dsimp only
 rw [e1, e2, e3]
 rw [Int.toNat_natCast] at h1
 have hs := h1.step hq
 have hrl := h1.rl
 refine ⟨?_, by simp [h2], fun j l hj => ?_⟩
 · rw [show ((i : Int) + 1).toNat = i + 1 from by omega]; exact hs
 · by_cases e : j < lt.length
   · rw [List.getElem?_append_left e] at hj
     obtain ⟨v, v1, v2⟩ := h3 j l hj
     exact ⟨v, rk.pre j v v1, v2⟩
   · have hjl := (List.getElem?_eq_some_iff.1 hj).1
     rw [List.length_append] at hjl
     simp only [List.length_cons, List.length_nil] at hjl
     have : j = i := by omega
     subst this
     have hlt : lt.length = j := by omega
     rw [← hlt] at hj
     simp at hj
     exact ⟨(q, r), rk.pre j _ hq, hj.symm⟩
section
variable {p : Sig} {m : Machine} {d : Det} (hs : sigOk p = true) (hm : machOk p m = true) (hd : detOk p d = true) {k : Nat} (hk : pw p.In = (k : Int))
include hs hm hd hk
theorem watch_same2 : ∃ o t, whileM (s_l30Watch_b0 p m d) (2 ^ 64) (0, [0], [0], [], []) = some o ∧ whileM (i_watchOf_b0 p m d) (2 ^ 64) ([(0, 0)], 0, [], [], ixm 0 [(0, 0)]) = some t ∧
 ((∃ t', o = .inr (toS t') ∧ t = .inr t' ∧ InvW m d k t' ∧ InvX m d (pw p.In) k t' ∧ t'.2.1 = t'.1.length) ∨ (o = .inl (⟨[], [], [], []⟩, false) ∧ t = .inl (none, false) ∧ 256 < m.Next.length * d.Next.length)) := by
 obtain ⟨m1, m2, m3, m4, m5⟩ := machOk_spec hm
 obtain ⟨d1, d2, _, _⟩ := detOk_spec hd
 have hpw := pw_le p.In
 obtain ⟨o, t, h1, h2, h3⟩ := while_sim (f := s_l30Watch_b0 p m d) (g := i_watchOf_b0 p m d) (fun s t => s = toS t ∧ InvW m d k t ∧ InvX m d (pw p.In) k t) (fun s => 300 - s.1.toNat) (fun r r' => r = (⟨[], [], [], []⟩, false) ∧ r' = (none, false) ∧ 256 < m.Next.length * d.Next.length) (fun s t => s = toS t ∧ InvW m d k t ∧ InvX m d (pw p.In) k t ∧ t.2.1 = t.1.length) (fun s t ⟨hst, hI, hX⟩ => by
  subst hst
  obtain ⟨hK, i0, i1, n1, n2, n3, n4, n5⟩ := id hI
  obtain ⟨K, ii, nx, lt, ix⟩ := t
  dsimp only at hK i0 i1 n1 n2 n3 n4 n5
  subst n4
  unfold s_l30Watch_b0 i_watchOf_b0 toS
  dsimp only
  rw [List.length_map]
  by_cases hlt : ii < (K.length : Int)
  · obtain ⟨i, rfl⟩ := ex_nat i0
    obtain ⟨⟨q, r⟩, hq⟩ : ∃ v, K[i]? = some v := ⟨_, List.getElem?_eq_getElem (by omega)⟩
    obtain ⟨q0, q1, r0, r1⟩ := hK _ (List.mem_of_getElem? hq)
    dsimp only at q0 q1 r0 r1
    obtain ⟨row, hrow, hmem⟩ := get_el (xs := m.Next) q0 q1
    have hrl : row.length = k := by have := (m4 row hmem).1; omega
    obtain ⟨z, hS⟩ := s_rowW hs hm hd hk q0 q1 r0 r1 hK (by omega) (s1 := ((i : Int), K.map (·.1), K.map (·.2), nx, lt)) (i := i) rfl hq
    have hI' := i_rowW hs hm hd hk q0 q1 r0 r1 hK (by omega) (x42 := (q, r)) (x47 := (q, r)) rfl rfl hrow
    have hX' : InvX m d (pw p.In) k ((rowW m d (pw p.In) q r K k).1, (i : Int) + 1, nx ++ [(rowW m d (pw p.In) q r K k).2.1], lt ++ [(rowW m d (pw p.In) q r K k).2.2], ixm 0 (rowW m d (pw p.In) q r K k).1) := InvX.step hX hq
    obtain ⟨g1, g2, g3, g4, g5, g6⟩ := rowW_in hm hd q0 q1 r0 r1 hK k (by omega)
    generalize rowW m d (pw p.In) q r K k = F at *
    simp only [hlt, decide_true, cond_true, idx_nat, hq, Option.bind_some, hrow, hrl, hS, hI', aft_inr, List.length_map]
    by_cases hbig : (256 : Int) < (F.1.length : Int)
    · refine ⟨.inl (⟨[], [], [], []⟩, false), .inl (none, false), ?_, ?_, rfl, rfl, Nat.lt_of_lt_of_le (show 256 < F.1.length by omega) (keys_len hX'.1.nod g1)⟩
      · simp only [hbig, decide_true, cond_true]
      · simp only [hbig, decide_true, cond_true]
    · have hg := (List.getElem?_eq_some_iff.1 (g6 i _ hq)).1
      refine ⟨.inr (.inr (toS (F.1, (i : Int) + 1, nx ++ [F.2.1], lt ++ [F.2.2], ixm 0 F.1))), .inr (.inr (F.1, (i : Int) + 1, nx ++ [F.2.1], lt ++ [F.2.2], ixm 0 F.1)), ?_, ?_, ⟨rfl, ⟨g1, ?_, ?_, ?_, ?_, ?_, rfl, ?_⟩, hX'⟩, ?_⟩
      · simp only [hbig, decide_false, cond_false]
        rw [app1 (by omega) rfl, Option.bind_some, app1 (by omega) rfl, Option.bind_some, wr' (by omega) (by omega)]
        rfl
      · simp only [hbig, decide_false, cond_false]
        rw [app1 (by omega) rfl, Option.bind_some, app1 (by omega) rfl, Option.bind_some, wr' (by omega) (by omega)]
      · show 0 ≤ (i : Int) + 1; omega
      · show (i : Int) + 1 ≤ (F.1.length : Int); omega
      · show ((nx ++ [F.2.1]).length : Int) = (i : Int) + 1; simp; omega
      · show ((lt ++ [F.2.2]).length : Int) = (i : Int) + 1; simp; omega
      · intro x hx
        rcases List.mem_append.1 hx with hx | hx
        · exact n3 x hx
        · rw [List.mem_singleton.1 hx]; exact g4
      · show F.1.length ≤ 256; omega
      · show 300 - ((i : Int) + 1).toNat < 300 - (i : Int).toNat; omega
  · refine ⟨.inr (.inl (toS (K, ii, nx, lt, ixm 0 K))), .inr (.inl (K, ii, nx, lt, ixm 0 K)), ?_, ?_, rfl, hI, hX, by dsimp only; omega⟩
    · simp only [hlt, decide_false, cond_false]; rfl
    · simp only [hlt, decide_false, cond_false]) (2 ^ 64) (2 ^ 64) (0, [0], [0], [], []) ([(0, 0)], 0, [], [], ixm 0 [(0, 0)]) (by show 300 - 0 < _; omega) (by show 300 - 0 < _; omega) ⟨rfl, ⟨fun k hk => by
      rw [List.mem_singleton.1 hk]
      exact ⟨by simp, by show (0 : Int) < _; omega, by simp, by show (0 : Int) < _; omega⟩, by simp, by simp, by simp, by simp, by simp, rfl, by simp⟩, InvX.init m d (pw p.In) k⟩
 match o, t, h3 with
 | .inl r, .inl r', h3 => exact ⟨_, _, h1, h2, .inr ⟨by rw [h3.1], by rw [h3.2.1], h3.2.2⟩⟩
 | .inr s, .inr t', h3 => exact ⟨_, _, h1, h2, .inl ⟨t', by rw [h3.1], rfl, h3.2⟩⟩
structure WK (p : Sig) (m : Machine) (d : Det) (k : Nat) (K : List Key) (w : watch) : Prop where
 prod : Prod (kyW m d (pw p.In)) k K K.length w.next
 kin : Kin m.Next.length d.Next.length K
 le : K.length ≤ 256
 let_ : w.letters.length = K.length ∧ ∀ (j : Nat) v, K[j]? = some v → w.letters[j]? = some ((nums k).map (letW m (pw p.In) v))
 pairs : w.pairs = d.Pairs.map (partP K)
omit hs hm hd hk in
theorem partN_plK (K : List Key) (S : List Int) : ∀ j, j ≤ K.length → partN K S j = plK (·.2) K S j
 | 0, _ => rfl
 | j + 1, hj => by
  have ih := partN_plK K S j (by omega)
  have e : plK (·.2) K S (j + 1) = plK (·.2) K S j ++ (match K[j]? with | some v => if v.2 ∈ S then [(j : Int)] else [] | none => []) := rfl
  have hv : K[j]? = some K[j] := List.getElem?_eq_getElem (by omega)
  have e' : partN K S (j + 1) = bif (match K[j]? with | some k => S.any (fun x => k.2 == x) | none => false) then partN K S j ++ [(j : Int)] else partN K S j := rfl
  rw [e, e', ih, hv]
  dsimp only
  by_cases h : K[j].2 ∈ S
  · have : S.any (fun x => K[j].2 == x) = true := List.any_eq_true.2 ⟨_, h, by simp⟩
    rw [this, cond_true, if_pos h]
  · have : S.any (fun x => K[j].2 == x) = false := by
     rw [List.any_eq_false]; intro x hx; simp; exact fun e => h (e ▸ hx)
    rw [this, cond_false, if_neg h, List.append_nil]
theorem watchOf_same2 : (s_l30Watch p m d = some (⟨[], [], [], []⟩, false) ∧ i_watchOf p m d = some (none, false) ∧ 256 < m.Next.length * d.Next.length) ∨
 ∃ (g : l30Graph) (w : watch) (K : List Key), s_l30Watch p m d = some (g, true) ∧ i_watchOf p m d = some (some w, true) ∧ cntM (s_WatchOf_b0 d (g, true)) d.Pairs.length 0 [] = some (.inr w.pairs) ∧ g.next = w.next ∧ g.letters = w.letters ∧ WK p m d k K w := by
 have hpw := pw_le p.In
 obtain ⟨_, _, d3, _⟩ := detOk_spec hd
 obtain ⟨o, t, h1, h2, h3⟩ := watch_same2 hs hm hd hk
 have hf : s_l30Find ⟨[], [], [], []⟩ 0 0 = some (0, [0], [0]) := by
  rw [find_eq (K := []) rfl rfl (by simp)]; rfl
 have hms : mset kwI2 ([] : List (Key × Int)) ((0, 0) : Key) 0 = some (ixm 0 [(0, 0)]) := by decide
 unfold s_l30Watch i_watchOf
 rw [hf, Option.bind_some, hms, Option.bind_some]
 dsimp only
 rw [h1, h2, Option.bind_some, Option.bind_some]
 rcases h3 with ⟨t', rfl, rfl, hI, hX, hl⟩ | ⟨rfl, rfl, hbig⟩
 · right
   obtain ⟨hK, i0, i1, n1, n2, n3, n4, n5⟩ := hI
   obtain ⟨x1, x2, x3⟩ := hX
   have hPs : ∀ (g : l30Graph × Bool), g.1.by0 = t'.1.map (·.2) → cntM (s_WatchOf_b0 d g) d.Pairs.length 0 [] = some (.inr (d.Pairs.map (partP t'.1))) ∧ cntM (i_watchOf_b4 d t') d.Pairs.length 0 [] = some (.inr (d.Pairs.map (partP t'.1))) := fun g hg => by
    have hfold : ∀ (xs : List Pair) (acc : List Pair), xs.foldl (fun s y => s ++ [partP t'.1 y]) acc = acc ++ xs.map (partP t'.1) := fun xs => by
     induction xs with
     | nil => intro acc; simp
     | cons x xs ih => intro acc; rw [List.foldl_cons, ih]; simp
    obtain ⟨a1, _⟩ := cnt_foldI (f := s_WatchOf_b0 d g) (fun s y => s ++ [partP t'.1 y]) (fun j s => s.length = j) (xs := d.Pairs) (fun i y s hy hs => by
     have hi := (List.getElem?_eq_some_iff.1 hy).1
     refine ⟨?_, by simp [hs]⟩
     unfold s_WatchOf_b0
     rw [idx_nat, hy, Option.bind_some, Option.bind_some, s_part hg (by omega), Option.bind_some, s_part hg (by omega), Option.bind_some, app1 (by omega) rfl]; rfl) (s := []) rfl
    obtain ⟨b1, _⟩ := cnt_foldI (f := i_watchOf_b4 d t') (fun s y => s ++ [partP t'.1 y]) (fun j s => s.length = j) (xs := d.Pairs) (fun i y s hy hs => by
     have hi := (List.getElem?_eq_some_iff.1 hy).1
     refine ⟨?_, by simp [hs]⟩
     unfold i_watchOf_b4
     rw [idx_nat, hy, Option.bind_some, i_part (by omega), Option.bind_some]
     simp only [aft_inr]
     rw [app1 (by omega) rfl]; rfl) (s := []) rfl
    rw [hfold, List.nil_append] at a1 b1
    exact ⟨a1, b1⟩
   obtain ⟨p1, p2⟩ := hPs (⟨t'.1.map (·.1), t'.1.map (·.2), t'.2.2.1, t'.2.2.2.1⟩, true) rfl
   have hin : t'.2.1.toNat = t'.1.length := by omega
   rw [hin] at x1
   refine ⟨⟨t'.1.map (·.1), t'.1.map (·.2), t'.2.2.1, t'.2.2.2.1⟩, ⟨t'.2.2.1, t'.2.2.2.1, d.Pairs.map (partP t'.1)⟩, t'.1, rfl, ?_, p1, rfl, rfl, x1, hK, n5, ⟨?_, fun j v hv => ?_⟩, rfl⟩
   · simp only [aft_inr]
     rw [p2]; rfl
   · show t'.2.2.2.1.length = t'.1.length; omega
   · have hj := (List.getElem?_eq_some_iff.1 hv).1
     have hjl : j < t'.2.2.2.1.length := by omega
     obtain ⟨u, u1, u2⟩ := x3 j _ (List.getElem?_eq_getElem hjl)
     rw [hv] at u1
     cases u1
     show t'.2.2.2.1[j]? = _
     rw [List.getElem?_eq_getElem hjl, u2]
 · exact .inl ⟨rfl, rfl, hbig⟩
end
end Go.Proofs.YtcmamhmpoinmnaaGreat
set_option linter.unusedVariables false
set_option linter.unusedSimpArgs false
namespace Go.Proofs.YtcmamhmpoinmnaaGreat.Par
open Classical
structure Gm where
 own : Int → Bool
 pri : Int → Int
 E : Int → Int → Prop
variable (G : Gm)
def oddP (d : Int) : Bool := decide (d % 2 = 1)
def Play (p : Bool) (D : Int → Prop) (σ : Int → Int) (π : Nat → Int) : Prop := ∀ n, D (π n) ∧ G.E (π n) (π (n + 1)) ∧ (G.own (π n) = p → π (n + 1) = σ (π n))
def Wins (p : Bool) (π : Nat → Int) : Prop := ∃ d, oddP d = p ∧ (∀ N, ∃ n, N ≤ n ∧ G.pri (π n) = d) ∧ ∃ N, ∀ n, N ≤ n → G.pri (π n) ≤ d
def Dom (X : Int → Prop) (p : Bool) (D : Int → Prop) : Prop := ∃ σ : Int → Int, (∀ v, D v → X v) ∧ (∀ v, D v → G.own v = p → G.E v (σ v) ∧ D (σ v)) ∧ (∀ v u, D v → ¬ G.own v = p → G.E v u → X u → D u) ∧ ∀ π, Play G p D σ π → Wins G p π
structure IsAttr (X : Int → Prop) (p : Bool) (S A : Int → Prop) : Prop where
 sub : ∀ v, A v → X v
 base : ∀ v, X v → S v → A v
 rank : ∃ r : Int → Nat, ∀ v, A v → S v ∨ (G.own v = p ∧ ∃ u, G.E v u ∧ A u ∧ r u < r v) ∨ (¬ G.own v = p ∧ ∀ u, G.E v u → X u → A u ∧ r u < r v)
 mine : ∀ v u, X v → ¬ A v → G.own v = p → G.E v u → X u → ¬ A u
 yours : ∀ v, X v → ¬ A v → ¬ G.own v = p → ∃ u, G.E v u ∧ X u ∧ ¬ A u
def Mn (X A : Int → Prop) : Int → Prop := fun v => X v ∧ ¬ A v
variable {G} {X : Int → Prop} {p : Bool} {S A D D' : Int → Prop}
theorem Wins.tail {π : Nat → Int} (k : Nat) (h : Wins G p (fun n => π (n + k))) : Wins G p π := by
 obtain ⟨d, h1, h2, N, h3⟩ := h
 refine ⟨d, h1, fun M => ?_, N + k, fun n hn => ?_⟩
 · obtain ⟨n, hn, he⟩ := h2 M
   exact ⟨n + k, by omega, he⟩
 · have := h3 (n - k) (by omega)
   dsimp only at this
   rwa [show n - k + k = n from by omega] at this
theorem Wins.not_both {π : Nat → Int} (h : Wins G p π) (h' : Wins G (!p) π) : False := by
 obtain ⟨d, a1, a2, N, a3⟩ := h
 obtain ⟨e, b1, b2, M, b3⟩ := h'
 obtain ⟨n, n1, n2⟩ := a2 M
 obtain ⟨m, m1, m2⟩ := b2 N
 have := b3 n n1
 have := a3 m m1
 have : d = e := by omega
 subst this
 rw [a1] at b1
 cases p <;> cases b1
theorem Play.tail {σ : Int → Int} {π : Nat → Int} (h : Play G p D σ π) (k : Nat) : Play G p D σ (fun n => π (n + k)) := fun n => by
 have := h (n + k)
 rwa [show n + k + 1 = n + 1 + k from by omega] at this
theorem Dom.disj (h : Dom G X p D) (h' : Dom G X (!p) D') {v : Int} (hv : D v) (hv' : D' v) : False := by
 obtain ⟨σ, a1, a2, a3, a4⟩ := h
 obtain ⟨τ, b1, b2, b3, b4⟩ := h'
 let f : Int → Int := fun v => if G.own v = p then σ v else τ v
 let π : Nat → Int := fun n => Nat.rec v (fun _ x => f x) n
 have hs : ∀ n, π (n + 1) = f (π n) := fun n => rfl
 have key : ∀ w, D w → D' w → G.E w (f w) ∧ D (f w) ∧ D' (f w) := fun w hw hw' => by
  by_cases ho : G.own w = p
  · have e : f w = σ w := if_pos ho
    obtain ⟨k1, k2⟩ := a2 w hw ho
    rw [e]
    exact ⟨k1, k2, b3 w _ hw' (by rw [ho]; cases p <;> simp) k1 (a1 _ k2)⟩
  · have e : f w = τ w := if_neg ho
    obtain ⟨k1, k2⟩ := b2 w hw' (by revert ho; cases G.own w <;> cases p <;> simp)
    rw [e]
    exact ⟨k1, a3 w _ hw ho k1 (b1 _ k2), k2⟩
 have inv : ∀ n, D (π n) ∧ D' (π n) := fun n => by
  induction n with
  | zero => exact ⟨hv, hv'⟩
  | succ n ih =>
   obtain ⟨_, k2, k3⟩ := key _ ih.1 ih.2
   rw [hs]; exact ⟨k2, k3⟩
 refine (a4 π fun n => ⟨(inv n).1, by rw [hs]; exact (key _ (inv n).1 (inv n).2).1, fun ho => by rw [hs]; exact if_pos ho⟩).not_both (b4 π fun n => ⟨(inv n).2, by rw [hs]; exact (key _ (inv n).1 (inv n).2).1, fun ho => by rw [hs]; exact if_neg (by rw [ho]; cases p <;> simp)⟩)
theorem Dom.empty : Dom G X p (fun _ => False) := ⟨id, fun _ h => h.elim, fun _ h => h.elim, fun _ _ h => h.elim, fun π h => (h 0).1.elim⟩
theorem Dom.congr (h : Dom G X p D) (e : ∀ v, D v ↔ D' v) : Dom G X p D' := by
 have : D = D' := funext fun v => propext (e v)
 exact this ▸ h
theorem descent {r : Nat → Nat} (h : ∀ n, r (n + 1) < r n) : False := by
 have : ∀ n, r n + n ≤ r 0 := fun n => by
  induction n with
  | zero => omega
  | succ n ih => have := h n; omega
 have := this (r 0 + 1)
 omega
theorem Dom.grow (h1 : Dom G X p D) (hA : IsAttr G X p D A) (h2 : Dom G (Mn X A) p D') : Dom G X p (fun v => A v ∨ D' v) := by
 obtain ⟨σ, a1, a2, a3, a4⟩ := h1
 obtain ⟨τ, b1, b2, b3, b4⟩ := h2
 obtain ⟨r, hr⟩ := hA.rank
 have hDA : ∀ v, D v → A v := fun v hv => hA.base v (a1 v hv) hv
 let f : Int → Int := fun v => if D v then σ v else if h : ∃ u, G.E v u ∧ A u ∧ r u < r v then h.choose else τ v
 have fD : ∀ v, D v → f v = σ v := fun v hv => if_pos hv
 have fA : ∀ v, A v → ¬ D v → G.own v = p → G.E v (f v) ∧ A (f v) ∧ r (f v) < r v := fun v hv hd ho => by
  rcases hr v hv with h | ⟨_, h⟩ | ⟨h, _⟩
  · exact absurd h hd
  · have e : f v = h.choose := by show (if D v then _ else _) = _; rw [if_neg hd, dif_pos h]
    rw [e]; exact h.choose_spec
  · exact absurd ho h
 have fT : ∀ v, D' v → G.own v = p → f v = τ v := fun v hv ho => by
  obtain ⟨hx, ha⟩ := b1 v hv
  have : ¬ ∃ u, G.E v u ∧ A u ∧ r u < r v := fun ⟨u, k1, k2, _⟩ => hA.mine v u hx ha ho k1 (hA.sub u k2) k2
  show (if D v then _ else _) = _
  rw [if_neg (fun h => ha (hDA v h)), dif_neg this]
 refine ⟨f, ?_, ?_, ?_, ?_⟩
 · rintro v (h | h)
   · exact hA.sub v h
   · exact (b1 v h).1
 · rintro v (h | h) ho
   · by_cases hd : D v
     · rw [fD v hd]; exact ⟨(a2 v hd ho).1, .inl (hDA _ (a2 v hd ho).2)⟩
     · exact ⟨(fA v h hd ho).1, .inl (fA v h hd ho).2.1⟩
   · rw [fT v h ho]; exact ⟨(b2 v h ho).1, .inr (b2 v h ho).2⟩
 · rintro v u (h | h) ho he hx
   · by_cases hd : D v
     · exact .inl (hDA u (a3 v u hd ho he hx))
     · rcases hr v h with h' | ⟨h', _⟩ | ⟨_, h'⟩
       · exact absurd h' hd
       · exact absurd h' ho
       · exact .inl (h' u he hx).1
   · by_cases ha : A u
     · exact .inl ha
     · exact .inr (b3 v u h ho he ⟨hx, ha⟩)
 · intro π hπ
   have hX : ∀ n, X (π n) := fun n => by
    rcases (hπ n).1 with h | h
    · exact hA.sub _ h
    · exact (b1 _ h).1
   by_cases hD : ∃ n, D (π n)
   · obtain ⟨n, hn⟩ := hD
     have st : ∀ k, D (π (k + n)) := fun k => by
      induction k with
      | zero => rwa [Nat.zero_add]
      | succ k ih =>
       have e : k + 1 + n = k + n + 1 := by omega
       by_cases ho : G.own (π (k + n)) = p
       · have := (hπ (k + n)).2.2 ho
         rw [fD _ ih] at this
         rw [e, this]
         exact (a2 _ ih ho).2
       · rw [e]; exact a3 _ _ ih ho (hπ (k + n)).2.1 (hX _)
     refine Wins.tail n (a4 _ fun k => ⟨st k, ?_, fun ho => ?_⟩)
     · have := (hπ (k + n)).2.1
       rwa [show k + n + 1 = k + 1 + n from by omega] at this
     · have := (hπ (k + n)).2.2 ho
       rw [fD _ (st k), show k + n + 1 = k + 1 + n from by omega] at this
       exact this
   · have hD : ∀ n, ¬ D (π n) := fun n h => hD ⟨n, h⟩
     by_cases hA' : ∃ n, A (π n)
     · obtain ⟨n, hn⟩ := hA'
       have step : ∀ m, A (π m) → A (π (m + 1)) ∧ r (π (m + 1)) < r (π m) := fun m hm => by
        by_cases ho : G.own (π m) = p
        · rw [(hπ m).2.2 ho]; exact (fA _ hm (hD m) ho).2
        · rcases hr _ hm with h' | ⟨h', _⟩ | ⟨_, h'⟩
          · exact absurd h' (hD m)
          · exact absurd h' ho
          · exact h' _ (hπ m).2.1 (hX _)
       have st : ∀ k, A (π (k + n)) := fun k => by
        induction k with
        | zero => rwa [Nat.zero_add]
        | succ k ih => rw [show k + 1 + n = k + n + 1 from by omega]; exact (step _ ih).1
       exact (descent (r := fun k => r (π (k + n))) fun k => by
        have := (step _ (st k)).2
        rwa [show k + n + 1 = k + 1 + n from by omega] at this).elim
     · have hT : ∀ n, D' (π n) := fun n => (hπ n).1.resolve_left fun h => hA' ⟨n, h⟩
       refine b4 π fun n => ⟨hT n, (hπ n).2.1, fun ho => ?_⟩
       rw [(hπ n).2.2 ho, fT _ (hT n) ho]
structure Sol (G : Gm) (X : Int → Prop) (p : Bool) (W : Int → Prop) : Prop where
 sub : ∀ v, W v → X v
 mine : Dom G X p W
 yours : Dom G X (!p) (Mn X W)
theorem Sol.uniq {W W' : Int → Prop} (h : Sol G X p W) (h' : Sol G X p W') (v : Int) : W v ↔ W' v := by
 constructor
 · intro hv
   by_cases hv' : W' v
   · exact hv'
   · exact (Dom.disj h.mine h'.yours hv ⟨h.sub v hv, hv'⟩).elim
 · intro hv
   by_cases hv' : W v
   · exact hv'
   · exact (Dom.disj h'.mine h.yours hv ⟨h'.sub v hv, hv'⟩).elim
theorem Sol.congr {W W' : Int → Prop} (h : Sol G X p W) (e : ∀ v, W v ↔ W' v) : Sol G X p W' := by
 have : W = W' := funext fun v => propext (e v)
 exact this ▸ h
end Go.Proofs.YtcmamhmpoinmnaaGreat.Par
set_option linter.unusedVariables false
set_option linter.unusedSimpArgs false
namespace Go.Proofs.YtcmamhmpoinmnaaGreat
open Go Go.Wk Go.Proofs
theorem idx_setI {α : Type} {xs ys : List α} {i v : Int} {x : α} (h : setI xs i x = some ys) : idx ys v = if v = i then some x else idx xs v := by
 obtain ⟨h0, h1, rfl, _⟩ := setI_ok h
 unfold idx
 by_cases hv : 0 ≤ v
 · rw [if_pos hv, if_pos hv]
   by_cases e : v = i
   · subst e
     rw [if_pos rfl, List.getElem?_set_self (by omega)]
   · rw [if_neg e, List.getElem?_set_ne (by omega)]
 · rw [if_neg hv, if_neg hv, if_neg (by omega)]
theorem setI_some {α : Type} {xs : List α} {i : Int} (x : α) (h0 : 0 ≤ i) (h1 : i < xs.length) : ∃ ys, setI xs i x = some ys ∧ ys.length = xs.length := by
 have : setI xs i x = some (xs.set i.toNat x) := by unfold setI; rw [if_pos ⟨h0, h1⟩]
 exact ⟨_, this, (setI_ok this).2.2.2⟩
theorem idx_some {α : Type} {xs : List α} {i : Int} (h0 : 0 ≤ i) (h1 : i < xs.length) : ∃ x, idx xs i = some x := by
 obtain ⟨x, h, _⟩ := get_el h0 h1
 exact ⟨x, h⟩
theorem idx_rng {α : Type} {xs : List α} {i : Int} {x : α} (h : idx xs i = some x) : 0 ≤ i ∧ i < xs.length := ⟨(idx_ok h).1, (idx_ok h).2.1⟩
def In (B : List Bool) (v : Int) : Prop := idx B v = some true
section
variable (row : Int → List Int) (own : Int → Bool) (pri : Int → Int) (inn : Int → Prop) (p : Bool) (goal : Int → Prop)
structure Cert (Q : List Int) : Prop where
 nd : Q.Nodup
 mem : ∀ v ∈ Q, inn v
 why : ∀ (k : Nat) v, Q[k]? = some v → goal v ∨ (own v = p ∧ ∃ u ∈ Q.take k, u ∈ row v) ∨ (¬ own v = p ∧ ∀ u ∈ row v, inn u → u ∈ Q.take k)
variable {row own pri inn p goal}
theorem Cert.snoc {Q : List Int} (h : Cert row own inn p goal Q) {v : Int} (hv : v ∉ Q) (hi : inn v) (hw : goal v ∨ (own v = p ∧ ∃ u ∈ Q, u ∈ row v) ∨ (¬ own v = p ∧ ∀ u ∈ row v, inn u → u ∈ Q)) : Cert row own inn p goal (Q ++ [v]) := by
 refine ⟨?_, ?_, ?_⟩
 · rw [List.nodup_append]
   exact ⟨h.nd, by simp, fun a ha b hb => by simp at hb; subst hb; exact fun e => hv (e ▸ ha)⟩
 · intro x hx
   rcases List.mem_append.1 hx with hx | hx
   · exact h.mem x hx
   · simp at hx; subst hx; exact hi
 · intro k x hk
   by_cases hlt : k < Q.length
   · rw [List.getElem?_append_left hlt] at hk
     rw [List.take_append_of_le_length (by omega)]
     exact h.why k x hk
   · have : k = Q.length := by
      have := (List.getElem?_eq_some_iff.1 hk).1
      simp at this; omega
     subst this
     rw [List.getElem?_append_right (Nat.le_refl _), Nat.sub_self] at hk
     simp at hk
     subst hk
     rw [List.take_append_of_le_length (Nat.le_refl _), List.take_length]
     exact hw
def Trap (row : Int → List Int) (own : Int → Bool) (inn : Int → Prop) (p : Bool) (Q : List Int) (d : Int → Int → Prop) : Prop := ∀ v, inn v → v ∉ Q → (own v = p → ∀ y ∈ row v, inn y → ¬ d v y) ∧ (¬ own v = p → ∃ y ∈ row v, inn y ∧ ¬ d v y)
end
open Classical in
noncomputable def lf (row : List Int) (inn d : Int → Prop) : Nat := (row.filter (fun y => decide (inn y ∧ ¬ d y))).length
theorem lf_zero {row : List Int} {inn d : Int → Prop} : lf row inn d = 0 ↔ ∀ y ∈ row, inn y → d y := by
 classical
 unfold lf
 rw [List.length_eq_zero_iff, List.filter_eq_nil_iff]
 constructor
 · intro h y hy hi
   by_cases hd : d y
   · exact hd
   · exact absurd (by simp; exact ⟨hi, hd⟩) (h y hy)
 · intro h y hy hc
   simp at hc
   exact hc.2 (h y hy hc.1)
def dn (T : List Int) (u : Int) (L : List Int) (v y : Int) : Prop := y ∈ T ∨ (y = u ∧ v ∈ L)
structure Mid (row : Int → List Int) (own : Int → Bool) (inn : Int → Prop) (p : Bool) (goal : Int → Prop) (T : List Int) (u : Int) (L Q : List Int) : Prop where
 cert : Cert row own inn p goal Q
 hu : ∃ R, Q = T ++ u :: R
 trap : Trap row own inn p Q (dn T u L)
section
variable {row : Int → List Int} {own : Int → Bool} {inn : Int → Prop} {p : Bool} {goal : Int → Prop} {T : List Int} {u : Int} {L Q : List Int}
theorem Mid.u_in (h : Mid row own inn p goal T u L Q) : u ∈ Q ∧ u ∉ T ∧ inn u := by
 obtain ⟨R, e⟩ := h.hu
 have hq : u ∈ Q := by rw [e]; simp
 refine ⟨hq, ?_, h.cert.mem u hq⟩
 have := h.cert.nd
 rw [e, List.nodup_append] at this
 exact fun ht => this.2.2 u ht u (by simp) rfl
theorem dn_other {v w y : Int} (h : w ≠ v) : dn T u (L ++ [v]) w y ↔ dn T u L w y := by
 unfold dn
 rw [List.mem_append, List.mem_singleton]
 constructor
 · rintro (h1 | ⟨h1, h2 | h2⟩)
   · exact .inl h1
   · exact .inr ⟨h1, h2⟩
   · exact absurd h2 h
 · rintro (h1 | ⟨h1, h2⟩)
   · exact .inl h1
   · exact .inr ⟨h1, .inl h2⟩
theorem dn_self0 {v y : Int} (h : v ∉ L) : dn T u L v y ↔ y ∈ T := by
 unfold dn; simp [h]
theorem Mid.skip (h : Mid row own inn p goal T u L Q) {v : Int} (hv : ¬ inn v ∨ v ∈ Q ∨ u ∉ row v) : Mid row own inn p goal T u (L ++ [v]) Q := by
 refine ⟨h.cert, h.hu, fun w hw hq => ?_⟩
 obtain ⟨t1, t2⟩ := h.trap w hw hq
 by_cases e : w = v
 · subst e
   have hu : u ∉ row w := by
    rcases hv with hv | hv | hv
    · exact absurd hw hv
    · exact absurd hv hq
    · exact hv
   have key : ∀ y ∈ row w, (dn T u (L ++ [w]) w y ↔ dn T u L w y) := fun y hy => by
    have hyu : y ≠ u := fun e => hu (e ▸ hy)
    unfold dn; simp [hyu]
   refine ⟨fun ho y hy hi => fun hd => t1 ho y hy hi ((key y hy).1 hd), fun ho => ?_⟩
   obtain ⟨y, h1, h2, h3⟩ := t2 ho
   exact ⟨y, h1, h2, fun hd => h3 ((key y h1).1 hd)⟩
 · refine ⟨fun ho y hy hi => fun hd => t1 ho y hy hi ((dn_other e).1 hd), fun ho => ?_⟩
   obtain ⟨y, h1, h2, h3⟩ := t2 ho
   exact ⟨y, h1, h2, fun hd => h3 ((dn_other e).1 hd)⟩
theorem Mid.add (h : Mid row own inn p goal T u L Q) {v : Int} (hi : inn v) (hq : v ∉ Q) (hu : u ∈ row v) (hw : own v = p ∨ lf (row v) inn (fun y => y ∈ T ∨ y = u) = 0) : Mid row own inn p goal T u (L ++ [v]) (Q ++ [v]) := by
 obtain ⟨R, e⟩ := h.hu
 have hTQ : ∀ y, y ∈ T ∨ y = u → y ∈ Q := fun y hy => by
  rw [e]
  rcases hy with hy | hy
  · simp [hy]
  · simp [hy]
 refine ⟨h.cert.snoc hq hi ?_, ⟨R ++ [v], by rw [e]; simp⟩, fun w hw' hq' => ?_⟩
 · by_cases ho : own v = p
   · exact .inr (.inl ⟨ho, u, h.u_in.1, hu⟩)
   · exact .inr (.inr ⟨ho, fun y hy hyi => hTQ y ((lf_zero.1 (hw.resolve_left ho)) y hy hyi)⟩)
 · rw [List.mem_append, List.mem_singleton, not_or] at hq'
   obtain ⟨t1, t2⟩ := h.trap w hw' hq'.1
   refine ⟨fun ho y hy hi => fun hd => t1 ho y hy hi ((dn_other hq'.2).1 hd), fun ho => ?_⟩
   obtain ⟨y, h1, h2, h3⟩ := t2 ho
   exact ⟨y, h1, h2, fun hd => h3 ((dn_other hq'.2).1 hd)⟩
theorem Mid.first {R : List Int} (hc : Cert row own inn p goal (T ++ u :: R)) (ht : Trap row own inn p (T ++ u :: R) (fun _ y => y ∈ T)) : Mid row own inn p goal T u [] (T ++ u :: R) := by
 refine ⟨hc, ⟨R, rfl⟩, fun v hv hq => ?_⟩
 obtain ⟨t1, t2⟩ := ht v hv hq
 refine ⟨fun ho y hy hi hd => t1 ho y hy hi ((dn_self0 (by simp)).1 hd), fun ho => ?_⟩
 obtain ⟨y, h1, h2, h3⟩ := t2 ho
 exact ⟨y, h1, h2, fun hd => h3 ((dn_self0 (by simp)).1 hd)⟩
theorem Mid.last (h : Mid row own inn p goal T u L Q) (hL : ∀ v, inn v → u ∈ row v → v ∈ L) : Trap row own inn p Q (fun _ y => y ∈ T ++ [u]) := fun v hv hq => by
 obtain ⟨t1, t2⟩ := h.trap v hv hq
 have key : ∀ y ∈ row v, (y ∈ T ++ [u] → dn T u L v y) := fun y hy hm => by
  rw [List.mem_append, List.mem_singleton] at hm
  rcases hm with hm | hm
  · exact .inl hm
  · exact .inr ⟨hm, hL v hv (hm ▸ hy)⟩
 refine ⟨fun ho y hy hi hd => t1 ho y hy hi (key y hy hd), fun ho => ?_⟩
 obtain ⟨y, h1, h2, h3⟩ := t2 ho
 exact ⟨y, h1, h2, fun hd => h3 (by
  rcases List.mem_append.1 hd with hm | hm
  · exact .inl hm
  · rw [List.mem_singleton] at hm
    exact .inr ⟨hm, hL v hv (hm ▸ h1)⟩)⟩
end
end Go.Proofs.YtcmamhmpoinmnaaGreat
set_option linter.unusedVariables false
set_option linter.unusedSimpArgs false
namespace Go.Proofs.YtcmamhmpoinmnaaGreat
open Go Go.Wk Go.Proofs
def hasN (N : List (List Int)) (u : Int) (v : Nat) : Bool := match N[v]? with
 | some r => decide (u ∈ r)
 | none => false
def prevL (N : List (List Int)) (u : Int) (j : Nat) : List Int := ((List.range j).filter (hasN N u)).map Int.ofNat
theorem prevL_succ (N : List (List Int)) (u : Int) (j : Nat) : prevL N u (j + 1) = prevL N u j ++ (if hasN N u j = true then [(j : Int)] else []) := by
 unfold prevL
 rw [List.range_succ, List.filter_append, List.map_append]
 congr 1
 by_cases h : hasN N u j = true
 · rw [if_pos h, List.filter_cons, if_pos h]; rfl
 · rw [if_neg h, List.filter_cons, if_neg h]; rfl
theorem nodup_mapN : ∀ {xs : List Nat}, xs.Nodup → (xs.map Int.ofNat).Nodup
 | [], _ => by simp
 | x :: xs, h => by
  obtain ⟨h1, h2⟩ := List.nodup_cons.1 h
  rw [List.map_cons, List.nodup_cons]
  refine ⟨fun hm => ?_, nodup_mapN h2⟩
  obtain ⟨y, hy, e⟩ := List.mem_map.1 hm
  have : y = x := Int.ofNat.inj e
  exact h1 (this ▸ hy)
theorem prevL_len (N : List (List Int)) (u : Int) (j : Nat) : (prevL N u j).length ≤ j := by
 unfold prevL
 rw [List.length_map]
 exact Nat.le_trans (List.length_filter_le _ _) (by rw [List.length_range]; omega)
def PrevM (N : List (List Int)) (n j : Nat) (row : List Int) (i : Nat) (t : List (List Int)) : Prop := t.length = n ∧ ∀ u : Int, 0 ≤ u → u < n → idx t u = some (prevL N u j ++ (if u ∈ row.take i then [(j : Int)] else []))
def PrevT (N : List (List Int)) (n j : Nat) (t : List (List Int)) : Prop := t.length = n ∧ ∀ u : Int, 0 ≤ u → u < n → idx t u = some (prevL N u j)
theorem PrevT.zero {N : List (List Int)} {n : Nat} : PrevT N n 0 (List.replicate n []) := ⟨by simp, fun u u0 u1 => by
 rw [idx_int u0, List.getElem?_replicate, if_pos (by omega)]; rfl⟩
theorem PrevT.first {N : List (List Int)} {n j : Nat} {t : List (List Int)} (h : PrevT N n j t) (row : List Int) : PrevM N n j row 0 t := ⟨h.1, fun u u0 u1 => by rw [h.2 u u0 u1]; simp⟩
theorem PrevM.last {N : List (List Int)} {n j : Nat} {row : List Int} {t : List (List Int)} (hr : N[j]? = some row) (h : PrevM N n j row row.length t) : PrevT N n (j + 1) t := ⟨h.1, fun u u0 u1 => by
 rw [h.2 u u0 u1, prevL_succ, List.take_length]
 unfold hasN
 rw [hr]
 by_cases hu : u ∈ row <;> simp [hu]⟩
theorem PrevM.step {N : List (List Int)} {n j i : Nat} {row : List Int} {t : List (List Int)} {u : Int} (h : PrevM N n j row i t) (hu : row[i]? = some u) (hn : row.Nodup) (u0 : 0 ≤ u) (u1 : u < n) :
 ∃ old, idx t u = some old ∧ old.length ≤ j + 1 ∧ ∃ t', setI t u (old ++ [(j : Int)]) = some t' ∧ PrevM N n j row (i + 1) t' := by
 refine ⟨_, h.2 u u0 u1, ?_, ?_⟩
 · have := prevL_len N u j
   rw [List.length_append]
   split
   · simp; omega
   · simp; omega
 · have hnot : u ∉ row.take i := by
    have h2 := hn.sublist (List.take_sublist (i + 1) row)
    rw [List.take_add_one, hu, List.nodup_append] at h2
    exact fun hm => h2.2.2 u hm u (by simp) rfl
   obtain ⟨t', h1, h2⟩ := setI_some (xs := t) (i := u) (prevL N u j ++ (if u ∈ row.take i then [(j : Int)] else []) ++ [(j : Int)]) u0 (by rw [h.1]; exact u1)
   refine ⟨t', h1, by rw [h2]; exact h.1, fun w w0 w1 => ?_⟩
   have htk : row.take (i + 1) = row.take i ++ [u] := by rw [List.take_add_one, hu]; rfl
   rw [idx_setI h1, htk]
   by_cases e : w = u
   · subst e
     rw [if_pos rfl, if_neg hnot]
     simp
   · rw [if_neg e, h.2 w w0 w1]
     congr 2
     simp [e]
def marksL (B : List Bool) (j : Nat) : List Int := ((List.range j).filter (fun v => B[v]?.getD false)).map Int.ofNat
theorem marksL_nodup (B : List Bool) (j : Nat) : (marksL B j).Nodup := by
 unfold marksL
 exact nodup_mapN (List.nodup_range.filter _)
theorem marksL_len (B : List Bool) (j : Nat) : (marksL B j).length ≤ j := by
 unfold marksL
 rw [List.length_map]
 exact Nat.le_trans (List.length_filter_le _ _) (by rw [List.length_range]; omega)
theorem mem_marksL {B : List Bool} {v : Int} : v ∈ marksL B B.length ↔ In B v := by
 unfold marksL In
 rw [List.mem_map]
 constructor
 · rintro ⟨w, hw, rfl⟩
   obtain ⟨h1, h2⟩ := List.mem_filter.1 hw
   rw [List.mem_range] at h1
   rw [show (Int.ofNat w) = (w : Int) from rfl, idx_nat]
   have e : B[w]? = some B[w] := List.getElem?_eq_getElem h1
   rw [e] at h2 ⊢
   simpa using h2
 · intro h
   obtain ⟨h0, h1⟩ := idx_rng h
   obtain ⟨w, hw⟩ := ex_nat h0
   subst hw
   rw [idx_nat] at h
   exact ⟨w, List.mem_filter.2 ⟨List.mem_range.2 (by omega), by rw [h]; rfl⟩, rfl⟩
theorem nodup_sub {ys : List Int} : ∀ {xs : List Int}, xs.Nodup → (∀ x ∈ xs, x ∈ ys) → xs.length ≤ ys.length := by
 induction ys with
 | nil =>
  intro xs _ h
  cases xs with
  | nil => simp
  | cons x xs => exact absurd (h x (List.mem_cons_self ..)) (by simp)
 | cons y ys ih =>
  intro xs hn h
  by_cases hm : y ∈ xs
  · have h1 := List.length_erase_of_mem hm
    have h2 := ih (xs := xs.erase y) (hn.erase _) (fun x hx => by
     rw [hn.mem_erase_iff] at hx
     exact (List.mem_cons.1 (h x hx.2)).resolve_left hx.1)
    rw [List.length_cons]
    omega
  · have := ih (xs := xs) hn (fun x hx => (List.mem_cons.1 (h x hx)).resolve_left fun e => hm (e ▸ hx))
    rw [List.length_cons]
    omega
def cnt (B : List Bool) : Nat := (marksL B B.length).length
theorem cnt_le (B : List Bool) : cnt B ≤ B.length := marksL_len _ _
end Go.Proofs.YtcmamhmpoinmnaaGreat
set_option linter.unusedVariables false
set_option linter.unusedSimpArgs false
namespace Go.Proofs.YtcmamhmpoinmnaaGreat
open Go Go.Wk Go.Proofs
theorem fill {ρ α : Type} {f : Int → List α → Option (ρ ⊕ (List α ⊕ List α))} (val : Nat → α) (n : Nat) {s0 : List α} (h0 : s0.length = n)
 (step : ∀ (j : Nat) s, j < n → s.length = n → f (j : Int) s = Option.bind (idx s (j : Int)) fun _ => Option.bind (setI s (j : Int) (val j)) fun y => some (.inr (.inr y))) :
 ∃ s, cntM f n 0 s0 = some (.inr s) ∧ s.length = n ∧ ∀ j : Nat, j < n → idx s (j : Int) = some (val j) := by
 obtain ⟨s, h1, h2, h3⟩ := cnt_inv (f := f) (fun j (s : List α) => s.length = n ∧ ∀ i : Nat, i < j → idx s (i : Int) = some (val i)) n (s := s0) ⟨h0, fun i hi => absurd hi (Nat.not_lt_zero i)⟩ (fun j s hj ⟨q1, q2⟩ => by
  obtain ⟨old, ho⟩ := idx_some (xs := s) (i := (j : Int)) (by omega) (by omega)
  obtain ⟨s', hs, hl⟩ := setI_some (xs := s) (i := (j : Int)) (val j) (by omega) (by omega)
  rw [step j s hj q1, ho, Option.bind_some, hs, Option.bind_some]
  refine ⟨_, rfl, by omega, fun i hi => ?_⟩
  rw [idx_setI hs]
  by_cases e : (i : Int) = (j : Int)
  · have : i = j := by omega
    subst this
    rw [if_pos rfl]
  · rw [if_neg e]; exact q2 i (by omega))
 exact ⟨s, h1, h2, h3⟩
instance (B : List Bool) (v : Int) : Decidable (In B v) := by unfold In; exact inferInstance
theorem In_dec {B : List Bool} {v : Int} {b : Bool} (h : idx B v = some b) : b = decide (In B v) := by
 have : In B v ↔ b = true := by unfold In; rw [h]; simp
 rw [Bool.eq_iff_iff]; simp [this]
theorem In_get {B : List Bool} {v : Int} (h0 : 0 ≤ v) (h1 : v < B.length) : idx B v = some (decide (In B v)) := by
 obtain ⟨b, hb⟩ := idx_some (xs := B) h0 h1
 rw [← In_dec hb]; exact hb
theorem In_of {B : List Bool} {n : Nat} (hB : B.length = n) {v : Int} (h : In B v) : 0 ≤ v ∧ v < n := by
 have := idx_rng h
 rw [hB] at this
 exact this
end Go.Proofs.YtcmamhmpoinmnaaGreat
set_option linter.unusedVariables false
set_option linter.unusedSimpArgs false
namespace Go.Proofs.YtcmamhmpoinmnaaGreat
open Go Go.Wk Go.Proofs
open Classical
inductive Wy (sc : Int → List Int) (D : Int → Prop) : Int → Int → Prop
 | one {x} (h : ¬ D x) : Wy sc D x x
 | cons {x y z} (h : ¬ D x) (e : y ∈ sc x) (w : Wy sc D y z) : Wy sc D x z
namespace Wy
variable {sc bk : Int → List Int} {D D' : Int → Prop} {x y z : Int}
theorem first (w : Wy sc D x y) : ¬ D x := by cases w <;> assumption
theorem last (w : Wy sc D x y) : ¬ D y := by induction w <;> assumption
theorem trans (w : Wy sc D x y) (v : Wy sc D y z) : Wy sc D x z := by
 induction w with
 | one _ => exact v
 | cons h e _ ih => exact .cons h e (ih v)
theorem snoc (w : Wy sc D x y) (e : z ∈ sc y) (h : ¬ D z) : Wy sc D x z := w.trans (.cons w.last e (.one h))
theorem mono (h : ∀ x, D' x → D x) (w : Wy sc D x y) : Wy sc D' x y := by
 induction w with
 | one k => exact .one fun d => k (h _ d)
 | cons k e _ ih => exact .cons (fun d => k (h _ d)) e ih
theorem rev (hb : ∀ x y, y ∈ bk x → x ∈ sc y) (w : Wy bk D x y) : Wy sc D y x := by
 induction w with
 | one k => exact .one k
 | cons k e _ ih => exact ih.snoc (hb _ _ e) k
theorem closed {T : Int → Prop} (hT : ∀ a b, T a → b ∈ sc a → ¬ D b → T b) (w : Wy sc D x y) (hx : T x) : T y := by
 induction w with
 | one _ => exact hx
 | cons _ e w ih => exact ih (hT _ _ hx e w.first)
theorem either {T : Int → Prop} (hT : ∀ a b, T a → b ∈ sc a → ¬ D b → T b) (w : Wy sc D x y) : T y ∨ Wy sc (fun a => D a ∨ T a) x y := by
 induction w with
 | @one x k =>
  by_cases t : T x
  · exact .inl t
  · exact .inr (.one fun h => h.elim k t)
 | @cons x y z k e w ih =>
  rcases ih with ih | ih
  · exact .inl ih
  · by_cases t : T x
    · exact .inl (w.closed hT (hT _ _ t e w.first))
    · exact .inr (.cons (fun h => h.elim k t) e ih)
theorem avoid {u : Int} (w : Wy sc D x y) : Wy sc D x u ∨ Wy sc (fun a => D a ∨ a = u) x y := by
 induction w with
 | @one x k =>
  by_cases t : x = u
  · subst t; exact .inl (.one k)
  · exact .inr (.one fun h => h.elim k t)
 | @cons x y z k e w ih =>
  rcases ih with ih | ih
  · exact .inl (.cons k e ih)
  · by_cases t : x = u
    · subst t; exact .inl (.one k)
    · exact .inr (.cons (fun h => h.elim k t) e ih)
end Wy
inductive Dfs (sc : Int → List Int) : (Int → Prop) → List Int → List Int → Prop
 | nil {D} : Dfs sc D [] []
 | skip {D u us S} (h : D u) (k : Dfs sc D us S) : Dfs sc D (u :: us) S
 | step {D u us S1 S2} (h : ¬ D u) (k1 : Dfs sc (fun x => D x ∨ x = u) (sc u) S1) (k2 : Dfs sc (fun x => D x ∨ x = u ∨ x ∈ S1) us S2) : Dfs sc D (u :: us) (S1 ++ u :: S2)
namespace Dfs
variable {sc bk : Int → List Int} {D : Int → Prop} {us S : List Int}
theorem out (k : Dfs sc D us S) : ∀ x ∈ S, ¬ D x := by
 induction k with
 | nil => intro x h; cases h
 | skip _ _ ih => exact ih
 | step h _ _ i1 i2 =>
  intro x hx
  rcases List.mem_append.1 hx with hx | hx
  · exact fun d => i1 x hx (.inl d)
  · rcases List.mem_cons.1 hx with e | hx
    · subst e; exact h
    · exact fun d => i2 x hx (.inl d)
theorem nodup (k : Dfs sc D us S) : S.Nodup := by
 induction k with
 | nil => exact List.nodup_nil
 | skip _ _ ih => exact ih
 | step h k1 k2 i1 i2 =>
  refine List.nodup_append.2 ⟨i1, List.nodup_cons.2 ⟨fun hm => k2.out _ hm (.inr (.inl rfl)), i2⟩, fun a ha b hb e => ?_⟩
  subst e
  rcases List.mem_cons.1 hb with e | hb
  · exact k1.out _ ha (.inr e)
  · exact k2.out _ hb (.inr (.inr ha))
theorem clo (k : Dfs sc D us S) : (∀ u ∈ us, D u ∨ u ∈ S) ∧ ∀ x ∈ S, ∀ y ∈ sc x, D y ∨ y ∈ S := by
 induction k with
 | nil => exact ⟨fun u h => (by cases h), fun u h => (by cases h)⟩
 | skip h _ ih =>
  refine ⟨fun u hu => ?_, ih.2⟩
  rcases List.mem_cons.1 hu with e | hu
  · subst e; exact .inl h
  · exact ih.1 u hu
 | @step D u us S1 S2 h k1 k2 i1 i2 =>
  have c1 : ∀ y, (D y ∨ y = u) ∨ y ∈ S1 → D y ∨ y ∈ S1 ++ u :: S2 := fun y hy => by
   rcases hy with (d | e) | m
   · exact .inl d
   · subst e; exact .inr (by simp)
   · exact .inr (by simp [m])
  have c2 : ∀ y, (D y ∨ y = u ∨ y ∈ S1) ∨ y ∈ S2 → D y ∨ y ∈ S1 ++ u :: S2 := fun y hy => by
   rcases hy with (d | e | m) | m
   · exact .inl d
   · subst e; exact .inr (by simp)
   · exact .inr (by simp [m])
   · exact .inr (by simp [m])
  refine ⟨fun x hx => ?_, fun x hx y hy => ?_⟩
  · rcases List.mem_cons.1 hx with e | hx
    · subst e; exact .inr (by simp)
    · exact c2 _ (i2.1 x hx)
  · rcases List.mem_append.1 hx with hx | hx
    · exact c1 _ (i1.2 x hx y hy)
    · rcases List.mem_cons.1 hx with e | hx
      · subst e; exact c1 _ (i1.1 y hy)
      · exact c2 _ (i2.2 x hx y hy)
theorem sound (k : Dfs sc D us S) : ∀ x ∈ S, ∃ u ∈ us, Wy sc D u x := by
 induction k with
 | nil => intro x h; cases h
 | skip _ _ ih =>
  intro x hx
  obtain ⟨u, h1, h2⟩ := ih x hx
  exact ⟨u, List.mem_cons_of_mem _ h1, h2⟩
 | @step D u us S1 S2 h k1 k2 i1 i2 =>
  intro x hx
  rcases List.mem_append.1 hx with hx | hx
  · obtain ⟨c, h1, h2⟩ := i1 x hx
    exact ⟨u, by simp, .cons h h1 (h2.mono fun _ d => .inl d)⟩
  · rcases List.mem_cons.1 hx with e | hx
    · subst e; exact ⟨x, by simp, .one h⟩
    · obtain ⟨c, h1, h2⟩ := i2 x hx
      exact ⟨c, List.mem_cons_of_mem _ h1, h2.mono fun _ d => .inl d⟩
theorem mem_iff (k : Dfs sc D us S) (x : Int) : x ∈ S ↔ ∃ u ∈ us, Wy sc D u x := by
 refine ⟨k.sound x, fun ⟨u, h1, h2⟩ => ?_⟩
 have hT : ∀ a b, a ∈ S → b ∈ sc a → ¬ D b → b ∈ S := fun a b ha hb hd => (k.clo.2 a ha b hb).resolve_left hd
 exact h2.closed (T := fun a => a ∈ S) hT ((k.clo.1 u h1).resolve_left h2.first)
theorem kos (k : Dfs sc D us S) : ∀ x ∈ S, ∀ v, Wy sc D x v → ∃ x', Wy sc D x x' ∧ Wy sc D x' x ∧ ∃ A B, S = A ++ x' :: B ∧ (v ∈ A ∨ v = x') := by
 induction k with
 | nil => intro x h; cases h
 | skip _ _ ih => exact ih
 | @step D u us S1 S2 h k1 k2 i1 i2 =>
  intro x hx v w
  have hT : ∀ a b, (a ∈ S1 ∨ a = u) → b ∈ sc a → ¬ D b → (b ∈ S1 ∨ b = u) := fun a b ha hb hd => by
   have : (D b ∨ b = u) ∨ b ∈ S1 := by
    rcases ha with ha | ha
    · exact k1.clo.2 a ha b hb
    · subst ha; exact k1.clo.1 b hb
   rcases this with (d | e) | m
   · exact absurd d hd
   · exact .inr e
   · exact .inl m
  have atU : Wy sc D x u → (x ∈ S1 ∨ x = u) → ∃ x', Wy sc D x x' ∧ Wy sc D x' x ∧ ∃ A B, S1 ++ u :: S2 = A ++ x' :: B ∧ (v ∈ A ∨ v = x') := fun wu hx' => by
   refine ⟨u, wu, ?_, S1, S2, rfl, w.closed (T := fun a => a ∈ S1 ∨ a = u) hT hx'⟩
   rcases hx' with m | e
   · obtain ⟨c, h1, h2⟩ := k1.sound x m
     exact .cons h h1 (h2.mono fun _ d => .inl d)
   · subst e; exact .one h
  rcases List.mem_append.1 hx with m | m
  · by_cases wu : Wy sc D x u
    · exact atU wu (.inl m)
    · rcases w.avoid (u := u) with k | k
      · exact absurd k wu
      · obtain ⟨x', w1, w2, A, B, e, hv⟩ := i1 x m v k
        exact ⟨x', w1.mono fun _ d => .inl d, w2.mono fun _ d => .inl d, A, B ++ u :: S2, by rw [e]; simp, hv⟩
  · rcases List.mem_cons.1 m with e | m
    · subst e; exact atU (.one w.first) (.inr rfl)
    · rcases w.either (T := fun a => a ∈ S1 ∨ a = u) hT with t | t
      · obtain ⟨A, B, e⟩ := List.append_of_mem m
        refine ⟨x, .one w.first, .one w.first, S1 ++ u :: A, B, by rw [e]; simp, .inl ?_⟩
        rcases t with t | t
        · simp [t]
        · simp [t]
      · have t' : Wy sc (fun a => D a ∨ a = u ∨ a ∈ S1) x v := t.mono fun a ha => by
         rcases ha with d | e | s
         · exact .inl d
         · exact .inr (.inr e)
         · exact .inr (.inl s)
        obtain ⟨x', w1, w2, A, B, e, hv⟩ := i2 x m v t'
        refine ⟨x', w1.mono fun _ d => .inl d, w2.mono fun _ d => .inl d, S1 ++ u :: A, B, by rw [e]; simp, ?_⟩
        rcases hv with hv | hv
        · exact .inl (by simp [hv])
        · exact .inr hv
end Dfs
inductive Kos (bk : Int → List Int) : (Int → Prop) → List Int → List (List Int) → Prop
 | nil {D} : Kos bk D [] []
 | skip {D v R P} (h : D v) (k : Kos bk D R P) : Kos bk D (v :: R) P
 | step {D v R S P} (h : ¬ D v) (d : Dfs bk D [v] S) (k : Kos bk (fun x => D x ∨ x ∈ S) R P) : Kos bk D (v :: R) (S :: P)
def noV : Int → Prop := fun _ => False
def Akin (sc : Int → List Int) (x y : Int) : Prop := Wy sc noV x y ∧ Wy sc noV y x
section
variable {sc bk : Int → List Int}
theorem Akin.refl (x : Int) : Akin sc x x := ⟨.one id, .one id⟩
theorem Akin.symm {x y : Int} (h : Akin sc x y) : Akin sc y x := ⟨h.2, h.1⟩
theorem Akin.trans {x y z : Int} (h : Akin sc x y) (k : Akin sc y z) : Akin sc x z := ⟨h.1.trans k.1, k.2.trans h.2⟩
theorem ahead {Q R A B : List Int} {v y : Int} (hn : (Q ++ v :: R).Nodup) (e : Q ++ v :: R = B ++ y :: A) (h : v ∈ A) : y ∈ Q := by
 have hy : y ∈ Q ++ v :: R := by rw [e]; simp
 rcases List.mem_append.1 hy with m | m
 · exact m
 · exfalso
   have h1 : (B ++ y :: A).Nodup := by rw [← e]; exact hn
   obtain ⟨n1, n2, n3⟩ := List.nodup_append.1 hn
   obtain ⟨m1, m2, m3⟩ := List.nodup_append.1 h1
   have hB : v ∉ B := fun hv => m3 v hv v (List.mem_cons_of_mem _ h) rfl
   -- v stands in A, so B ++ [y] is ahead of it: it is a part of Q
   rcases List.append_eq_append_iff.1 e with ⟨T, e1, e2⟩ | ⟨T, e1, e2⟩
   · cases T with
     | nil =>
      rw [List.nil_append] at e2
      injection e2 with e3 e4
      subst e3
      exact (List.nodup_cons.1 m2).1 h
     | cons t T =>
      injection e2 with e3 e4
      subst e3
      exact hB (by rw [e1]; simp)
   · cases T with
     | nil =>
      rw [List.nil_append] at e2
      injection e2 with e3 e4
      subst e3
      exact (List.nodup_cons.1 m2).1 h
     | cons t T =>
      injection e2 with e3 e4
      subst e3
      exact n3 y (by rw [e1]; simp) y m rfl
theorem kos_parts {L : List Int} (hb : ∀ x y, y ∈ bk x ↔ x ∈ sc y) {vs : List Int} (hd : Dfs sc noV vs L) (hL : ∀ a b, b ∈ sc a → a ∈ L) :
 ∀ (D : Int → Prop) (R : List Int) (P : List (List Int)), Kos bk D R P → ∀ Q, L.reverse = Q ++ R → (∀ x, D x ↔ ∃ q ∈ Q, Akin sc q x) →
 (∀ S ∈ P, S.Nodup ∧ ∃ v ∈ R, (¬ D v) ∧ ∀ x, x ∈ S ↔ Akin sc v x) ∧ (∀ v ∈ R, D v ∨ ∃ S ∈ P, v ∈ S) ∧ P.Pairwise (fun S T => ∀ x ∈ S, x ∉ T) ∧ ∀ S ∈ P, ∀ x ∈ S, ¬ D x := by
 intro D R P hk
 induction hk with
 | nil => exact fun Q _ _ => ⟨fun S h => (by cases h), fun S h => (by cases h), List.Pairwise.nil, fun S h => by cases h⟩
 | @skip D v R P h k ih =>
  intro Q hQ hD
  obtain ⟨a1, a2, a3, a4⟩ := ih (Q ++ [v]) (by rw [hQ]; simp) (fun x => by
   rw [hD]
   refine ⟨fun ⟨q, h1, h2⟩ => ⟨q, by simp [h1], h2⟩, fun ⟨q, h1, h2⟩ => ?_⟩
   rcases List.mem_append.1 h1 with m | m
   · exact ⟨q, m, h2⟩
   · rw [List.mem_singleton] at m
     subst m
     obtain ⟨p, h3, h4⟩ := (hD q).1 h
     exact ⟨p, h3, h4.trans h2⟩)
  refine ⟨fun S hS => ?_, fun x hx => ?_, a3, a4⟩
  · obtain ⟨h1, y, h2, h3⟩ := a1 S hS
    exact ⟨h1, y, List.mem_cons_of_mem _ h2, h3⟩
  · rcases List.mem_cons.1 hx with e | hx
    · subst e; exact .inl h
    · exact a2 x hx
 | @step D v R S P h d k ih =>
  intro Q hQ hD
  have hvL : v ∈ L := by
   have : v ∈ L.reverse := by rw [hQ]; simp
   exact List.mem_reverse.1 this
  have hS : ∀ x, x ∈ S ↔ Akin sc v x := fun x => by
   rw [d.mem_iff]
   constructor
   · rintro ⟨u, hu, w⟩
     rw [List.mem_singleton] at hu
     subst hu
     have w' := w.rev (sc := sc) (fun a b e => (hb a b).1 e)
     have hx : x ∈ L := by
      cases w' with
      | one _ => exact hvL
      | cons _ e _ => exact hL _ _ e
     obtain ⟨x', w1, w2, A, B, e, hv⟩ := hd.kos x hx u (w'.mono fun _ f => f.elim)
     rcases hv with hv | hv
     · exfalso
       have e' : Q ++ u :: R = B.reverse ++ x' :: A.reverse := by rw [← hQ, e]; simp
       have hn : (Q ++ u :: R).Nodup := by rw [← hQ]; exact (List.reverse_perm L).nodup_iff.2 hd.nodup
       have hq := ahead hn e' (List.mem_reverse.2 hv)
       exact w.last ((hD x).2 ⟨x', hq, w2, w1⟩)
     · subst hv; exact ⟨w2, w1⟩
   · intro hx
     refine ⟨v, by simp, ?_⟩
     have nD : ∀ y, Akin sc v y → ¬ D y := fun y hy hd' => by
      obtain ⟨q, h1, h2⟩ := (hD y).1 hd'
      exact h ((hD v).2 ⟨q, h1, h2.trans hy.symm⟩)
     have key : ∀ {a b : Int}, Wy sc noV a b → Wy sc noV b a → Akin sc v b → Wy sc D a b := fun {a b} w => by
      induction w with
      | one _ => exact fun _ hb' => .one (nD _ hb')
      | @cons a c b h e w ih => exact fun w' hb' => .cons (nD _ (hb'.trans ⟨w', .cons h e w⟩)) e (ih (w'.snoc e id) hb')
     exact (key hx.2 hx.1 (Akin.refl v)).rev fun a b e => (hb b a).2 e
  obtain ⟨a1, a2, a3, a4⟩ := ih (Q ++ [v]) (by rw [hQ]; simp) (fun x => by
   show (D x ∨ x ∈ S) ↔ _
   rw [hD, hS]
   constructor
   · rintro (⟨q, h1, h2⟩ | h2)
     · exact ⟨q, by simp [h1], h2⟩
     · exact ⟨v, by simp, h2⟩
   · rintro ⟨q, h1, h2⟩
     rcases List.mem_append.1 h1 with m | m
     · exact .inl ⟨q, m, h2⟩
     · rw [List.mem_singleton] at m
       subst m; exact .inr h2)
  refine ⟨fun T hT => ?_, fun x hx => ?_, List.pairwise_cons.2 ⟨fun T hT x hx hx' => a4 T hT x hx' (.inr hx), a3⟩, fun T hT x hx hx' => ?_⟩
  · rcases List.mem_cons.1 hT with e | hT
    · subst e
      exact ⟨d.nodup, v, by simp, h, hS⟩
    · obtain ⟨h1, y, h2, h3, h4⟩ := a1 T hT
      exact ⟨h1, y, List.mem_cons_of_mem _ h2, fun k => h3 (.inl k), h4⟩
  · rcases List.mem_cons.1 hx with e | hx
    · subst e; exact .inr ⟨S, by simp, (hS x).2 (Akin.refl x)⟩
    · rcases a2 x hx with (k | k) | ⟨T, h1, h2⟩
      · exact .inl k
      · exact .inr ⟨S, by simp, k⟩
      · exact .inr ⟨T, List.mem_cons_of_mem _ h1, h2⟩
  · rcases List.mem_cons.1 hT with e | hT
    · subst e; exact d.out x hx hx'
    · exact a4 T hT x hx (.inl hx')
end
end Go.Proofs.YtcmamhmpoinmnaaGreat
set_option linter.unusedVariables false
set_option linter.unusedSimpArgs false
namespace Go.Proofs.YtcmamhmpoinmnaaGreat
open Go Go.Wk Go.Proofs
open Classical
def Mk (n : Nat) (d : List Bool) (S : List Int) (d' : List Bool) : Prop := d'.length = n ∧ ∀ x, In d' x ↔ In d x ∨ x ∈ S
theorem Mk.cnt {n : Nat} {d d' : List Bool} {S : List Int} (h : Mk n d S d') (hn : S.Nodup) (hd : ∀ x ∈ S, ¬ In d x) : cnt d + S.length ≤ cnt d' := by
 have h1 : (marksL d d.length ++ S).Nodup := List.nodup_append.2 ⟨marksL_nodup _ _, hn, fun a ha b hb e => hd b hb (e ▸ mem_marksL.1 ha)⟩
 have := nodup_sub h1 (ys := marksL d' d'.length) (fun x hx => mem_marksL.2 ((h.2 x).2 ((List.mem_append.1 hx).imp mem_marksL.1 id)))
 rw [List.length_append] at this
 exact this
theorem Mk.eq {n : Nat} {d d' : List Bool} {S : List Int} (h : Mk n d S d') : In d' = fun x => In d x ∨ x ∈ S := funext fun x => propext (h.2 x)
theorem Dfs.nil_eq {sc : Int → List Int} {D : Int → Prop} {S : List Int} (k : Dfs sc D [] S) : S = [] := by cases k; rfl
theorem Dfs.cat {sc : Int → List Int} {D : Int → Prop} {u : Int} {us S T : List Int} (h : ¬ D u) (k : Dfs sc D [u] S) (k2 : Dfs sc (fun x => D x ∨ x ∈ S) us T) : Dfs sc D (u :: us) (S ++ T) := by
 generalize e : [u] = l at k
 cases k with
 | nil => cases e
 | skip h' _ =>
  injection e with e1 _
  subst e1; exact absurd h' h
 | @step _ _ _ S1 S2 h' k1 k3 =>
  injection e with e1 e2
  subst e1 e2
  have e3 := k3.nil_eq
  subst e3
  have e4 : (fun x => D x ∨ x ∈ S1 ++ [u]) = fun x => D x ∨ x = u ∨ x ∈ S1 := funext fun x => propext (by simp only [List.mem_append, List.mem_singleton]; constructor <;> (rintro (h | h | h) <;> simp [h]))
  rw [e4] at k2
  have := Dfs.step h k1 k2
  simpa using this
theorem idxB {B : List Bool} {v : Int} (h : ¬ In B v) (h0 : 0 ≤ v) (h1 : v < B.length) : idx B v = some false := by rw [In_get h0 h1, decide_eq_false h]
theorem setT {d : List Bool} {n : Nat} {v : Int} (hd : d.length = n) (h0 : 0 ≤ v) (h1 : v < n) : ∃ y, setI d v true = some y ∧ Mk n d [v] y := by
 obtain ⟨y, hy, hl⟩ := setI_some (xs := d) (i := v) true h0 (by omega)
 refine ⟨y, hy, by omega, fun x => ?_⟩
 unfold In
 rw [idx_setI hy, List.mem_singleton]
 by_cases e : x = v
 · rw [if_pos e]; simp [e]
 · rw [if_neg e]; simp [e]
abbrev VS := List Int × List Bool
theorem dfs_loop {ρ : Type} {f : Int → VS → Option (ρ ⊕ (VS ⊕ VS))} {sc : Int → List Int} {M : List Bool} {n c0 : Nat} :
 ∀ (us : List Int) (j : Nat) (ord : List Int) (d : List Bool),
 (∀ (i : Nat) u ord d, us[i]? = some u → d.length = n → ord.length ≤ cnt d → c0 ≤ cnt d →
  (¬ (In M u ∧ ¬ In d u) → f ((j + i : Nat) : Int) (ord, d) = some (.inr (.inr (ord, d)))) ∧
  (In M u → ¬ In d u → ∃ S d', f ((j + i : Nat) : Int) (ord, d) = some (.inr (.inr (ord ++ S, d'))) ∧ Mk n d S d' ∧ Dfs sc (In d) [u] S)) →
 d.length = n → ord.length ≤ cnt d → c0 ≤ cnt d →
 ∃ S d', cntM f us.length (j : Int) (ord, d) = some (.inr (ord ++ S, d')) ∧ Mk n d S d' ∧ Dfs sc (In d) (us.filter (fun u => decide (In M u))) S
 | [], j, ord, d, _, hd, _, _ => ⟨[], d, by rw [List.append_nil]; rfl, ⟨hd, fun x => by simp⟩, .nil⟩
 | u :: us, j, ord, d, h, hd, ho, hc => by
  obtain ⟨h1, h2⟩ := h 0 u ord d rfl hd ho hc
  have hr : ∀ (i : Nat) w ord d, us[i]? = some w → d.length = n → ord.length ≤ cnt d → c0 ≤ cnt d →
   (¬ (In M w ∧ ¬ In d w) → f (((j + 1) + i : Nat) : Int) (ord, d) = some (.inr (.inr (ord, d)))) ∧
   (In M w → ¬ In d w → ∃ S d', f (((j + 1) + i : Nat) : Int) (ord, d) = some (.inr (.inr (ord ++ S, d'))) ∧ Mk n d S d' ∧ Dfs sc (In d) [w] S) := fun i w ord d hw => by
   have := h (i + 1) w ord d (by simpa using hw)
   rw [show j + (i + 1) = (j + 1) + i from by omega] at this
   exact this
  by_cases hm : In M u ∧ ¬ In d u
  · obtain ⟨S, d1, e1, m1, k1⟩ := h2 hm.1 hm.2
    have hcn := m1.cnt k1.nodup k1.out
    obtain ⟨T, d2, e2, m2, k2⟩ := dfs_loop us (j + 1) (ord ++ S) d1 hr m1.1 (by rw [List.length_append]; omega) (by omega)
    refine ⟨S ++ T, d2, ?_, ⟨m2.1, fun x => ?_⟩, ?_⟩
    · show Option.bind (f (j : Int) (ord, d)) _ = _
      have e1' : f (j : Int) (ord, d) = _ := e1
      rw [e1', Option.bind_some]
      show cntM f us.length ((j : Int) + 1) (ord ++ S, d1) = _
      have : ((j : Int) + 1) = ((j + 1 : Nat) : Int) := rfl
      rw [this, e2, List.append_assoc]
    · rw [m2.2, m1.2, List.mem_append, or_assoc]
    · rw [List.filter_cons, if_pos (by simpa using hm.1)]
      rw [m1.eq] at k2
      exact Dfs.cat hm.2 k1 k2
  · obtain ⟨T, d2, e2, m2, k2⟩ := dfs_loop us (j + 1) ord d hr hd ho hc
    refine ⟨T, d2, ?_, m2, ?_⟩
    · show Option.bind (f (j : Int) (ord, d)) _ = _
      have e1' : f (j : Int) (ord, d) = _ := h1 hm
      rw [e1', Option.bind_some]
      exact e2
    · rw [List.filter_cons]
      by_cases hu : In M u
      · rw [if_pos (by simpa using hu)]
        exact .skip (Classical.byContradiction fun hn => hm ⟨hu, hn⟩) k2
      · rw [if_neg (by simpa using hu)]
        exact k2
theorem vis_same : ∀ m, i_loopsIn_1__i_loopsIn_3__i_loopsIn_1 m = i_loopsIn_1__i_loopsIn_2__i_loopsIn_1 m
 | 0 => rfl
 | m + 1 => by
  show i_loopsIn_1__i_loopsIn_3__i_loopsIn_1_s (i_loopsIn_1__i_loopsIn_3__i_loopsIn_1 m) = i_loopsIn_1__i_loopsIn_2__i_loopsIn_1_s (i_loopsIn_1__i_loopsIn_2__i_loopsIn_1 m)
  rw [vis_same m]; rfl
theorem vis_ok {T : List (List Int)} {M : List Bool} {n : Nat} {sc : Int → List Int} (hT : T.length = n) (hM : M.length = n) (hn : n ≤ 256)
 (hr : ∀ v row, idx T v = some row → ∀ u ∈ row, 0 ≤ u ∧ u < n) (hs : ∀ v row, In M v → idx T v = some row → sc v = row.filter (fun u => decide (In M u))) :
 ∀ (m : Nat) (v : Int) (ord : List Int) (d : List Bool), In M v → ¬ In d v → d.length = n → ord.length ≤ cnt d → n < m + cnt d →
 ∃ S d', i_loopsIn_1__i_loopsIn_2__i_loopsIn_1 m v T ord d M = some (ord ++ S, d') ∧ Mk n d S d' ∧ Dfs sc (In d) [v] S
 | 0, v, ord, d, _, _, hd, _, hm => absurd hm (by have := cnt_le d; omega)
 | m + 1, v, ord, d, hv, hdv, hd, ho, hm => by
  obtain ⟨v0, v1⟩ := In_of hM hv
  obtain ⟨y, hy, my⟩ := setT hd v0 v1
  obtain ⟨row, hrow⟩ := idx_some (xs := T) (i := v) v0 (by omega)
  have hcy := my.cnt (by simp) (fun x hx => by rw [List.mem_singleton] at hx; subst hx; exact hdv)
  simp only [List.length_cons, List.length_nil] at hcy
  have hcl := cnt_le y
  obtain ⟨S, d1, e1, m1, k1⟩ := dfs_loop (f := i_loopsIn_1__i_loopsIn_2__i_loopsIn_1_b0 (i_loopsIn_1__i_loopsIn_2__i_loopsIn_1 m) T M row) (sc := sc) (M := M) (n := n) (c0 := cnt y) row 0 ord y (fun i u ord d hu hd ho hc => by
   obtain ⟨u0, u1⟩ := hr v row hrow u (List.mem_of_getElem? hu)
   unfold i_loopsIn_1__i_loopsIn_2__i_loopsIn_1_b0
   rw [Nat.zero_add, idx_nat, hu, Option.bind_some, In_get (B := M) u0 (by omega), Option.bind_some, In_get (B := d) u0 (by omega)]
   refine ⟨fun hno => ?_, fun h1 h2 => ?_⟩
   · by_cases h1 : In M u
     · have h2 : In d u := Classical.byContradiction fun h => hno ⟨h1, h⟩
       simp only [decide_eq_true h1, decide_eq_true h2, cond_true, Option.bind_some, Bool.not_true, cond_false]
     · simp only [decide_eq_false h1, cond_false, Option.bind_some]
   · obtain ⟨S, d', e, mk, k⟩ := vis_ok hT hM hn hr hs m u ord d h1 h2 hd ho (by omega)
     refine ⟨S, d', ?_, mk, k⟩
     simp only [decide_eq_true h1, decide_eq_false h2, cond_true, Option.bind_some, Bool.not_false, e]) my.1 (by omega) (Nat.le_refl _)
  have hc1 := m1.cnt k1.nodup k1.out
  have hcl1 := cnt_le d1
  have hdl : d1.length = n := m1.1
  refine ⟨S ++ [v], d1, ?_, ⟨m1.1, fun x => ?_⟩, ?_⟩
  · show i_loopsIn_1__i_loopsIn_2__i_loopsIn_1_s (i_loopsIn_1__i_loopsIn_2__i_loopsIn_1 m) v T ord d M = _
    unfold i_loopsIn_1__i_loopsIn_2__i_loopsIn_1_s
    rw [idxB hdv v0 (by omega), Option.bind_some, hy, Option.bind_some, hrow, Option.bind_some]
    have e1' : cntM (i_loopsIn_1__i_loopsIn_2__i_loopsIn_1_b0 (i_loopsIn_1__i_loopsIn_2__i_loopsIn_1 m) T M row) row.length 0 (ord, y) = _ := e1
    rw [e1', Option.bind_some, aft_inr]
    unfold i_loopsIn_2
    dsimp only
    rw [app1 (by rw [List.length_append]; omega) rfl, Option.bind_some, Option.bind_some, List.append_assoc]
  · rw [m1.2, my.2, List.mem_append, List.mem_singleton]
    constructor
    · rintro ((h | h) | h)
      · exact .inl h
      · exact .inr (.inr h)
      · exact .inr (.inl h)
    · rintro (h | h | h)
      · exact .inl (.inl h)
      · exact .inr h
      · exact .inl (.inr h)
  · rw [← hs v row hv hrow, my.eq] at k1
    have e4 : (fun x => In d x ∨ x ∈ [v]) = fun x => In d x ∨ x = v := funext fun x => propext (by rw [List.mem_singleton])
    rw [e4] at k1
    exact Dfs.step hdv k1 .nil
end Go.Proofs.YtcmamhmpoinmnaaGreat
