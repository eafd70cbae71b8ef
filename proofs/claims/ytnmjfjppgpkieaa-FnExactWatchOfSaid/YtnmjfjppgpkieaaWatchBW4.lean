/- The product of a machine and an automaton: both sides build the same. -/
import Derived.Test.YtnmjfjppgpkieaaWatchAW4
set_option linter.unusedVariables false
set_option linter.unusedSimpArgs false
namespace Go.Proofs.Ytnmjfjppgpkieaa
open Go Go.Wk Go.Proofs

abbrev WT := List Key × Int × List (List Int) × List (List Int) × List (Key × Int)
abbrev WS := Int × List Int × List Int × List (List Int) × List (List Int)
def toS (t : WT) : WS := (t.2.1, t.1.map (·.1), t.1.map (·.2), t.2.2.1, t.2.2.2.1)
def InvW (m : Machine) (d : Det) (k : Nat) (t : WT) : Prop := Kin m.Next.length d.Next.length t.1 ∧ 0 ≤ t.2.1 ∧ t.2.1 ≤ t.1.length ∧ (t.2.2.1.length : Int) = t.2.1 ∧ (t.2.2.2.1.length : Int) = t.2.1 ∧ (∀ r ∈ t.2.2.1, r.length = k) ∧ t.2.2.2.2 = ixm 0 t.1 ∧ t.1.length ≤ 256
section
variable {p : Sig} {m : Machine} {d : Det} (hs : sigOk p = true) (hm : machOk p m = true) (hd : detOk p d = true) {k : Nat} (hk : pw p.In = (k : Int))
include hs hm hd hk
theorem i_rowW {q r : Int} (q0 : 0 ≤ q) (q1 : q < m.Next.length) (r0 : 0 ≤ r) (r1 : r < d.Next.length) {K : List Key} (hK : Kin m.Next.length d.Next.length K) (hl : K.length ≤ 1000) {x42 x47 : Key} (e1 : x42.1 = q) (e2 : x47.2 = r) {row : List Int} (e3 : idx m.Next q = some row) :
    cntM (i_watchOf_b2 p m d x42 x47 row) k 0 (K, [], [], ixm 0 K) = some (.inr ((rowW m d (pw p.In) q r K k).1, (rowW m d (pw p.In) q r K k).2.1, (rowW m d (pw p.In) q r K k).2.2, ixm 0 (rowW m d (pw p.In) q r K k).1)) := by
  obtain ⟨m1, m2, m3, m4, m5⟩ := machOk_spec hm
  obtain ⟨d1, d2, _, _⟩ := detOk_spec hd
  obtain ⟨s', h1, h2⟩ := cnt_inv (f := i_watchOf_b2 p m d x42 x47 row) (fun j s => s = ((rowW m d (pw p.In) q r K j).1, (rowW m d (pw p.In) q r K j).2.1, (rowW m d (pw p.In) q r K j).2.2, ixm 0 (rowW m d (pw p.In) q r K j).1)) k (s := (K, [], [], ixm 0 K)) rfl (fun j s hj hI => by
    subst hI
    obtain ⟨g1, g2, g3, g4, g5, g6⟩ := rowW_in hm hd q0 q1 r0 r1 hK j (by omega)
    obtain ⟨a, b, c, k1, k2, k3, k4, k5, k6, k7, k8, k9, k10, k11, k12⟩ := keyW_in hm hd q0 q1 r0 r1 (j := (j : Int)) (by omega) (by omega)
    rw [e3] at k1
    cases k1
    refine ⟨_, ?_, rfl⟩
    rw [rowW_succ]
    have hpw := pw_le p.In
    have hlt : 0 ≤ tab m.Out q j * pw p.In ∧ tab m.Out q j * pw p.In ≤ 16 := by
      have hp : pw p.In = 2 ∨ pw p.In = 4 := by unfold pw; split <;> simp
      rcases hp with hp | hp <;> rw [hp] <;> omega
    unfold i_watchOf_b2
    rw [e1, e2, k2, Option.bind_some, k3, Option.bind_some, k4, Option.bind_some, i_inputsOf_eq hs, Option.bind_some, k5, Option.bind_some, wr' (z := tab m.Out q j * pw p.In) (by omega) (by omega), wr' (by omega) (by omega), k6, Option.bind_some]
    have hw : kwI2 (keyW m d (pw p.In) q r j) = true := kw_in k9 (by omega) k11 (by omega)
    unfold stepW
    generalize rowW m d (pw p.In) q r K j = F at *
    generalize keyW m d (pw p.In) q r j = u at *
    dsimp only
    rw [show ((u.1, u.2) : Key) = u from rfl, mget_ixm F.1 hw, Option.bind_some]
    unfold addK atK
    cases hloc : loc F.1 u with
    | some i =>
      simp only [Bool.not_true, cond_false, Option.bind_some]
      rw [app1 (by omega) rfl, Option.bind_some, app1 (by omega) rfl]
      rfl
    | none =>
      simp only [Bool.not_false, cond_true]
      rw [mset_ixm hw hloc, Option.bind_some, app1 (by omega) rfl, Option.bind_some, Option.bind_some]
      dsimp only
      rw [app1 (by omega) rfl, Option.bind_some, app1 (by omega) rfl]
      rfl)
  rw [h1, h2]
theorem s_rowW {q r : Int} (q0 : 0 ≤ q) (q1 : q < m.Next.length) (r0 : 0 ≤ r) (r1 : r < d.Next.length) {K : List Key} (hK : Kin m.Next.length d.Next.length K) (hl : K.length ≤ 1000) {s1 : WS} {i : Nat} (hi : s1.1 = (i : Int)) (hq : K[i]? = some (q, r)) :
    ∃ z, whileM (s_l30Watch_b2 p m d s1) (2 ^ 64) ([], [], 0, K.map (·.1), K.map (·.2)) = some (.inr ((rowW m d (pw p.In) q r K k).2.1, (rowW m d (pw p.In) q r K k).2.2, z, (rowW m d (pw p.In) q r K k).1.map (·.1), (rowW m d (pw p.In) q r K k).1.map (·.2))) := by
  obtain ⟨m1, m2, m3, m4, m5⟩ := machOk_spec hm
  obtain ⟨d1, d2, _, _⟩ := detOk_spec hd
  have hpw := pw_le p.In
  obtain ⟨hsi, _⟩ := sigOk_in hs
  obtain ⟨o, h1, h2⟩ := while_out (f := s_l30Watch_b2 p m d s1) (fun j s => s = ((rowW m d (pw p.In) q r K j).2.1, (rowW m d (pw p.In) q r K j).2.2, (j : Int), (rowW m d (pw p.In) q r K j).1.map (·.1), (rowW m d (pw p.In) q r K j).1.map (·.2)) ∧ j ≤ k)
    (fun _ => False) (fun s => s = ((rowW m d (pw p.In) q r K k).2.1, (rowW m d (pw p.In) q r K k).2.2, (k : Int), (rowW m d (pw p.In) q r K k).1.map (·.1), (rowW m d (pw p.In) q r K k).1.map (·.2))) k (fun j s ⟨hI, hj⟩ => by
    subst hI
    unfold s_l30Watch_b2 s_l29Ins
    rw [s_l23Power_eq hsi, Option.bind_some, Option.bind_some]
    by_cases hlt : (j : Int) < pw p.In
    · obtain ⟨g1, g2, g3, g4, g5, g6⟩ := rowW_in hm hd q0 q1 r0 r1 hK j (by omega)
      obtain ⟨a, b, c, k1, k2, k3, k4, k5, k6, k7, k8, k9, k10, k11, k12⟩ := keyW_in hm hd q0 q1 r0 r1 (j := (j : Int)) (by omega) (by omega)
      have hlt2 : 0 ≤ tab m.Out q j * pw p.In ∧ tab m.Out q j * pw p.In ≤ 16 := by
        have hp : pw p.In = 2 ∨ pw p.In = 4 := by unfold pw; split <;> simp
        rcases hp with hp | hp <;> rw [hp] <;> omega
      have hr := rowW_succ m d (pw p.In) q r K j
      have hqj := g6 i _ hq
      refine ⟨.inr (.inr ((rowW m d (pw p.In) q r K (j + 1)).2.1, (rowW m d (pw p.In) q r K (j + 1)).2.2, ((j + 1 : Nat) : Int), (rowW m d (pw p.In) q r K (j + 1)).1.map (·.1), (rowW m d (pw p.In) q r K (j + 1)).1.map (·.2))), ?_, by omega, rfl, by omega⟩
      rw [hr]
      unfold stepW
      generalize rowW m d (pw p.In) q r K j = F at *
      generalize hu : keyW m d (pw p.In) q r j = u at *
      simp only [hlt, decide_true, cond_true]
      rw [hi, idx_nat, idx_nat, show (F.1.map (·.1))[i]? = some q from by rw [List.getElem?_map, hqj]; rfl, show (F.1.map (·.2))[i]? = some r from by rw [List.getElem?_map, hqj]; rfl]
      simp only [Option.bind_some, k1, k2, k3, k4, k5]
      rw [wr' (z := tab m.Out q j * pw p.In) (by omega) (by omega), wr' (by omega) (by omega), k6, Option.bind_some, find_eq (K := F.1) rfl rfl (by omega), Option.bind_some, app1 (by omega) rfl, Option.bind_some, app1 (by omega) rfl, Option.bind_some, wr' (by omega) (by omega)]
      rfl
    · have : j = k := by omega
      subst this
      refine ⟨.inr (.inl _), ?_, rfl⟩
      simp only [hlt, decide_false, cond_false]) (2 ^ 64) 0 ([], [], 0, K.map (·.1), K.map (·.2)) (by omega) ⟨rfl, by omega⟩ (by omega)
  match o, h2 with
  | .inr s, h2 => exact ⟨(k : Int), by rw [h1, h2]⟩
theorem watch_same : ∃ o t, whileM (s_l30Watch_b0 p m d) (2 ^ 64) (0, [0], [0], [], []) = some o ∧ whileM (i_watchOf_b0 p m d) (2 ^ 64) ([(0, 0)], 0, [], [], ixm 0 [(0, 0)]) = some t ∧
    ((∃ t', o = .inr (toS t') ∧ t = .inr t' ∧ InvW m d k t') ∨ (o = .inl (⟨[], [], [], []⟩, false) ∧ t = .inl (none, false))) := by
  obtain ⟨m1, m2, m3, m4, m5⟩ := machOk_spec hm
  obtain ⟨d1, d2, _, _⟩ := detOk_spec hd
  have hpw := pw_le p.In
  obtain ⟨o, t, h1, h2, h3⟩ := while_sim (f := s_l30Watch_b0 p m d) (g := i_watchOf_b0 p m d) (fun s t => s = toS t ∧ InvW m d k t) (fun s => 300 - s.1.toNat) (fun r r' => r = (⟨[], [], [], []⟩, false) ∧ r' = (none, false)) (fun s t => s = toS t ∧ InvW m d k t) (fun s t ⟨hst, hI⟩ => by
    subst hst
    obtain ⟨hK, i0, i1, n1, n2, n3, n4, n5⟩ := id hI
    obtain ⟨K, ii, nx, lt, ix⟩ := t
    dsimp only at hK i0 i1 n1 n2 n3 n4 n5
    subst n4
    unfold s_l30Watch_b0 i_watchOf_b0 toS
    dsimp only
    rw [List.length_map]
    by_cases hlt : ii < (K.length : Int)
    · obtain ⟨i, rfl⟩ := ex_nat i0
      obtain ⟨⟨q, r⟩, hq⟩ : ∃ v, K[i]? = some v := ⟨_, List.getElem?_eq_getElem (by omega)⟩
      obtain ⟨q0, q1, r0, r1⟩ := hK _ (List.mem_of_getElem? hq)
      dsimp only at q0 q1 r0 r1
      obtain ⟨row, hrow, hmem⟩ := get_el (xs := m.Next) q0 q1
      have hrl : row.length = k := by have := (m4 row hmem).1; omega
      obtain ⟨z, hS⟩ := s_rowW hs hm hd hk q0 q1 r0 r1 hK (by omega) (s1 := ((i : Int), K.map (·.1), K.map (·.2), nx, lt)) (i := i) rfl hq
      have hI' := i_rowW hs hm hd hk q0 q1 r0 r1 hK (by omega) (x42 := (q, r)) (x47 := (q, r)) rfl rfl hrow
      obtain ⟨g1, g2, g3, g4, g5, g6⟩ := rowW_in hm hd q0 q1 r0 r1 hK k (by omega)
      generalize rowW m d (pw p.In) q r K k = F at *
      simp only [hlt, decide_true, cond_true, idx_nat, hq, Option.bind_some, hrow, hrl, hS, hI', aft_inr, List.length_map]
      by_cases hbig : (256 : Int) < (F.1.length : Int)
      · refine ⟨.inl (⟨[], [], [], []⟩, false), .inl (none, false), ?_, ?_, rfl, rfl⟩
        · simp only [hbig, decide_true, cond_true]
        · simp only [hbig, decide_true, cond_true]
      · have hg := (List.getElem?_eq_some_iff.1 (g6 i _ hq)).1
        refine ⟨.inr (.inr (toS (F.1, (i : Int) + 1, nx ++ [F.2.1], lt ++ [F.2.2], ixm 0 F.1))), .inr (.inr (F.1, (i : Int) + 1, nx ++ [F.2.1], lt ++ [F.2.2], ixm 0 F.1)), ?_, ?_, ⟨rfl, g1, ?_, ?_, ?_, ?_, ?_, rfl, ?_⟩, ?_⟩
        · simp only [hbig, decide_false, cond_false]
          rw [app1 (by omega) rfl, Option.bind_some, app1 (by omega) rfl, Option.bind_some, wr' (by omega) (by omega)]
          rfl
        · simp only [hbig, decide_false, cond_false]
          rw [app1 (by omega) rfl, Option.bind_some, app1 (by omega) rfl, Option.bind_some, wr' (by omega) (by omega)]
        · show 0 ≤ (i : Int) + 1; omega
        · show (i : Int) + 1 ≤ (F.1.length : Int); omega
        · show ((nx ++ [F.2.1]).length : Int) = (i : Int) + 1; simp; omega
        · show ((lt ++ [F.2.2]).length : Int) = (i : Int) + 1; simp; omega
        · intro x hx
          rcases List.mem_append.1 hx with hx | hx
          · exact n3 x hx
          · rw [List.mem_singleton.1 hx]; exact g4
        · show F.1.length ≤ 256; omega
        · show 300 - ((i : Int) + 1).toNat < 300 - (i : Int).toNat; omega
    · refine ⟨.inr (.inl (toS (K, ii, nx, lt, ixm 0 K))), .inr (.inl (K, ii, nx, lt, ixm 0 K)), ?_, ?_, rfl, hI⟩
      · simp only [hlt, decide_false, cond_false]; rfl
      · simp only [hlt, decide_false, cond_false]) (2 ^ 64) (2 ^ 64) (0, [0], [0], [], []) ([(0, 0)], 0, [], [], ixm 0 [(0, 0)]) (by show 300 - 0 < _; omega) (by show 300 - 0 < _; omega) ⟨rfl, fun k hk => by
        rw [List.mem_singleton.1 hk]
        exact ⟨by simp, by show (0 : Int) < _; omega, by simp, by show (0 : Int) < _; omega⟩, by simp, by simp, by simp, by simp, by simp, rfl, by simp⟩
  match o, t, h3 with
  | .inl r, .inl r', h3 => exact ⟨_, _, h1, h2, .inr ⟨by rw [h3.1], by rw [h3.2]⟩⟩
  | .inr s, .inr t', h3 => exact ⟨_, _, h1, h2, .inl ⟨t', by rw [h3.1], rfl, h3.2⟩⟩
end
end Go.Proofs.Ytnmjfjppgpkieaa
