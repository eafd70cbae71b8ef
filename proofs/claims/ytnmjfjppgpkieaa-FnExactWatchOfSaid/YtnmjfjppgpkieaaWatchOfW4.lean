/- WatchOf: the law. -/
import Derived.Test.YtnmjfjppgpkieaaWatchBW4
set_option linter.unusedVariables false
set_option linter.unusedSimpArgs false
namespace Go.Proofs.Ytnmjfjppgpkieaa
open Go Go.Wk Go.Proofs

theorem s_l1Has_eqW (row : List Int) (v : Int) : s_l1Has row v = some (row.any (fun x => v == x)) := by
  unfold s_l1Has
  rw [cnt_all0 (f := s_l1Has_b0 row v) (r := true) (fun x => !(v == x)) (xs := row) rfl (fun i y hy => by
    unfold s_l1Has_b0
    rw [idx_nat, hy, Option.bind_some, show (y == v) = (v == y) from BEq.comm]
    cases v == y <;> rfl), List.any_eq_not_all_not]
  cases row.all (fun x => !(v == x)) <;> rfl
/-- the states whose second part is in a set -/
def partN (K : List Key) (S : List Int) : Nat → List Int
  | 0 => []
  | j + 1 => bif (match K[j]? with | some k => S.any (fun x => k.2 == x) | none => false) then partN K S j ++ [(j : Int)] else partN K S j
theorem partN_len (K : List Key) (S : List Int) : ∀ j, (partN K S j).length ≤ j
  | 0 => Nat.le_refl _
  | j + 1 => by
    have := partN_len K S j
    unfold partN
    cases (match K[j]? with | some k => S.any (fun x => k.2 == x) | none => false) with
    | false => exact Nat.le_succ_of_le this
    | true => simpa using this
theorem s_part {x : l30Graph} {K : List Key} (h2 : x.by0 = K.map (·.2)) (hl : K.length ≤ 1000) (S : List Int) : s_l30Part x S = some (partN K S K.length) := by
  unfold s_l30Part
  obtain ⟨s', h3, h4⟩ := cnt_inv (f := s_l30Part_b0 x S) (fun j s => s = partN K S j) K.length (s := []) rfl (fun j s hj hI => by
    subst hI
    obtain ⟨k, hk⟩ : ∃ k, K[j]? = some k := ⟨_, List.getElem?_eq_getElem hj⟩
    have := partN_len K S j
    refine ⟨_, ?_, rfl⟩
    unfold s_l30Part_b0
    rw [idx_nat, show x.by0[j]? = some k.2 from by rw [h2, List.getElem?_map, hk]; rfl, Option.bind_some, s_l1Has_eqW, Option.bind_some]
    conv => rhs; unfold partN
    rw [hk]
    dsimp only
    cases S.any (fun x => k.2 == x) with
    | false => rfl
    | true =>
      simp only [cond_true]
      rw [app1 (by omega) rfl]; rfl)
  rw [h2, List.length_map, h3, h4]; rfl
def partP (K : List Key) (x : Pair) : Pair := ⟨partN K x.Ask K.length, partN K x.Give K.length⟩
theorem i_part {s3 : WT} (hl : s3.1.length ≤ 1000) (x : Pair) : cntM (i_watchOf_b6 s3 x) s3.1.length 0 ([], []) = some (.inr (partN s3.1 x.Ask s3.1.length, partN s3.1 x.Give s3.1.length)) := by
  obtain ⟨s', h3, h4⟩ := cnt_inv (f := i_watchOf_b6 s3 x) (fun j s => s = (partN s3.1 x.Ask j, partN s3.1 x.Give j)) s3.1.length (s := ([], [])) rfl (fun j s hj hI => by
    subst hI
    obtain ⟨k, hk⟩ : ∃ k, s3.1[j]? = some k := ⟨_, List.getElem?_eq_getElem hj⟩
    have := partN_len s3.1 x.Ask j
    have := partN_len s3.1 x.Give j
    refine ⟨_, ?_, rfl⟩
    unfold i_watchOf_b6
    rw [idx_nat, hk, Option.bind_some, slices_Contains_I_int64_eq, Option.bind_some, slices_Contains_I_int64_eq]
    conv => rhs; unfold partN
    rw [hk]
    dsimp only
    cases x.Ask.any (fun x => k.2 == x) <;> cases x.Give.any (fun x => k.2 == x) <;> simp only [cond_true, cond_false, Option.bind_some]
    · rw [app1 (by omega) rfl]; rfl
    · rw [app1 (by omega) rfl]; rfl
    · rw [app1 (by omega) rfl, Option.bind_some, Option.bind_some, app1 (by omega) rfl]; rfl)
  rw [h3, h4]
theorem pairs_same {t : WT} {d : Det} (hl : t.1.length ≤ 1000) {x : l30Graph × Bool} (hx : x.1.by0 = t.1.map (·.2)) (h4 : d.Pairs.length ≤ 4) :
    ∃ ps, cntM (s_WatchOf_b0 d x) d.Pairs.length 0 [] = some (.inr ps) ∧ cntM (i_watchOf_b4 d t) d.Pairs.length 0 [] = some (.inr ps) ∧ ps.length ≤ 4 ∧ ∀ y ∈ ps, y.Ask.length ≤ 1000 ∧ y.Give.length ≤ 1000 := by
  obtain ⟨a1, a2⟩ := cnt_foldI (f := s_WatchOf_b0 d x) (fun s y => s ++ [partP t.1 y]) (fun j s => s.length = j ∧ ∀ y ∈ s, y.Ask.length ≤ 1000 ∧ y.Give.length ≤ 1000) (xs := d.Pairs) (fun i y s hy hs => by
    have hi := (List.getElem?_eq_some_iff.1 hy).1
    refine ⟨?_, by simp [hs.1], fun z hz => ?_⟩
    · unfold s_WatchOf_b0
      rw [idx_nat, hy, Option.bind_some, Option.bind_some, s_part hx hl, Option.bind_some, s_part hx hl, Option.bind_some, app1 (by omega) rfl]; rfl
    · rcases List.mem_append.1 hz with hz | hz
      · exact hs.2 z hz
      · rw [List.mem_singleton.1 hz]
        exact ⟨Nat.le_trans (partN_len _ _ _) hl, Nat.le_trans (partN_len _ _ _) hl⟩) (s := []) ⟨rfl, by simp⟩
  obtain ⟨b1, _⟩ := cnt_foldI (f := i_watchOf_b4 d t) (fun s y => s ++ [partP t.1 y]) (fun j s => s.length = j) (xs := d.Pairs) (fun i y s hy hs => by
    have hi := (List.getElem?_eq_some_iff.1 hy).1
    refine ⟨?_, by simp [hs]⟩
    unfold i_watchOf_b4
    rw [idx_nat, hy, Option.bind_some, i_part hl, Option.bind_some]
    simp only [aft_inr]
    rw [app1 (by omega) rfl]; rfl) (s := []) rfl
  exact ⟨_, a1, b1, by omega, a2.2⟩
section
variable {p : Sig} {m : Machine} {d : Det} (hs : sigOk p = true) (hm : machOk p m = true) (hd : detOk p d = true)
include hs hm hd
theorem watchOf_same : (s_l30Watch p m d = some (⟨[], [], [], []⟩, false) ∧ i_watchOf p m d = some (none, false)) ∨
    ∃ (g : l30Graph) (w : watch), s_l30Watch p m d = some (g, true) ∧ i_watchOf p m d = some (some w, true) ∧ cntM (s_WatchOf_b0 d (g, true)) d.Pairs.length 0 [] = some (.inr w.pairs) ∧ g.next = w.next ∧ g.letters = w.letters ∧ w.next.length ≤ 256 ∧ (∀ r ∈ w.next, r.length ≤ 4) ∧ w.pairs.length ≤ 4 ∧ ∀ y ∈ w.pairs, y.Ask.length ≤ 1000 ∧ y.Give.length ≤ 1000 := by
  have hpw := pw_le p.In
  obtain ⟨k, hk⟩ := ex_nat (z := pw p.In) (by omega)
  obtain ⟨_, _, d3, _⟩ := detOk_spec hd
  obtain ⟨o, t, h1, h2, h3⟩ := watch_same hs hm hd hk
  have hf : s_l30Find ⟨[], [], [], []⟩ 0 0 = some (0, [0], [0]) := by
    rw [find_eq (K := []) rfl rfl (by simp)]; rfl
  have hms : mset kwI2 ([] : List (Key × Int)) ((0, 0) : Key) 0 = some (ixm 0 [(0, 0)]) := by decide
  unfold s_l30Watch i_watchOf
  rw [hf, Option.bind_some, hms, Option.bind_some]
  dsimp only
  rw [h1, h2, Option.bind_some, Option.bind_some]
  rcases h3 with ⟨t', rfl, rfl, hI⟩ | ⟨rfl, rfl⟩
  · right
    obtain ⟨hK, i0, i1, n1, n2, n3, n4, n5⟩ := hI
    obtain ⟨ps, p1, p2, p3, p4⟩ := pairs_same (t := t') (d := d) (by omega) (x := (⟨t'.1.map (·.1), t'.1.map (·.2), t'.2.2.1, t'.2.2.2.1⟩, true)) rfl d3
    refine ⟨⟨t'.1.map (·.1), t'.1.map (·.2), t'.2.2.1, t'.2.2.2.1⟩, ⟨t'.2.2.1, t'.2.2.2.1, ps⟩, rfl, ?_, p1, rfl, rfl, ?_, fun r hr => ?_, p3, p4⟩
    · simp only [aft_inr]
      rw [p2]; rfl
    · show t'.2.2.1.length ≤ 256; omega
    · have := n3 r hr; omega
  · exact .inl ⟨rfl, rfl⟩
end
theorem WatchOf_same (p : Sig) (m : Machine) (d : Det) (hb : ∀ x ∈ d.Pairs, x.Ask.length ≤ 1000000000 ∧ x.Give.length ≤ 1000000000) :
    ∃ a b c, s_WatchOf p m d = some (a, b, c) ∧ i_WatchOf p m d = some (a, b, c) ∧ a.length ≤ 256 ∧ (∀ r ∈ a, r.length ≤ 4) ∧ b.length ≤ 4 ∧ ∀ y ∈ b, y.Ask.length ≤ 1000 ∧ y.Give.length ≤ 1000 := by
  unfold s_WatchOf i_WatchOf
  rw [s_MachineOk_eq, i_isSig_eq]
  cases hs : sigOk p with
  | false => exact ⟨[], [], false, by simp, by simp, by simp, by simp, by simp, by simp⟩
  | true =>
    rw [i_isMachine_eq hs, s_DetOk_eqD hs hb, i_isDet_eqD hs hb]
    cases hm : machOk p m with
    | false => exact ⟨[], [], false, by simp, by simp, by simp, by simp, by simp, by simp⟩
    | true =>
      cases hd : detOk p d with
      | false => exact ⟨[], [], false, by simp, by simp, by simp, by simp, by simp, by simp⟩
      | true =>
        simp only [Option.bind_some, Bool.not_true, cond_false, Bool.and_self]
        rcases watchOf_same hs hm hd with ⟨h1, h2⟩ | ⟨g, w, h1, h2, h3, h4, h5, h6⟩
        · rw [h1, h2]
          exact ⟨[], [], false, by simp, by simp, by simp, by simp, by simp, by simp⟩
        · rw [h1, h2]
          simp only [Option.bind_some, Bool.not_true, cond_false, h3, aft_inr]
          exact ⟨w.next, w.pairs, true, by rw [h4], rfl, h6⟩
theorem FnExactWatchOf_law {p0 : Sig} (ok0 : Sig.ok p0) {p1 : Machine} (ok1 : Machine.ok p1) {p2 : Det} (ok2 : Det.ok p2) : l_FnExactWatchOf p0 p1 p2 = some true :=
  FnExactWatchOf_of ok0 ok1 ok2 fun _ hb => by
    obtain ⟨a, b, c, h1, h2, h3, h4, h5, h6⟩ := WatchOf_same p0 p1 p2 (fun x hx => by
      have := hb.2.2 x hx
      have h1 := this.1.1
      have h2 := this.2.1
      exact ⟨by omega, by omega⟩)
    refine ⟨a, b, c, h1, h2, ?_, ?_⟩
    · have := ctL_bd (c := ctL (fun _ => 1)) (N := 256) (M := 4) (xs := a) h3 (fun x hx => by rw [ctL_one]; exact h4 x hx)
      omega
    · have := ctL_bd (c := (fun x : Pair => (ctL (fun _ => 1)) x.Ask + (ctL (fun _ => 1)) x.Give)) (N := 4) (M := 2000) (xs := b) h5 (fun x hx => by rw [ctL_one, ctL_one]; have := h6 x hx; omega)
      omega
end Go.Proofs.Ytnmjfjppgpkieaa
