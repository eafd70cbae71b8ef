/- An element of two slices is taken out of an own slice, and put back; a map's first entries. -/
import Derived.Test.YtndiklipffipcaaMap
set_option linter.unusedVariables false
set_option linter.unusedSimpArgs false
namespace Go.Wk
open Go
section
variable {α β γ : Type} {E : Ep α} {E1 : Ep β} {E2 : Ep γ} {T T1 T2 : TypeId} {κ : Col} {w : World} {i : Nat} {a a1 a2 : Option Addr} {c c1 c2 : Nat} {xs : List α} {ix : Int}
theorem beq_ne {m n : Nat} (h : Nat.beq m n = false) : m ≠ n := fun e => by rw [e, Nat.beq_refl] at h; cases h
theorem nin_one {m n : Nat} (h : m ≠ n) : nin [m] n = true := nin_true.2 (by simp; exact fun e => h e.symm)
theorem Ow.borrowP {f : α → List β × List γ} (hE : ∀ {F S : Nat → Prop} {w : World} {cs : List Value} {x : α}, E.rel F S w cs x → (Ep.pair (Ep.own E1 T1) (Ep.own E2 T2)).rel F S w cs (f x)) (hsz : E.size = 2)
    {x : α} (h : Oc E T κ w i a c xs) (hx : idx xs ix = some x) (hc : ∀ (k : Nat) v, ([.slice a1 (f x).1.length c1, .slice a2 (f x).2.length c2] : List Value)[k]? = some v → w.cell? ((aAt a (ix.toNat * 2)).add k) = some v)
    (j1 j2 : Nat) (h1 : Nat.beq i j1 = false) (h3 : Nat.beq j1 j2 = false) (h4 : Nat.beq 0 i = false) (h5 : Nat.beq 0 j1 = false) :
    ∃ κ', Stp [i, j1] κ w κ' w ∧ Oc E1 T1 κ' w j1 a1 c1 (f x).1 ∧ Oc E2 T2 κ' w j2 a2 c2 (f x).2 ∧ Hole E T κ' w i a c xs ix [.slice a1 (f x).1.length c1, .slice a2 (f x).2.length c2] := by
  classical
  obtain ⟨κ1, cs, s1, hr, hh, hcs⟩ := h.borrowE hx j1 h1 h4
  obtain ⟨l1, l2, S1, S2, e, d1, d2, ⟨b1, u1, e1, o1⟩, ⟨b2, u2, e2, o2⟩⟩ := hE hr
  subst e1 e2 e
  have n1 := beq_ne h1
  have n3 := beq_ne h3
  have n5 := beq_ne h5
  rw [hsz] at hcs
  have k0 := hcs 0 _ rfl
  have k1 := hcs 1 _ rfl
  rw [hc 0 _ rfl] at k0
  rw [hc 1 _ rfl] at k1
  simp only [Option.some.injEq, Value.slice.injEq, true_and] at k0 k1
  obtain ⟨rfl, rfl⟩ := k0
  obtain ⟨rfl, rfl⟩ := k1
  let κ' : Col := fun b => if S2 b then j2 else κ1 b
  have hy : ∀ b, S2 b → κ' b = j2 := fun b hb => if_pos hb
  have hn : ∀ b, ¬ S2 b → κ' b = κ1 b := fun b hb => if_neg hb
  have hj : ∀ b, S2 b → κ1 b = j1 := fun b hb => by simpa using (d2 b hb).2
  have st : Stp [j1] κ1 w κ' w := ⟨rfl, rfl, rfl, Nat.le_refl _, fun b _ hb => ⟨hn b fun h => hb (by rw [hj b h]; simp), rfl⟩⟩
  have hF := Zl.st st (nin1 (nin_one fun e => n5 e.symm))
  exact ⟨κ', s1.tr st, o1.st hF (fun b hb => ⟨⟨(d1 b hb).1.1, by rw [hn b (d1 b hb).2]; exact (d1 b hb).1.2⟩, rfl⟩), o2.st hF (fun b hb => ⟨⟨(d2 b hb).1, by rw [hy b hb]; simp⟩, rfl⟩), hh.stp st (nin_one fun e => n5 e.symm) (nin_one fun e => n1 e.symm)⟩
theorem Ow.unborrowP {f : α → List β × List γ} (hE : ∀ {F S : Nat → Prop} {w : World} {cs : List Value} {x : α}, (Ep.pair (Ep.own E1 T1) (Ep.own E2 T2)).rel F S w cs (f x) → E.rel F S w cs x)
    {n1 n2 : Nat} {y : α} {zs : List α} {j1 j2 : Nat} (h : Hole E T κ w i a c xs ix [.slice a1 n1 c1, .slice a2 n2 c2]) (g1 : Oc E1 T1 κ w j1 a1 c1 (f y).1) (g2 : Oc E2 T2 κ w j2 a2 c2 (f y).2) (hn1 : n1 = (f y).1.length) (hn2 : n2 = (f y).2.length)
    (h1 : Nat.beq i j1 = false) (h2 : Nat.beq i j2 = false) (h3 : Nat.beq j1 j2 = false) (h5 : Nat.beq 0 j1 = false) (h6 : Nat.beq 0 j2 = false) (hs : setI xs ix y = some zs) :
    ∃ κ', Stp [j2, j1] κ w κ' w ∧ Oc E T κ' w i a c zs := by
  have n1' := beq_ne h1
  have n2' := beq_ne h2
  have n3 := beq_ne h3
  have n5 := beq_ne h5
  have n6 := beq_ne h6
  let κ1 : Col := fun b => bif Nat.beq (κ b) j2 then j1 else κ b
  have hjj : ∀ b, κ b = j2 → κ1 b = j1 := fun b hb => by show (bif Nat.beq (κ b) j2 then j1 else κ b) = j1; rw [hb, Nat.beq_refl]; rfl
  have hn : ∀ b, κ b ≠ j2 → κ1 b = κ b := fun b hb => by
    show (bif Nat.beq (κ b) j2 then j1 else κ b) = κ b
    cases e : Nat.beq (κ b) j2 with
    | false => rfl
    | true => exact absurd (Nat.eq_of_beq_eq_true e) hb
  have st : Stp [j2] κ w κ1 w := ⟨rfl, rfl, rfl, Nat.le_refl _, fun b _ hb => ⟨hn b fun h => hb (by rw [h]; simp), rfl⟩⟩
  have hF := Zl.st st (nin1 (nin_one fun e => n6 e.symm))
  have hh := h.stp st (nin_one fun e => n6 e.symm) (nin_one fun e => n2' e.symm)
  have hrel : E.rel (Zl κ1 w [0]) (Zl κ1 w [j1]) w [.slice a1 n1 c1, .slice a2 n2 c2] y := hE ⟨[.slice a1 n1 c1], [.slice a2 n2 c2], Zl κ w [j1], Zl κ w [j2], rfl, fun b hb => by
    have e : κ b = j1 := by simpa using hb.2
    exact ⟨⟨hb.1, by rw [hn b (by rw [e]; exact n3), e]; simp⟩, fun h => by
      have e' : κ b = j2 := by simpa using h.2
      exact n3 (e.symm.trans e')⟩, fun b hb => ⟨hb.1, by rw [hjj b (by simpa using hb.2)]; simp⟩, ⟨a1, c1, by rw [hn1], g1.st hF fun b hb => ⟨hb, rfl⟩⟩, ⟨a2, c2, by rw [hn2], g2.st hF fun b hb => ⟨hb, rfl⟩⟩⟩
  obtain ⟨κ', s2, h7⟩ := hh.back hrel h1 h5 hs
  exact ⟨κ', st.tr s2, h7⟩
end
section
variable {P : Program} {n : Nat} {ops : Array Oper} {C : World → Prop} {N : Act → World → Prop} {r : List (Nat × Nat)} {L : Env} {κ : Col} {w : World} {i d : Nat} {o : Oper}
variable {K V : Type} [DecidableEq K] {wf : K → Bool} {kf : K → Value} {vf : V → Value} {xs zs : List (K × V)} {b : Nat} {t kt et : TypeId} {k : K} {v z : V}
theorem WO.mapin (q : Nat) (ho : ops[i]? = some o) (hg : gd ops L o = some true) (hd : o.dst = none) {x ix y : Operand} (hop : o.op = .insert t x ix y) (hx : opd L x = some (.map (some b))) (hk : opd L ix = some (kf k)) (hy : opd L y = some (vf v))
    (E : KeyE P kt kf wf) (ht : ∀ w, (underlying t).run P w = .ok (.map kt et) w) (hm : Mc wf kf vf κ w q b xs) (h : mset wf xs k v = some zs)
    (c : ∀ w', Stp [q] κ w κ w' → Mc wf kf vf κ w' q b zs → C w' ∧ WO P n ops C N r L w') : WO P n ops C N ((i, 1) :: r) L w :=
  WO.ln ho hg hd fun act ha => by
    unfold mset at h
    split at h
    · rename_i hwk
      simp only [Option.some.injEq] at h
      obtain ⟨⟨es, clock, h1, h2, h3, h4⟩, hcol⟩ := hm
      obtain ⟨l, hl⟩ := E.key k hwk
      have hchk := E.law.check w false hl
      have hlt := (Array.getElem?_eq_some_iff.1 h1).1
      have key : ∃ es' clock', (execOp act.eval o).run P w = .ok .skip { w with heap := w.heap.setIfInBounds b (.map es' clock') } ∧ es'.toList.map (fun e => (e.key, e.val)) = zs.map (fun p => (kf p.1, vf p.2)) ∧ (∀ p ∈ zs, wf p.1 = true) ∧ (zs.map (·.1)).Nodup := by
        rcases Mx.find E h2 h3 h4 hwk w with ⟨h5, h6⟩ | ⟨j, v0, e, h5, h6, h7, h8⟩
        · rw [putK_none h6] at h
          subst h
          refine ⟨es.push { key := kf k, val := vf v, born := clock }, clock + 1, ?_, ?_, ?_, ?_⟩
          · simp [execOp, hop, ha.eval hx, ha.eval hk, ha.eval hy, Instr.mapUpdate, ht, MapKept.run_getObj_map h1, hchk, h5, MapKept.run_setObj_map _ h1, Result.andThen]
          · rw [Array.toList_push, List.map_append, h2, List.map_append]; rfl
          · intro p hp
            rw [List.mem_append, List.mem_singleton] at hp
            rcases hp with hp | rfl
            · exact h3 p hp
            · exact hwk
          · rw [List.map_append, List.nodup_append]
            refine ⟨h4, by simp, fun a ha' c hc e => ?_⟩
            simp only [List.map_cons, List.map_nil, List.mem_singleton] at hc
            obtain ⟨p, hp, rfl⟩ := List.mem_map.1 ha'
            exact h6 p hp (e.trans hc)
        · rw [putK_at h4 h6] at h
          subst h
          have hst := E.law.stays w hl
          refine ⟨es.modify j (fun e => { e with key := kf k, val := vf v }), clock, ?_, ?_, ?_, ?_⟩
          · simp [execOp, hop, ha.eval hx, ha.eval hk, ha.eval hy, Instr.mapUpdate, ht, MapKept.run_getObj_map h1, hchk, h5, h7, h8, hst, MapKept.run_setObj_map _ h1, Result.andThen]
          · apply List.ext_getElem?
            intro m
            have h9 := congrArg (fun l => l[m]?) h2
            simp only [List.getElem?_map] at h9
            simp only [List.getElem?_map, Array.getElem?_toList, Array.getElem?_modify, List.getElem?_set]
            rw [Array.getElem?_toList] at h9
            by_cases hjm : j = m
            · subst hjm
              have hjl := (List.getElem?_eq_some_iff.1 h6).1
              rw [h7]
              simp [hjl]
            · rw [if_neg hjm, if_neg hjm]
              exact h9
          · intro p hp
            rcases List.mem_or_eq_of_mem_set hp with hp | rfl
            · exact h3 p hp
            · exact hwk
          · rw [putK_keys h6]; exact h4
      obtain ⟨es', clock', k1, k2, k3, k4⟩ := key
      unfold Runs
      rw [k1]
      refine c _ ⟨rfl, rfl, rfl, by simp, fun g hg hgc => ⟨rfl, ?_⟩⟩ ⟨⟨es', clock', by simp [hlt], k2, k3, k4⟩, hcol⟩
      have : b ≠ g := fun e => hgc (by rw [← e, hcol]; simp)
      simp [Array.getElem?_setIfInBounds_ne this]
    · cases h
end
/-- what is asked of a pointer ahead of its use -/
def guardS (b : Bool) : Option Unit := if b then some () else none
theorem guardS_ok {b : Bool} {u : Unit} (h : guardS b = some u) : b = true := by cases b <;> simp [guardS] at h ⊢
/-- a box that is written no more -/
theorem Bc.fzz {κ κ' : Col} {w : World} {i b : Nat} {T : TypeId} {cs : List Value} (z : ∀ b, Zl κ w [0, i] b → Zl κ' w [0, 0] b ∧ w.heap[b]? = w.heap[b]?) (h : Bc κ w i b T cs) : Bc κ' w 0 b T cs :=
  ⟨h.bx, by have := (z b ⟨h.bx.lt, by rw [h.col]; simp⟩).1.2; simpa using this⟩
end Go.Wk
