/- The walks, part 7. By program. -/
import Derived.Test.YtndiklipffipcaaSort
import Derived.Test.YtndiklipffipcaaShelf
import Derived.Test.YtndiklipffipcaaFnsT4
import Derived.Test.YtndiklipffipcaaFnsT5
set_option linter.unusedVariables false
set_option linter.unusedSimpArgs false
namespace Go.Proofs.Ytndiklipffipcaa
open Go Go.Wk Go.Proofs
set_option maxRecDepth 100000
set_option maxHeartbeats 1000000

/- loop.example/g00869/spec.ArenaOk -/
theorem s_ArenaOk_ok {w : World} {κ : Col} {a0_0 : Option Addr} {u0_0 : Nat} {a0_1 : Option Addr} {u0_1 : Nat} {p0 : Arena} (g0_0 : Rd (Rp.int .i64) κ w 0 a0_0 u0_0 p0.Owner) (g0_1 : Rd (Rp.sl (Rp.int .i64)) κ w 0 a0_1 u0_1 p0.Next) {r : Bool} (h : s_ArenaOk p0 = some r) : Ret Try.prog 115 [.agg #[.slice a0_0 p0.Owner.length u0_0, .slice a0_1 p0.Next.length u0_1]] w (fun v w' => ∃ (κ' : Col), v = .bool r ∧ Ent κ w κ' w') := by
 unfold s_ArenaOk at h
 refine Ret.enter Try.func115 rfl Try.ntmps115 rfl ?_
 dsimp only [envOf]
 have hE := Ent.refl κ w
 refine WC.seq ?_
 refine WC.rs [(0, 1), (1, 2)] rfl ?_
 refine WO.box (κ := κ) 2 rfl rfl rfl rfl rfl rfl rfl fun b1 w1 K2 S3 f4 => ⟨trivial, ?_⟩
 refine WO.pn 1 rfl ?_
 refine WO.fin ?_
 refine DN.seq ?_
 refine WC.seq ?_
 refine WC.rs [(0, 2), (1, 1), (2, 2), (3, 2)] rfl ?_
 refine WO.k2 rfl rfl rfl rfl (rn_fieldAddr Try.runUnderlying32 rfl Try.sizeOf22 rfl rfl) ?_
 refine WO.k1 trivial rfl rfl rfl rfl (rn_ld Try.isAgg22 rfl rfl (hvE (f4.ld 0 rfl rfl))) ?_
 refine WO.k2 rfl rfl rfl rfl (rn_len Try.runUnderlying22 rfl rfl) ?_
 refine WO.pn 1 rfl ?_
 refine WO.fin ?_
 refine DN.seq ?_
 refine WC.seq ?_
 refine WC.seq ?_
 refine WC.rs [(0, 2), (1, 1), (2, 2), (3, 2), (4, 2), (5, 1), (6, 2), (7, 2), (8, 1), (9, 2), (10, 2), (11, 2)] rfl ?_
 refine WO.pn 1 rfl ?_
 obtain ⟨x9, hx9, h⟩ := Option.bind_eq_some_iff.mp h
 refine WO.call rfl rfl rfl rfl rfl rfl Try.call75 (s_l1In_ok (κ := fun b => mp [] 0 (K2 b)) hx9) ?_
 rintro _ w5 ⟨k6, rfl, e7⟩
 obtain ⟨K8, S9, m10⟩ := Ent.mixed (l := []) (κ := K2) e7 3 rfl
 refine ⟨trivial, ?_⟩
 refine WO.pn 2 rfl ?_
 obtain ⟨p19, h, hK12⟩ := Option.bind_eq_some_iff.mp h
 refine WO.meet [(4, 2), (5, 1), (6, 2), (7, 2), (8, 1), (9, 2), (10, 2), (11, 2)] [] (fun L w' => L = [(1, .pointer (some ⟨b1, 0, none⟩)), (3, .int .i64 (p0.Owner.length : Int)), (19, .bool p19)] ∧ ∃ κ', Stp [] K8 w5 κ' w') trivial ?_ ?_
 ·
  revert h
  cases ht13 : (!x9) with
  | true =>
   intro h; replace h := cT h
   refine WO.pn 1 rfl ?_
   refine WO.ls rfl rfl rfl rfl ?_
   refine WO.pn 2 rfl ?_
   refine WO.ls rfl rfl rfl rfl ?_
   refine WO.pn 3 rfl ?_
   obtain rfl := Option.some.inj h
   exact WO.met _ trivial ⟨rfl, _, (Stp.refl _ _).wk rfl⟩ fun a ha => (ha.more (ha.more (ha.more ha.nil rfl) rfl) rfl)
  | false =>
   intro h; replace h := cF h
   refine WO.k2 rfl rfl rfl rfl (rn_fieldAddr Try.runUnderlying32 rfl Try.sizeOf23 rfl rfl) ?_
   have f14 := f4.stp S9 rfl rfl
   refine WO.k1 trivial rfl rfl rfl rfl (rn_ld Try.isAgg23 rfl rfl (hvE (f14.ld 1 rfl rfl))) ?_
   refine WO.k2 rfl rfl rfl rfl (rn_len Try.runUnderlying23 rfl rfl) ?_
   refine WO.k2 rfl rfl rfl rfl (rn_fieldAddr Try.runUnderlying32 rfl Try.sizeOf22 rfl rfl) ?_
   refine WO.k1 trivial rfl rfl rfl rfl (rn_ld Try.isAgg22 rfl rfl (hvE (f14.ld 0 rfl rfl))) ?_
   refine WO.k2 rfl rfl rfl rfl (rn_len Try.runUnderlying22 rfl rfl) ?_
   refine WO.pn 2 rfl ?_
   obtain rfl := Option.some.inj h
   exact WO.met _ trivial ⟨rfl, _, (Stp.refl _ _).wk rfl⟩ fun a ha => (ha.more (ha.more (ha.more ha.nil rfl) rfl) rfl)
 rintro _ w15 _ ⟨rfl, K16, S17⟩
 have h := hK12
 refine WO.fin ?_
 refine DN.seq ?_
 revert h
 cases ht18 : p19 with
 | true =>
  intro h; replace h := cT h
  refine WC.ct rfl ?_
  refine WC.seq ?_
  refine WC.rs [(0, 2)] rfl ?_
  refine WO.pn 1 rfl ?_
  refine WO.fin ?_
  refine DN.seq ?_
  refine WC.ret ?_
  refine DN.retThen ?_
  have f19 := hE.stp (S3.tr (S9.tr S17)) rfl rfl
  refine DN.res (l := [.tmp 2]) Try.results115 (res_tmp rfl rfl) rfl ?_
  obtain rfl := Option.some.inj h
  exact ⟨K16, rfl, f19⟩
 | false =>
  intro h; replace h := cF h
  refine WC.cf rfl ?_
  refine WC.skip ?_
  refine DN.seq ?_
  refine WC.seq ?_
  refine WC.seq ?_
  refine WC.rs [(0, 2)] rfl ?_
  refine WO.pn 1 rfl ?_
  refine WO.fin ?_
  refine DN.seq ?_
  have hN20 : (p0.Owner.length : Int) ≤ 9223372036854775807 := g0_0.len_le
  obtain ⟨q2, hq22, hK21⟩ := Option.bind_eq_some_iff.mp h
  clear h
  refine WC.meet (fun L w' => ∃ (κ' : Col), L = [] ∧ Stp [] K16 w15 κ' w' ∧ q2 = Sum.inr ()) ?_ ?_
  ·
   refine WC.block ?_
   refine WC.loop (fun k L w' => ∃ (κ' : Col) (v4 : Int), L = [(1, .pointer (some ⟨b1, 0, none⟩)), (3, .int .i64 (p0.Owner.length : Int)), (4, .int .i64 v4)] ∧ Stp [] K16 w15 κ' w' ∧ 0 ≤ v4 ∧ Int.toNat ((p0.Owner.length : Int) - v4) = k ∧ cntM (s_ArenaOk_b0 p0) k v4 () = some q2) ⟨_, _, ⟨K16, 0, rfl, (Stp.refl _ _).wk rfl, (by decide), (by simp), hq22⟩, fun a ha => (ha.more (ha.more (ha.more ha.nil rfl) rfl) rfl)⟩ ?_
   rintro k _ w26 ⟨K27, v4, rfl, S28, hj20, hJ20, h⟩
   rcases k with _ | k
   ·
    have hk29 := h; obtain ⟨o20, h⟩ := ex_eq (Sum.inr (Sum.inl ()) : Bool ⊕ ((Unit) ⊕ (Unit)))
    have hc20 : decide (v4 < (p0.Owner.length : Int)) = false := decide_eq_false (by omega)
    refine WC.seq ?_
    refine WC.seq ?_
    refine WC.rs [(0, 2), (1, 2), (2, 1), (3, 2), (4, 2)] rfl ?_
    refine WO.pn 1 rfl ?_
    refine WO.k2 rfl rfl rfl rfl (rn_fieldAddr Try.runUnderlying32 rfl Try.sizeOf22 rfl rfl) ?_
    have f30 := f4.stp (S9.tr (S17.tr S28)) rfl rfl
    refine WO.k1 trivial rfl rfl rfl rfl (rn_ld Try.isAgg22 rfl rfl (hvE (f30.ld 0 rfl rfl))) ?_
    refine WO.k2 rfl rfl rfl rfl (rn_len Try.runUnderlying22 rfl rfl) ?_
    refine WO.pn 1 rfl ?_
    refine WO.fin ?_
    refine DN.seq ?_
    refine WC.cf' rfl hc20 ?_
    refine WC.exit ?_
    refine DN.exitThen ?_
    refine DN.exitThen ?_
    obtain rfl := Option.some.inj h
    have h := hk29
    refine DN.hit ?_
    obtain rfl := Option.some.inj h
    exact DN.meet _ ⟨K27, rfl, S28.wk rfl, rfl⟩ fun a ha => ha.nil
   ·
    obtain ⟨o20, h, hk29⟩ := Option.bind_eq_some_iff.mp h; unfold s_ArenaOk_b0 at h
    have hc20 : decide (v4 < (p0.Owner.length : Int)) = true := decide_eq_true (by omega)
    refine WC.seq ?_
    refine WC.seq ?_
    refine WC.rs [(0, 2), (1, 2), (2, 1), (3, 2), (4, 2)] rfl ?_
    refine WO.pn 1 rfl ?_
    refine WO.k2 rfl rfl rfl rfl (rn_fieldAddr Try.runUnderlying32 rfl Try.sizeOf22 rfl rfl) ?_
    have f31 := f4.stp (S9.tr (S17.tr S28)) rfl rfl
    refine WO.k1 trivial rfl rfl rfl rfl (rn_ld Try.isAgg22 rfl rfl (hvE (f31.ld 0 rfl rfl))) ?_
    refine WO.k2 rfl rfl rfl rfl (rn_len Try.runUnderlying22 rfl rfl) ?_
    refine WO.pn 1 rfl ?_
    refine WO.fin ?_
    refine DN.seq ?_
    refine WC.ct' rfl hc20 ?_
    refine WC.skip ?_
    refine DN.seq ?_
    refine WC.seq ?_
    refine WC.block ?_
    refine WC.seq ?_
    refine WC.rs [(0, 2), (1, 1), (2, 2), (3, 2), (4, 1), (5, 1), (6, 2), (7, 2), (8, 2), (9, 1), (10, 2), (11, 2), (12, 1), (13, 2), (14, 2), (15, 2), (16, 2), (17, 2), (18, 1), (19, 2), (20, 2), (21, 1), (22, 2), (23, 2), (24, 2), (25, 2), (26, 2), (27, 1), (28, 2), (29, 2), (30, 1), (31, 2), (32, 1), (33, 2), (34, 2)] rfl ?_
    refine WO.k2 rfl rfl rfl rfl (rn_fieldAddr Try.runUnderlying32 rfl Try.sizeOf22 rfl rfl) ?_
    refine WO.k1 trivial rfl rfl rfl rfl (rn_ld Try.isAgg22 rfl rfl (hvE (f31.ld 0 rfl rfl))) ?_
    refine WO.pn 1 rfl ?_
    obtain ⟨x30, hx30, h⟩ := Option.bind_eq_some_iff.mp h
    refine WO.k2 rfl rfl rfl rfl (rn_index g0_0 hx30 Try.runUnderlying22 Try.sizeOf2 rfl rfl rfl rfl) ?_
    have f32 := g0_0.stp (S3.tr (S9.tr (S17.tr S28))) rfl rfl
    refine WO.k1 trivial rfl rfl rfl rfl (rn_ld Try.isAgg2 rfl rfl (hvE (f32.gInt hx30))) ?_
    obtain ⟨x32, hx32, h⟩ := Option.bind_eq_some_iff.mp h
    refine WO.call rfl rfl rfl rfl rfl rfl Try.call75 (s_l1In_ok (κ := fun b => mp [] 0 (K27 b)) hx32) ?_
    rintro _ w33 ⟨k34, rfl, e35⟩
    obtain ⟨K36, S37, m38⟩ := Ent.mixed (l := []) (κ := K27) e35 5 rfl
    refine ⟨trivial, ?_⟩
    refine WO.pn 2 rfl ?_
    obtain ⟨p42, h, hK40⟩ := Option.bind_eq_some_iff.mp h
    refine WO.meet [(8, 2), (9, 1), (10, 2), (11, 2), (12, 1), (13, 2), (14, 2), (15, 2)] [(16, 2), (17, 2), (18, 1), (19, 2), (20, 2), (21, 1), (22, 2), (23, 2), (24, 2), (25, 2), (26, 2), (27, 1), (28, 2), (29, 2), (30, 1), (31, 2), (32, 1), (33, 2), (34, 2)] (fun L w' => L = [(1, .pointer (some ⟨b1, 0, none⟩)), (3, .int .i64 (p0.Owner.length : Int)), (4, .int .i64 v4), (42, .bool p42)] ∧ ∃ κ', Stp [] K36 w33 κ' w') trivial ?_ ?_
    ·
     revert h
     cases ht41 : (!x32) with
     | true =>
      intro h; replace h := cT h
      refine WO.pn 1 rfl ?_
      refine WO.ls rfl rfl rfl rfl ?_
      refine WO.pn 2 rfl ?_
      refine WO.ls rfl rfl rfl rfl ?_
      refine WO.pn 3 rfl ?_
      obtain rfl := Option.some.inj h
      exact WO.met _ trivial ⟨rfl, _, (Stp.refl _ _).wk rfl⟩ fun a ha => (ha.more (ha.more (ha.more (ha.more ha.nil rfl) rfl) rfl) rfl)
     | false =>
      intro h; replace h := cF h
      refine WO.k2 rfl rfl rfl rfl (rn_fieldAddr Try.runUnderlying32 rfl Try.sizeOf23 rfl rfl) ?_
      have f42 := f31.stp S37 rfl rfl
      refine WO.k1 trivial rfl rfl rfl rfl (rn_ld Try.isAgg23 rfl rfl (hvE (f42.ld 1 rfl rfl))) ?_
      refine WO.pn 1 rfl ?_
      obtain ⟨x38, hx38, h⟩ := Option.bind_eq_some_iff.mp h
      refine WO.k2 rfl rfl rfl rfl (rn_index g0_1 hx38 Try.runUnderlying23 Try.sizeOf22 rfl rfl rfl rfl) ?_
      have f43 := g0_1.stp (S3.tr (S9.tr (S17.tr (S28.tr S37)))) rfl rfl
      obtain ⟨ax38, ux38, f44, hl45⟩ := f43.gSl hx38
      refine WO.k1 trivial rfl rfl rfl rfl (rn_ld Try.isAgg22 rfl rfl (hvE hl45)) ?_
      refine WO.k2 rfl rfl rfl rfl (rn_len Try.runUnderlying22 rfl rfl) ?_
      refine WO.pn 2 rfl ?_
      obtain rfl := Option.some.inj h
      exact WO.met _ trivial ⟨rfl, _, (Stp.refl _ _).wk rfl⟩ fun a ha => (ha.more (ha.more (ha.more (ha.more ha.nil rfl) rfl) rfl) rfl)
    rintro _ w46 _ ⟨rfl, K47, S48⟩
    have h := hK40
    refine WO.pn 1 rfl ?_
    obtain ⟨p51, h, hK49⟩ := Option.bind_eq_some_iff.mp h
    refine WO.meet [(17, 2), (18, 1), (19, 2), (20, 2), (21, 1), (22, 2), (23, 2), (24, 2)] [(25, 2), (26, 2), (27, 1), (28, 2), (29, 2), (30, 1), (31, 2), (32, 1), (33, 2), (34, 2)] (fun L w' => L = [(1, .pointer (some ⟨b1, 0, none⟩)), (3, .int .i64 (p0.Owner.length : Int)), (4, .int .i64 v4), (51, .bool p51)] ∧ ∃ κ', Stp [] K47 w46 κ' w') trivial ?_ ?_
    ·
     revert h
     cases ht50 : p42 with
     | true =>
      intro h; replace h := cT h
      refine WO.pn 1 rfl ?_
      refine WO.ls rfl rfl rfl rfl ?_
      refine WO.pn 2 rfl ?_
      refine WO.ls rfl rfl rfl rfl ?_
      refine WO.pn 3 rfl ?_
      obtain rfl := Option.some.inj h
      exact WO.met _ trivial ⟨rfl, _, (Stp.refl _ _).wk rfl⟩ fun a ha => (ha.more (ha.more (ha.more (ha.more ha.nil rfl) rfl) rfl) rfl)
     | false =>
      intro h; replace h := cF h
      refine WO.k2 rfl rfl rfl rfl (rn_fieldAddr Try.runUnderlying32 rfl Try.sizeOf23 rfl rfl) ?_
      have f51 := f31.stp (S37.tr S48) rfl rfl
      refine WO.k1 trivial rfl rfl rfl rfl (rn_ld Try.isAgg23 rfl rfl (hvE (f51.ld 1 rfl rfl))) ?_
      refine WO.pn 1 rfl ?_
      obtain ⟨x47, hx47, h⟩ := Option.bind_eq_some_iff.mp h
      refine WO.k2 rfl rfl rfl rfl (rn_index g0_1 hx47 Try.runUnderlying23 Try.sizeOf22 rfl rfl rfl rfl) ?_
      have f52 := g0_1.stp (S3.tr (S9.tr (S17.tr (S28.tr (S37.tr S48))))) rfl rfl
      obtain ⟨ax47, ux47, f53, hl54⟩ := f52.gSl hx47
      refine WO.k1 trivial rfl rfl rfl rfl (rn_ld Try.isAgg22 rfl rfl (hvE hl54)) ?_
      refine WO.k2 rfl rfl rfl rfl (rn_len Try.runUnderlying22 rfl rfl) ?_
      refine WO.pn 2 rfl ?_
      obtain rfl := Option.some.inj h
      exact WO.met _ trivial ⟨rfl, _, (Stp.refl _ _).wk rfl⟩ fun a ha => (ha.more (ha.more (ha.more (ha.more ha.nil rfl) rfl) rfl) rfl)
    rintro _ w55 _ ⟨rfl, K56, S57⟩
    have h := hK49
    refine WO.pn 1 rfl ?_
    obtain ⟨p61, h, hK58⟩ := Option.bind_eq_some_iff.mp h
    refine WO.meet [(26, 2), (27, 1), (28, 2), (29, 2), (30, 1), (31, 2), (32, 1), (33, 2), (34, 2)] [] (fun L w' => L = [(1, .pointer (some ⟨b1, 0, none⟩)), (3, .int .i64 (p0.Owner.length : Int)), (4, .int .i64 v4), (61, .bool p61)] ∧ ∃ κ', Stp [] K56 w55 κ' w') trivial ?_ ?_
    ·
     revert h
     cases ht59 : p51 with
     | true =>
      intro h; replace h := cT h
      refine WO.pn 1 rfl ?_
      refine WO.ls rfl rfl rfl rfl ?_
      refine WO.pn 2 rfl ?_
      refine WO.ls rfl rfl rfl rfl ?_
      refine WO.pn 1 rfl ?_
      refine WO.ls rfl rfl rfl rfl ?_
      refine WO.pn 2 rfl ?_
      obtain rfl := Option.some.inj h
      exact WO.met _ trivial ⟨rfl, _, (Stp.refl _ _).wk rfl⟩ fun a ha => (ha.more (ha.more (ha.more (ha.more ha.nil rfl) rfl) rfl) rfl)
     | false =>
      intro h; replace h := cF h
      refine WO.k2 rfl rfl rfl rfl (rn_fieldAddr Try.runUnderlying32 rfl Try.sizeOf23 rfl rfl) ?_
      have f60 := f31.stp (S37.tr (S48.tr S57)) rfl rfl
      refine WO.k1 trivial rfl rfl rfl rfl (rn_ld Try.isAgg23 rfl rfl (hvE (f60.ld 1 rfl rfl))) ?_
      refine WO.pn 1 rfl ?_
      obtain ⟨x56, hx56, h⟩ := Option.bind_eq_some_iff.mp h
      refine WO.k2 rfl rfl rfl rfl (rn_index g0_1 hx56 Try.runUnderlying23 Try.sizeOf22 rfl rfl rfl rfl) ?_
      have f61 := g0_1.stp (S3.tr (S9.tr (S17.tr (S28.tr (S37.tr (S48.tr S57)))))) rfl rfl
      obtain ⟨ax56, ux56, f62, hl63⟩ := f61.gSl hx56
      refine WO.k1 trivial rfl rfl rfl rfl (rn_ld Try.isAgg22 rfl rfl (hvE hl63)) ?_
      refine WO.pn 1 rfl ?_
      obtain ⟨x59, hx59, h⟩ := Option.bind_eq_some_iff.mp h
      refine WO.call rfl rfl rfl rfl rfl rfl Try.call50 (s_l1Set_ok (κ := fun b => mp [] 0 (K56 b)) (Sl.map f62 (mp [] 0) rfl rfl) hx59) ?_
      rintro _ w64 ⟨k65, rfl, e66⟩
      obtain ⟨K67, S68, m69⟩ := Ent.mixed (l := []) (κ := K56) e66 7 rfl
      refine ⟨trivial, ?_⟩
      refine WO.pn 2 rfl ?_
      obtain rfl := Option.some.inj h
      exact WO.met _ trivial ⟨rfl, _, S68.wk rfl⟩ fun a ha => (ha.more (ha.more (ha.more (ha.more ha.nil rfl) rfl) rfl) rfl)
    rintro _ w71 _ ⟨rfl, K72, S73⟩
    have h := hK58
    refine WO.fin ?_
    refine DN.seq ?_
    revert h
    cases ht74 : p61 with
    | true =>
     intro h; replace h := cT h
     refine WC.ct rfl ?_
     refine WC.seq ?_
     refine WC.rs [(0, 2)] rfl ?_
     refine WO.pn 1 rfl ?_
     refine WO.fin ?_
     refine DN.seq ?_
     refine WC.ret ?_
     refine DN.retBlock ?_
     refine DN.retThen ?_
     refine DN.retThen ?_
     obtain rfl := Option.some.inj h
     obtain rfl := Option.some.inj hk29
     have h := hK21
     dsimp only [aft] at h
     refine DN.retBlock ?_
     refine DN.retMeet ?_
     refine DN.retThen ?_
     have f75 := hE.stp (S3.tr (S9.tr (S17.tr (S28.tr (S37.tr (S48.tr (S57.tr S73))))))) rfl rfl
     refine DN.res (l := [.tmp 2]) Try.results115 (res_tmp rfl rfl) rfl ?_
     obtain rfl := Option.some.inj h
     exact ⟨K72, rfl, f75⟩
    | false =>
     intro h; replace h := cF h
     refine WC.cf rfl ?_
     refine WC.skip ?_
     refine DN.block ?_
     refine DN.seq ?_
     refine WC.rs [(0, 2), (1, 2), (2, 2)] rfl ?_
     refine WO.pn 3 rfl ?_
     refine WO.fin ?_
     have hw20 : IntKind.wrap .i64 (v4 + 1) = v4 + 1 := wr1 hj20 (of_decide_eq_true hc20) hN20
     rw [hw20]
     have hc20 := of_decide_eq_true hc20
     obtain rfl := Option.some.inj h
     refine DN.round fun a ha => ?_
     exact ⟨k, _, Nat.lt_succ_self _, ⟨K72, v4 + 1, rfl, (S28.tr (S37.tr (S48.tr (S57.tr S73)))).wk rfl, by omega, by omega, hk29⟩, (ha.more (ha.more (ha.more ha.nil rfl) rfl) rfl)⟩
  rintro _ w23 ⟨K24, rfl, S25, rfl⟩
  have h := hK21
  dsimp only [aft] at h
  refine DN.seq ?_
  refine WC.seq ?_
  refine WC.rs [(0, 2)] rfl ?_
  refine WO.pn 1 rfl ?_
  refine WO.fin ?_
  refine DN.seq ?_
  refine WC.ret ?_
  have f76 := hE.stp (S3.tr (S9.tr (S17.tr S25))) rfl rfl
  refine DN.res (l := [.tmp 2]) Try.results115 (res_tmp rfl rfl) rfl ?_
  obtain rfl := Option.some.inj h
  exact ⟨K24, rfl, f76⟩

/- loop.example/g00869/spec.l32Do -/
theorem s_l32Do_ok {w : World} {κ : Col} {a0_0_0 : Option Addr} {u0_0_0 : Nat} {a0_0_1 : Option Addr} {u0_0_1 : Nat} {a0_1 : Option Addr} {u0_1 : Nat} {p0 : Parity} {p1 : Edit} (g0_0_0 : Rd (Rp.int .i64) κ w 0 a0_0_0 u0_0_0 p0.Arena.Owner) (g0_0_1 : Rd (Rp.sl (Rp.int .i64)) κ w 0 a0_0_1 u0_0_1 p0.Arena.Next) (g0_1 : Rd (Rp.int .i64) κ w 0 a0_1 u0_1 p0.Prio) {r : Parity} (h : s_l32Do p0 p1 = some r) : Ret Try.prog 40 [.agg #[.slice a0_0_0 p0.Arena.Owner.length u0_0_0, .slice a0_0_1 p0.Arena.Next.length u0_0_1, .slice a0_1 p0.Prio.length u0_1], .agg #[.int .i64 p1.Kind, .int .i64 p1.V, .int .i64 p1.N]] w (fun v w' => ∃ (κ' : Col) (ra0 : Option Addr) (ru0 : Nat) (ra1 : Option Addr) (ru1 : Nat) (ra2 : Option Addr) (ru2 : Nat), v = .agg #[.slice ra0 r.Arena.Owner.length ru0, .slice ra1 r.Arena.Next.length ru1, .slice ra2 r.Prio.length ru2] ∧ Ent κ w κ' w' ∧ Oc (Ep.int .i64) 2 κ' w' 2 ra0 ru0 r.Arena.Owner ∧ Oc (Ep.fz (Rp.sl (Rp.int .i64))) 22 κ' w' 3 ra1 ru1 r.Arena.Next ∧ Oc (Ep.int .i64) 2 κ' w' 4 ra2 ru2 r.Prio) := by
 unfold s_l32Do at h
 refine Ret.enter Try.func40 rfl Try.ntmps40 rfl ?_
 dsimp only [envOf]
 have hE := Ent.refl κ w
 refine WC.seq ?_
 refine WC.rs [(0, 1), (1, 1), (2, 1)] rfl ?_
 refine WO.box (κ := κ) 2 rfl rfl rfl rfl rfl rfl rfl fun b2 w1 K2 S3 f4 => ⟨trivial, ?_⟩
 refine WO.box (κ := K2) 3 rfl rfl rfl rfl rfl rfl rfl fun b3 w5 K6 S7 f8 => ⟨trivial, ?_⟩
 refine WO.alloc (κ := K6) 4 rfl rfl rfl rfl rfl Try.zeroValue34 rfl fun b4 w9 K10 S11 f12 => ⟨trivial, ?_⟩
 refine WO.fin ?_
 refine DN.seq ?_
 refine WC.seq ?_
 refine WC.rs [(0, 1), (1, 1), (2, 1), (3, 1)] rfl ?_
 have f13 := f4.stp (S7.tr S11) rfl rfl
 refine WO.k1 trivial rfl rfl rfl rfl (rn_la (cs := [.slice a0_0_0 p0.Arena.Owner.length u0_0_0, .slice a0_0_1 p0.Arena.Next.length u0_0_1, .slice a0_1 p0.Prio.length u0_1]) Try.isAgg34 Try.sizeOf34 rfl rfl rfl (haE f13.cells)) ?_
 obtain ⟨x9, hx9, h⟩ := Option.bind_eq_some_iff.mp h
 have f14 := g0_0_0.stp (S3.tr (S7.tr S11)) rfl rfl
 have f15 := g0_0_1.stp (S3.tr (S7.tr S11)) rfl rfl
 have f16 := g0_1.stp (S3.tr (S7.tr S11)) rfl rfl
 refine WO.call rfl rfl rfl rfl rfl rfl Try.call81 (s_l4Copy_ok (κ := fun b => mp [] 1 (K10 b)) (p0 := p0) (Sl.map f14 (mp [] 1) rfl rfl) (Sl.map f15 (mp [] 1) rfl rfl) (Sl.map f16 (mp [] 1) rfl rfl) hx9) ?_
 rintro _ w17 ⟨k18, a9_0, u9_0, a9_1, u9_1, a9_2, u9_2, rfl, e19, f20, f21, f22⟩
 obtain ⟨K23, S24, m25, z26⟩ := Ent.mixed0 (l := []) (κ := K10) e19 5 rfl
 refine ⟨trivial, ?_⟩
 have f27 := f20.mx (no_int _) m25 rfl (rfl : 5 + 2 = 7)
 have f28 := f21.mxz z26 m25 rfl (rfl : 5 + 3 = 8)
 have f29 := f22.mx (no_int _) m25 rfl (rfl : 5 + 4 = 9)
 refine WO.alloc (κ := K23) 10 rfl rfl rfl rfl rfl Try.zeroValue34 rfl fun b5 w30 K31 S32 f33 => ⟨trivial, ?_⟩
 refine WO.stB0 (κ := K31) 10 (vc := [.slice a9_0 x9.Arena.Owner.length u9_0, .slice a9_1 x9.Arena.Next.length u9_1, .slice a9_2 x9.Prio.length u9_2]) rfl rfl rfl rfl rfl rfl rfl Try.sizeOf34 rfl rfl f33 rfl fun w34 S35 f36 => ⟨trivial, ?_⟩
 refine WO.fin ?_
 refine DN.seq ?_
 refine WC.seq ?_
 refine WC.seq ?_
 refine WC.rs [(0, 2), (1, 1)] rfl ?_
 refine WO.k2 rfl rfl rfl rfl (rn_fieldAddr Try.runUnderlying36 rfl Try.sizeOf2 rfl rfl) ?_
 have f37 := f8.stp (S11.tr (S24.tr (S32.tr S35))) rfl rfl
 refine WO.k1 trivial rfl rfl rfl rfl (rn_ld Try.isAgg2 rfl rfl (hvE (f37.ld 0 rfl rfl))) ?_
 refine WO.fin ?_
 refine DN.seq ?_
 refine WC.block ?_
 refine WC.seq ?_
 refine WC.rs [(0, 2), (1, 2)] rfl ?_
 refine WO.pn 2 rfl ?_
 refine WO.fin ?_
 refine DN.seq ?_
 obtain ⟨q1, h, hK38⟩ := Option.bind_eq_some_iff.mp h
 refine WC.meet (fun L w' => ∃ (κ' : Col), L = [(4, .pointer (some ⟨b4, 0, none⟩)), (5, .pointer (some ⟨b5, 0, none⟩))] ∧ Stp [7, 8, 9, 11] K31 w34 κ' w' ∧ Oc (Ep.int .i64) 2 κ' w' 7 a9_0 u9_0 q1.1 ∧ x9.Arena.Owner.length = q1.1.length ∧ Oc (Ep.fz (Rp.sl (Rp.int .i64))) 22 κ' w' 8 a9_1 u9_1 q1.2.1 ∧ x9.Arena.Next.length = q1.2.1.length ∧ Oc (Ep.int .i64) 2 κ' w' 9 a9_2 u9_2 q1.2.2 ∧ x9.Prio.length = q1.2.2.length) ?_ ?_
 ·
  revert h
  cases ht48 : (p1.Kind == 1) with
  | true =>
   intro h; replace h := cT h
   refine WC.ct rfl ?_
   refine WC.rs [(0, 2), (1, 1), (2, 2), (3, 1), (4, 2), (5, 1), (6, 2), (7, 1)] rfl ?_
   refine WO.k2 rfl rfl rfl rfl (rn_fieldAddr Try.runUnderlying34 rfl Try.sizeOf22 rfl rfl) ?_
   refine WO.k1 trivial rfl rfl rfl rfl (rn_ld Try.isAgg22 rfl rfl (hvE (f36.ld 2 rfl rfl))) ?_
   refine WO.k2 rfl rfl rfl rfl (rn_fieldAddr Try.runUnderlying36 rfl Try.sizeOf2 rfl rfl) ?_
   refine WO.k1 trivial rfl rfl rfl rfl (rn_ld Try.isAgg2 rfl rfl (hvE (f37.ld 1 rfl rfl))) ?_
   refine WO.k2 rfl rfl rfl rfl (rn_fieldAddr Try.runUnderlying36 rfl Try.sizeOf2 rfl rfl) ?_
   refine WO.k1 trivial rfl rfl rfl rfl (rn_ld Try.isAgg2 rfl rfl (hvE (f37.ld 2 rfl rfl))) ?_
   obtain ⟨x20, hx20, h⟩ := Option.bind_eq_some_iff.mp h
   refine WO.k2 rfl rfl rfl rfl (rn_index f29.rdc hx20 Try.runUnderlying22 Try.sizeOf2 rfl rfl rfl rfl) ?_
   have f49 := f29.stp (S32.tr S35) rfl rfl
   obtain ⟨y34, hy34, h⟩ := Option.bind_eq_some_iff.mp h
   refine WO.stI (κ := K31) (E := (Ep.int .i64)) 9 [] rfl rfl rfl rfl rfl rfl rfl rfl Try.sizeOf2 rfl rfl rfl rfl f49 hy34 fun w50 K51 S52 f53 => ⟨trivial, ?_⟩
   have hn54 : x9.Prio.length = y34.length := (setI_ok hy34).2.2.2.symm
   refine WO.fin ?_
   have f55 := f27.stp (S32.tr (S35.tr S52)) rfl rfl
   have f56 := f28.stp (S32.tr (S35.tr S52)) rfl rfl
   obtain rfl := Option.some.inj h
   exact DN.meet _ ⟨K51, rfl, S52.wk rfl, f55, rfl, f56, rfl, f53, hn54⟩ fun a ha => (ha.more (ha.more ha.nil rfl) rfl)
  | false =>
   intro h; replace h := cF h
   refine WC.cf rfl ?_
   refine WC.seq ?_
   refine WC.rs [(0, 2), (1, 2)] rfl ?_
   refine WO.pn 2 rfl ?_
   refine WO.fin ?_
   refine DN.seq ?_
   obtain ⟨q2, h, hK57⟩ := Option.bind_eq_some_iff.mp h
   refine WC.meet (fun L w' => ∃ (κ' : Col), L = [(4, .pointer (some ⟨b4, 0, none⟩)), (5, .pointer (some ⟨b5, 0, none⟩))] ∧ Stp [7, 8, 11] K31 w34 κ' w' ∧ Oc (Ep.int .i64) 2 κ' w' 7 a9_0 u9_0 q2.1 ∧ x9.Arena.Owner.length = q2.1.length ∧ Oc (Ep.fz (Rp.sl (Rp.int .i64))) 22 κ' w' 8 a9_1 u9_1 q2.2 ∧ x9.Arena.Next.length = q2.2.length) ?_ ?_
   ·
    revert h
    cases ht65 : (p1.Kind == 2) with
    | true =>
     intro h; replace h := cT h
     refine WC.ct rfl ?_
     refine WC.rs [(0, 2), (1, 2), (2, 1), (3, 2), (4, 1), (5, 2), (6, 1), (7, 2), (8, 1)] rfl ?_
     refine WO.k2 rfl rfl rfl rfl (rn_fieldAddr Try.runUnderlying34 rfl Try.sizeOf32 rfl rfl) ?_
     refine WO.k2 rfl rfl rfl rfl (rn_fieldAddr Try.runUnderlying32 rfl Try.sizeOf22 rfl rfl) ?_
     refine WO.k1 trivial rfl rfl rfl rfl (rn_ld Try.isAgg22 rfl rfl (hvE (f36.ld 0 rfl rfl))) ?_
     refine WO.k2 rfl rfl rfl rfl (rn_fieldAddr Try.runUnderlying36 rfl Try.sizeOf2 rfl rfl) ?_
     refine WO.k1 trivial rfl rfl rfl rfl (rn_ld Try.isAgg2 rfl rfl (hvE (f37.ld 1 rfl rfl))) ?_
     refine WO.k2 rfl rfl rfl rfl (rn_fieldAddr Try.runUnderlying36 rfl Try.sizeOf2 rfl rfl) ?_
     refine WO.k1 trivial rfl rfl rfl rfl (rn_ld Try.isAgg2 rfl rfl (hvE (f37.ld 2 rfl rfl))) ?_
     obtain ⟨x30, hx30, h⟩ := Option.bind_eq_some_iff.mp h
     refine WO.k2 rfl rfl rfl rfl (rn_index f27.rdc hx30 Try.runUnderlying22 Try.sizeOf2 rfl rfl rfl rfl) ?_
     have f66 := f27.stp (S32.tr S35) rfl rfl
     obtain ⟨y35, hy35, h⟩ := Option.bind_eq_some_iff.mp h
     refine WO.stI (κ := K31) (E := (Ep.int .i64)) 7 [] rfl rfl rfl rfl rfl rfl rfl rfl Try.sizeOf2 rfl rfl rfl rfl f66 hy35 fun w67 K68 S69 f70 => ⟨trivial, ?_⟩
     have hn71 : x9.Arena.Owner.length = y35.length := (setI_ok hy35).2.2.2.symm
     refine WO.fin ?_
     have f72 := f28.stp (S32.tr (S35.tr S69)) rfl rfl
     obtain rfl := Option.some.inj h
     exact DN.meet _ ⟨K68, rfl, S69.wk rfl, f70, hn71, f72, rfl⟩ fun a ha => (ha.more (ha.more ha.nil rfl) rfl)
    | false =>
     intro h; replace h := cF h
     refine WC.cf rfl ?_
     refine WC.seq ?_
     refine WC.rs [(0, 2), (1, 2)] rfl ?_
     refine WO.pn 2 rfl ?_
     refine WO.fin ?_
     refine DN.seq ?_
     obtain ⟨q3, h, hK73⟩ := Option.bind_eq_some_iff.mp h
     refine WC.meet (fun L w' => ∃ (κ' : Col), L = [(4, .pointer (some ⟨b4, 0, none⟩)), (5, .pointer (some ⟨b5, 0, none⟩))] ∧ Stp [8, 11] K31 w34 κ' w' ∧ Oc (Ep.fz (Rp.sl (Rp.int .i64))) 22 κ' w' 8 a9_1 u9_1 q3 ∧ x9.Arena.Next.length = q3.length) ?_ ?_
     ·
      revert h
      cases ht79 : (p1.Kind == 3) with
      | true =>
       intro h; replace h := cT h
       refine WC.ct rfl ?_
       refine WC.rx (κ := K31) [0, 3, 8, 10] (some 16) [(0, 2), (1, 2), (3, 2), (5, 2), (6, 2), (8, 2), (12, 2), (2, 0), (4, 0), (7, 0), (9, 0), (10, 2), (11, 0), (13, 0), (14, 1), (15, 2)] [(16, 1)] (by kernel_rfl) (by kernel_rfl) fun w81 S80 => ?_
       refine WO.k2 rfl rfl rfl rfl (rn_fieldAddr Try.runUnderlying34 rfl Try.sizeOf32 rfl rfl) ?_
       refine WO.k2 rfl rfl rfl rfl (rn_fieldAddr Try.runUnderlying32 rfl Try.sizeOf23 rfl rfl) ?_
       refine WO.k2 rfl rfl rfl rfl (rn_fieldAddr Try.runUnderlying36 rfl Try.sizeOf2 rfl rfl) ?_
       refine WO.k2 rfl rfl rfl rfl (rn_fieldAddr Try.runUnderlying34 rfl Try.sizeOf32 rfl rfl) ?_
       refine WO.k2 rfl rfl rfl rfl (rn_fieldAddr Try.runUnderlying32 rfl Try.sizeOf23 rfl rfl) ?_
       refine WO.k2 rfl rfl rfl rfl (rn_fieldAddr Try.runUnderlying36 rfl Try.sizeOf2 rfl rfl) ?_
       refine WO.k2 rfl rfl rfl rfl (rn_fieldAddr Try.runUnderlying36 rfl Try.sizeOf2 rfl rfl) ?_
       have f82 := f36.stp S80 rfl rfl
       refine WO.k0 rfl rfl rfl rfl (rn_ld Try.isAgg23 rfl rfl (hvC (f82.ld 1 rfl rfl) rfl)) ?_
       have f83 := f37.stp S80 rfl rfl
       refine WO.k0 rfl rfl rfl rfl (rn_ld Try.isAgg2 rfl rfl (hvC (f83.ld 1 rfl rfl) rfl)) ?_
       refine WO.k0 rfl rfl rfl rfl (rn_ld Try.isAgg23 rfl rfl (hvC (f82.ld 1 rfl rfl) rfl)) ?_
       refine WO.k0 rfl rfl rfl rfl (rn_ld Try.isAgg2 rfl rfl (hvC (f83.ld 1 rfl rfl) rfl)) ?_
       obtain ⟨x43, hx43, h⟩ := Option.bind_eq_some_iff.mp h
       refine WO.k2 rfl rfl rfl rfl (rn_index f28.rdc hx43 Try.runUnderlying23 Try.sizeOf22 rfl rfl rfl rfl) ?_
       have f84 := f28.stp (S32.tr (S35.tr S80)) rfl rfl
       obtain ⟨ax43, ux43, f85, hl86⟩ := f84.gZ hx43
       refine WO.k0 rfl rfl rfl rfl (rn_ld Try.isAgg22 rfl rfl (hvC hl86 rfl)) ?_
       refine WO.k0 rfl rfl rfl rfl (rn_ld Try.isAgg2 rfl rfl (hvC (f83.ld 2 rfl rfl) rfl)) ?_
       obtain ⟨x47, hx47, h⟩ := Option.bind_eq_some_iff.mp h
       refine WO.call rfl rfl rfl rfl rfl rfl Try.call82 (s_l1Into_ok (κ := fun b => mp [] 1 (K31 b)) (Sl.map f85 (mp [] 1) rfl rfl) hx47) ?_
       rintro _ w87 ⟨k88, a47_0, u47_0, rfl, e89, f90⟩
       obtain ⟨K91, S92, m93, z94⟩ := Ent.mixed0 (l := []) (κ := K31) e89 11 rfl
       refine ⟨(S92.cl rfl), ?_⟩
       have f95 := f90.mx z94
       obtain ⟨x48, hx48, h⟩ := Option.bind_eq_some_iff.mp h
       refine WO.k2 rfl rfl rfl rfl (rn_index f84.rdc hx48 Try.runUnderlying23 Try.sizeOf22 rfl rfl rfl rfl) ?_
       refine WO.nx ?_
       have f96 := f84.stp S92 rfl rfl
       obtain ⟨y37, hy37, h⟩ := Option.bind_eq_some_iff.mp h
       refine WO.stI (κ := K91) (E := (Ep.fz (Rp.sl (Rp.int .i64)))) 8 [] rfl rfl rfl rfl rfl rfl rfl rfl Try.sizeOf22 rfl ⟨_, _, rfl, (Sl.z1 f95)⟩ rfl rfl f96 hy37 fun w97 K98 S99 f100 => ⟨trivial, ?_⟩
       have hn101 : x9.Arena.Next.length = y37.length := (setI_ok hy37).2.2.2.symm
       refine WO.fin ?_
       obtain rfl := Option.some.inj h
       exact DN.meet _ ⟨K98, rfl, (S80.tr (S92.tr S99)).wk rfl, f100, hn101⟩ fun a ha => (ha.more (ha.more ha.nil rfl) rfl)
      | false =>
       intro h; replace h := cF h
       refine WC.cf rfl ?_
       refine WC.seq ?_
       refine WC.rs [(0, 2), (1, 2)] rfl ?_
       refine WO.pn 2 rfl ?_
       refine WO.fin ?_
       refine DN.seq ?_
       obtain ⟨q4, h, hK102⟩ := Option.bind_eq_some_iff.mp h
       refine WC.meet (fun L w' => ∃ (κ' : Col), L = [(4, .pointer (some ⟨b4, 0, none⟩)), (5, .pointer (some ⟨b5, 0, none⟩))] ∧ Stp [8, 11] K31 w34 κ' w' ∧ Oc (Ep.fz (Rp.sl (Rp.int .i64))) 22 κ' w' 8 a9_1 u9_1 q4 ∧ x9.Arena.Next.length = q4.length) ?_ ?_
       ·
        revert h
        cases ht108 : (p1.Kind == 4) with
        | true =>
         intro h; replace h := cT h
         refine WC.ct rfl ?_
         refine WC.seq ?_
         refine WC.rs [(0, 1), (1, 2)] rfl ?_
         refine WO.bl0 (κ := K31) (E := (Ep.int .i64)) 11 rfl rfl rfl rfl rfl Try.underlying22 Tryinfo2 rfl fun a51 u51 w109 K110 S111 f112 => ⟨trivial, ?_⟩
         refine WO.pn 1 rfl ?_
         refine WO.fin ?_
         refine DN.seq ?_
         refine WC.seq ?_
         refine WC.seq ?_
         refine WC.rs [(0, 2)] rfl ?_
         refine WO.pn 1 rfl ?_
         refine WO.fin ?_
         refine DN.seq ?_
         obtain ⟨q6, hq115, hK114⟩ := Option.bind_eq_some_iff.mp h
         clear h
         refine WC.meet (fun L w' => ∃ (κ' : Col) (s7 : (List Int) × Int) (las7_0 : Option Addr) (lus7_0 : Nat), L = [(3, .pointer (some ⟨b3, 0, none⟩)), (4, .pointer (some ⟨b4, 0, none⟩)), (5, .pointer (some ⟨b5, 0, none⟩)), (6, .slice las7_0 s7.1.length lus7_0)] ∧ Stp [11] K110 w109 κ' w' ∧ Oc (Ep.int .i64) 2 κ' w' 11 las7_0 lus7_0 s7.1 ∧ q6 = Sum.inr s7) ?_ ?_
         ·
          refine WC.block ?_
          refine WC.loop (fun k L w' => ∃ (κ' : Col) (s5 : (List Int) × Int) (las5_0 : Option Addr) (lus5_0 : Nat), L = [(2, .pointer (some ⟨b2, 0, none⟩)), (3, .pointer (some ⟨b3, 0, none⟩)), (4, .pointer (some ⟨b4, 0, none⟩)), (5, .pointer (some ⟨b5, 0, none⟩)), (6, .slice las5_0 s5.1.length lus5_0), (7, .int .i64 s5.2)] ∧ Stp [11] K110 w109 κ' w' ∧ Oc (Ep.int .i64) 2 κ' w' 11 las5_0 lus5_0 s5.1 ∧ whileM (s_l32Do_b1 p0 p1) k s5 = some q6) ⟨_, _, ⟨K110, ((([] : List Int) : (List Int)), (0 : Int)), a51, u51, rfl, (Stp.refl _ _).wk rfl, f112, hq115⟩, fun a ha => (ha.more (ha.more (ha.more (ha.more (ha.more (ha.more ha.nil rfl) rfl) rfl) rfl) rfl) rfl)⟩ ?_
          rintro k _ w120 ⟨K121, s5, las5_0, lus5_0, rfl, S122, f123, h⟩
          rcases k with _ | k
          ·
           cases h
          ·
           obtain ⟨o113, h, hk124⟩ := Option.bind_eq_some_iff.mp h; unfold s_l32Do_b1 at h
           refine WC.seq ?_
           refine WC.seq ?_
           refine WC.rs [(0, 2), (1, 2), (2, 2), (3, 1), (4, 2), (5, 1), (6, 2), (7, 1), (8, 2), (9, 2)] rfl ?_
           refine WO.pn 1 rfl ?_
           refine WO.k2 rfl rfl rfl rfl (rn_fieldAddr Try.runUnderlying34 rfl Try.sizeOf32 rfl rfl) ?_
           refine WO.k2 rfl rfl rfl rfl (rn_fieldAddr Try.runUnderlying32 rfl Try.sizeOf23 rfl rfl) ?_
           have f125 := f13.stp (S24.tr (S32.tr (S35.tr (S111.tr S122)))) rfl rfl
           refine WO.k1 trivial rfl rfl rfl rfl (rn_ld Try.isAgg23 rfl rfl (hvE (f125.ld 1 rfl rfl))) ?_
           refine WO.k2 rfl rfl rfl rfl (rn_fieldAddr Try.runUnderlying36 rfl Try.sizeOf2 rfl rfl) ?_
           have f126 := f37.stp (S111.tr S122) rfl rfl
           refine WO.k1 trivial rfl rfl rfl rfl (rn_ld Try.isAgg2 rfl rfl (hvE (f126.ld 1 rfl rfl))) ?_
           obtain ⟨x58, hx58, h⟩ := Option.bind_eq_some_iff.mp h
           refine WO.k2 rfl rfl rfl rfl (rn_index f15 hx58 Try.runUnderlying23 Try.sizeOf22 rfl rfl rfl rfl) ?_
           have f127 := f15.stp (S24.tr (S32.tr (S35.tr (S111.tr S122)))) rfl rfl
           obtain ⟨ax58, ux58, f128, hl129⟩ := f127.gSl hx58
           refine WO.k1 trivial rfl rfl rfl rfl (rn_ld Try.isAgg22 rfl rfl (hvE hl129)) ?_
           refine WO.k2 rfl rfl rfl rfl (rn_len Try.runUnderlying22 rfl rfl) ?_
           refine WO.pn 1 rfl ?_
           refine WO.fin ?_
           refine DN.seq ?_
           revert h
           cases ht130 : decide (s5.2 < (x58.length : Int)) with
           | true =>
            intro h; replace h := cT h
            refine WC.ct rfl ?_
            refine WC.skip ?_
            refine DN.seq ?_
            refine WC.seq ?_
            refine WC.block ?_
            refine WC.seq ?_
            refine WC.rx (κ := K121) [0, 2, 3] none [(0, 2), (1, 2), (3, 2), (7, 2), (10, 2), (2, 0), (4, 0), (5, 2), (6, 0), (8, 2), (9, 0), (11, 0), (12, 2)] [] (by kernel_rfl) (by kernel_rfl) fun w132 S131 => ?_
            refine WO.k2 rfl rfl rfl rfl (rn_fieldAddr Try.runUnderlying34 rfl Try.sizeOf32 rfl rfl) ?_
            refine WO.k2 rfl rfl rfl rfl (rn_fieldAddr Try.runUnderlying32 rfl Try.sizeOf23 rfl rfl) ?_
            refine WO.k2 rfl rfl rfl rfl (rn_fieldAddr Try.runUnderlying36 rfl Try.sizeOf2 rfl rfl) ?_
            refine WO.pn 1 rfl ?_
            refine WO.k2 rfl rfl rfl rfl (rn_fieldAddr Try.runUnderlying36 rfl Try.sizeOf2 rfl rfl) ?_
            have f133 := f125.stp S131 rfl rfl
            refine WO.k0 rfl rfl rfl rfl (rn_ld Try.isAgg23 rfl rfl (hvC (f133.ld 1 rfl rfl) rfl)) ?_
            have f134 := f126.stp S131 rfl rfl
            refine WO.k0 rfl rfl rfl rfl (rn_ld Try.isAgg2 rfl rfl (hvC (f134.ld 1 rfl rfl) rfl)) ?_
            obtain ⟨x69, hx69, h⟩ := Option.bind_eq_some_iff.mp h
            refine WO.k2 rfl rfl rfl rfl (rn_index f127 hx69 Try.runUnderlying23 Try.sizeOf22 rfl rfl rfl rfl) ?_
            have f135 := f127.stp S131 rfl rfl
            obtain ⟨ax69, ux69, f136, hl137⟩ := f135.gSl hx69
            refine WO.k0 rfl rfl rfl rfl (rn_ld Try.isAgg22 rfl rfl (hvC hl137 rfl)) ?_
            obtain ⟨x72, hx72, h⟩ := Option.bind_eq_some_iff.mp h
            refine WO.k2 rfl rfl rfl rfl (rn_index f136 hx72 Try.runUnderlying22 Try.sizeOf2 rfl rfl rfl rfl) ?_
            refine WO.k0 rfl rfl rfl rfl (rn_ld Try.isAgg2 rfl rfl (hvC (f136.gInt hx72) rfl)) ?_
            refine WO.k0 rfl rfl rfl rfl (rn_ld Try.isAgg2 rfl rfl (hvC (f134.ld 2 rfl rfl) rfl)) ?_
            refine WO.pn 1 rfl ?_
            refine WO.nx ?_
            refine WO.fin ?_
            refine DN.seq ?_
            obtain ⟨q8, h, hK138⟩ := Option.bind_eq_some_iff.mp h
            refine WC.meet (fun L w' => ∃ (κ' : Col) (laq8_0 : Option Addr) (luq8_0 : Nat), L = [(2, .pointer (some ⟨b2, 0, none⟩)), (3, .pointer (some ⟨b3, 0, none⟩)), (4, .pointer (some ⟨b4, 0, none⟩)), (5, .pointer (some ⟨b5, 0, none⟩)), (6, .slice laq8_0 q8.length luq8_0), (7, .int .i64 s5.2)] ∧ Stp [11] K121 w132 κ' w' ∧ Oc (Ep.int .i64) 2 κ' w' 11 laq8_0 luq8_0 q8) ?_ ?_
            ·
             revert h
             cases ht143 : (x72 != p1.N) with
             | true =>
              intro h; replace h := cT h
              refine WC.ct rfl ?_
              refine WC.rs [(0, 2), (1, 2), (2, 2), (3, 1), (4, 2), (5, 1), (6, 2), (7, 1), (8, 2), (9, 2), (10, 1), (11, 1), (12, 1), (13, 2)] rfl ?_
              refine WO.pn 1 rfl ?_
              refine WO.k2 rfl rfl rfl rfl (rn_fieldAddr Try.runUnderlying34 rfl Try.sizeOf32 rfl rfl) ?_
              refine WO.k2 rfl rfl rfl rfl (rn_fieldAddr Try.runUnderlying32 rfl Try.sizeOf23 rfl rfl) ?_
              refine WO.k1 trivial rfl rfl rfl rfl (rn_ld Try.isAgg23 rfl rfl (hvE (f133.ld 1 rfl rfl))) ?_
              refine WO.k2 rfl rfl rfl rfl (rn_fieldAddr Try.runUnderlying36 rfl Try.sizeOf2 rfl rfl) ?_
              refine WO.k1 trivial rfl rfl rfl rfl (rn_ld Try.isAgg2 rfl rfl (hvE (f134.ld 1 rfl rfl))) ?_
              obtain ⟨x83, hx83, h⟩ := Option.bind_eq_some_iff.mp h
              refine WO.k2 rfl rfl rfl rfl (rn_index f135 hx83 Try.runUnderlying23 Try.sizeOf22 rfl rfl rfl rfl) ?_
              obtain ⟨ax83, ux83, f144, hl145⟩ := f135.gSl hx83
              refine WO.k1 trivial rfl rfl rfl rfl (rn_ld Try.isAgg22 rfl rfl (hvE hl145)) ?_
              refine WO.pn 1 rfl ?_
              obtain ⟨x86, hx86, h⟩ := Option.bind_eq_some_iff.mp h
              refine WO.k2 rfl rfl rfl rfl (rn_index f144 hx86 Try.runUnderlying22 Try.sizeOf2 rfl rfl rfl rfl) ?_
              refine WO.k1 trivial rfl rfl rfl rfl (rn_ld Try.isAgg2 rfl rfl (hvE (f144.gInt hx86))) ?_
              refine WO.bl (κ := K121) (E := (Ep.int .i64)) 12 [] (parts := [(0, .tmp 87)]) (cells := [.int .i64 x86]) (xs := ([x86] : List Int)) rfl rfl rfl rfl rfl rfl Try.underlying22 Tryinfo2 rfl rfl rfl rfl rfl rfl rfl rfl rfl rfl ⟨[.int .i64 x86], [], Zl K121 w132 [], Zl K121 w132 [], rfl, Zl.sp (l1 := []) (l2 := []) rfl, Zl.sr (l1 := []) (l2 := []), rfl, rfl⟩ fun a88 u88 w146 K147 S148 f149 => ⟨trivial, ?_⟩
              obtain ⟨x89, hx89, h⟩ := Option.bind_eq_some_iff.mp h
              have f150 := f123.stp (S131.tr S148) rfl rfl
              refine WO.app (κ := K147) (E := (Ep.int .i64)) 11 [] rfl rfl rfl rfl rfl rfl rfl rfl rfl Try.underlying22 Tryinfo2 rfl rfl rfl rfl f150 (Sl.srcP (pu_int _) f149.rdc) sy_false hx89 rfl fun a89 u89 w151 K152 S153 f154 => ⟨trivial, ?_⟩
              refine WO.pn 1 rfl ?_
              refine WO.fin ?_
              obtain rfl := Option.some.inj h
              exact DN.meet _ ⟨K152, a89, u89, rfl, (S148.tr S153).wk rfl, f154⟩ fun a ha => (ha.more (ha.more (ha.more (ha.more (ha.more (ha.more ha.nil rfl) rfl) rfl) rfl) rfl) rfl)
             | false =>
              intro h; replace h := cF h
              refine WC.cf rfl ?_
              refine WC.skip ?_
              have f155 := f123.stp S131 rfl rfl
              obtain rfl := Option.some.inj h
              exact DN.meet _ ⟨K121, las5_0, lus5_0, rfl, (Stp.refl _ _).wk rfl, f155⟩ fun a ha => (ha.more (ha.more (ha.more (ha.more (ha.more (ha.more ha.nil rfl) rfl) rfl) rfl) rfl) rfl)
            rintro _ w139 ⟨K140, laq8_0, luq8_0, rfl, S141, f142⟩
            have h := hK138
            refine DN.block ?_
            refine DN.seq ?_
            refine WC.rs [(0, 2), (1, 2), (2, 2)] rfl ?_
            refine WO.pn 3 rfl ?_
            refine WO.fin ?_
            obtain rfl := Option.some.inj h
            refine DN.round fun a ha => ?_
            exact ⟨k, _, Nat.lt_succ_self _, ⟨K140, ((q8 : (List Int)), ((IntKind.i64.wrap (s5.2 + 1)) : Int)), laq8_0, luq8_0, rfl, (S122.tr (S131.tr S141)).wk rfl, f142, hk124⟩, (ha.more (ha.more (ha.more (ha.more (ha.more (ha.more ha.nil rfl) rfl) rfl) rfl) rfl) rfl)⟩
           | false =>
            intro h; replace h := cF h
            refine WC.cf rfl ?_
            refine WC.exit ?_
            refine DN.exitThen ?_
            refine DN.exitThen ?_
            obtain rfl := Option.some.inj h
            have h := hk124
            refine DN.hit ?_
            obtain rfl := Option.some.inj h
            exact DN.meet _ ⟨K121, ((s5.1 : (List Int)), (s5.2 : Int)), las5_0, lus5_0, rfl, S122.wk rfl, f123, rfl⟩ fun a ha => (ha.more (ha.more (ha.more (ha.more ha.nil rfl) rfl) rfl) rfl)
         rintro _ w116 ⟨K117, s7, las7_0, lus7_0, rfl, S118, f119, rfl⟩
         have h := hK114
         dsimp only [aft] at h
         refine DN.seq ?_
         refine WC.rs [(0, 2), (1, 2), (2, 1), (3, 2), (4, 1), (5, 2), (6, 2), (7, 1)] rfl ?_
         refine WO.k2 rfl rfl rfl rfl (rn_fieldAddr Try.runUnderlying34 rfl Try.sizeOf32 rfl rfl) ?_
         refine WO.k2 rfl rfl rfl rfl (rn_fieldAddr Try.runUnderlying32 rfl Try.sizeOf23 rfl rfl) ?_
         have f156 := f36.stp (S111.tr S118) rfl rfl
         refine WO.k1 trivial rfl rfl rfl rfl (rn_ld Try.isAgg23 rfl rfl (hvE (f156.ld 1 rfl rfl))) ?_
         refine WO.k2 rfl rfl rfl rfl (rn_fieldAddr Try.runUnderlying36 rfl Try.sizeOf2 rfl rfl) ?_
         have f157 := f37.stp (S111.tr S118) rfl rfl
         refine WO.k1 trivial rfl rfl rfl rfl (rn_ld Try.isAgg2 rfl rfl (hvE (f157.ld 1 rfl rfl))) ?_
         refine WO.pn 1 rfl ?_
         obtain ⟨x96, hx96, h⟩ := Option.bind_eq_some_iff.mp h
         refine WO.k2 rfl rfl rfl rfl (rn_index f28.rdc hx96 Try.runUnderlying23 Try.sizeOf22 rfl rfl rfl rfl) ?_
         obtain ⟨K158, S159, z160⟩ := fz_ex K117 w116 11
         have f161 := Sl.st z160 f119.rdc
         have f162 := f28.stp (S32.tr (S35.tr (S111.tr (S118.tr S159)))) rfl rfl
         obtain ⟨y40, hy40, h⟩ := Option.bind_eq_some_iff.mp h
         refine WO.stI (κ := K158) (E := (Ep.fz (Rp.sl (Rp.int .i64)))) 8 [] rfl rfl rfl rfl rfl rfl rfl rfl Try.sizeOf22 rfl ⟨_, _, rfl, (Sl.z1 f161)⟩ rfl rfl f162 hy40 fun w163 K164 S165 f166 => ⟨trivial, ?_⟩
         have hn167 : x9.Arena.Next.length = y40.length := (setI_ok hy40).2.2.2.symm
         refine WO.fin ?_
         obtain rfl := Option.some.inj h
         exact DN.meet _ ⟨K164, rfl, (S111.tr (S118.tr (S159.tr S165))).wk rfl, f166, hn167⟩ fun a ha => (ha.more (ha.more ha.nil rfl) rfl)
        | false =>
         intro h; replace h := cF h
         refine WC.cf rfl ?_
         refine WC.skip ?_
         have f168 := f28.stp (S32.tr S35) rfl rfl
         obtain rfl := Option.some.inj h
         exact DN.meet _ ⟨K31, rfl, (Stp.refl _ _).wk rfl, f168, rfl⟩ fun a ha => (ha.more (ha.more ha.nil rfl) rfl)
       rintro _ w103 ⟨K104, rfl, S105, f106, hn107⟩
       have h := hK102
       obtain rfl := Option.some.inj h
       exact DN.meet _ ⟨K104, rfl, S105.wk rfl, f106, hn107⟩ fun a ha => (ha.more (ha.more ha.nil rfl) rfl)
     rintro _ w74 ⟨K75, rfl, S76, f77, hn78⟩
     have h := hK73
     have f169 := f27.stp (S32.tr (S35.tr S76)) rfl rfl
     obtain rfl := Option.some.inj h
     exact DN.meet _ ⟨K75, rfl, S76.wk rfl, f169, rfl, f77, hn78⟩ fun a ha => (ha.more (ha.more ha.nil rfl) rfl)
   rintro _ w58 ⟨K59, rfl, S60, f61, hn62, f63, hn64⟩
   have h := hK57
   have f170 := f29.stp (S32.tr (S35.tr S60)) rfl rfl
   obtain rfl := Option.some.inj h
   exact DN.meet _ ⟨K59, rfl, S60.wk rfl, f61, hn62, f63, hn64, f170, rfl⟩ fun a ha => (ha.more (ha.more ha.nil rfl) rfl)
 rintro _ w39 ⟨K40, rfl, S41, f42, hn43, f44, hn45, f46, hn47⟩
 have h := hK38
 refine DN.block ?_
 refine DN.seq ?_
 refine WC.seq ?_
 refine WC.rs [(0, 1), (1, 1)] rfl ?_
 have f171 := f36.stp S41 rfl rfl
 refine WO.k1 trivial rfl rfl rfl rfl (rn_la (cs := [.slice a9_0 x9.Arena.Owner.length u9_0, .slice a9_1 x9.Arena.Next.length u9_1, .slice a9_2 x9.Prio.length u9_2]) Try.isAgg34 Try.sizeOf34 rfl rfl rfl (haE f171.cells)) ?_
 have f172 := f12.stp (S24.tr (S32.tr (S35.tr S41))) rfl rfl
 refine WO.stB0 (κ := K40) 4 (vc := [.slice a9_0 x9.Arena.Owner.length u9_0, .slice a9_1 x9.Arena.Next.length u9_1, .slice a9_2 x9.Prio.length u9_2]) rfl rfl rfl rfl rfl rfl rfl Try.sizeOf34 rfl rfl f172 rfl fun w173 S174 f175 => ⟨trivial, ?_⟩
 refine WO.fin ?_
 refine DN.seq ?_
 refine WC.ret ?_
 have f176 := hE.stp (S3.tr (S7.tr (S11.tr (S24.tr (S32.tr (S35.tr (S41.tr S174))))))) rfl rfl
 have f177 := f42.stp S174 rfl rfl
 have f178 := f44.stp S174 rfl rfl
 have f179 := f46.stp S174 rfl rfl
 refine DN.res (l := [.cell 4 34]) Try.results40 (res_cellA rfl f175 Try.isAgg34 Try.sizeOf34 rfl rfl) rfl ?_
 obtain rfl := Option.some.inj h
 exact ⟨(fun b => ren [(7, 2), (8, 3), (9, 4)] (K40 b)), a9_0, u9_0, a9_1, u9_1, a9_2, u9_2, (by simp only [hn43, hn45, hn47]), (f176.map (ren [(7, 2), (8, 3), (9, 4)]) rfl rfl), (f177.map (ren [(7, 2), (8, 3), (9, 4)]) rfl rfl), (f178.map (ren [(7, 2), (8, 3), (9, 4)]) rfl rfl), (f179.map (ren [(7, 2), (8, 3), (9, 4)]) rfl rfl)⟩

/- loop.example/g00869/impl.wonIn -/
theorem i_wonIn_ok {w : World} {κ : Col} {a0_0_0 : Option Addr} {u0_0_0 : Nat} {a0_0_1 : Option Addr} {u0_0_1 : Nat} {a0_1 : Option Addr} {u0_1 : Nat} {p0 : Parity} {a1 : Option Addr} {u1 : Nat} {p1 : (List Int)} (g0_0_0 : Rd (Rp.int .i64) κ w 0 a0_0_0 u0_0_0 p0.Arena.Owner) (g0_0_1 : Rd (Rp.sl (Rp.int .i64)) κ w 0 a0_0_1 u0_0_1 p0.Arena.Next) (g0_1 : Rd (Rp.int .i64) κ w 0 a0_1 u0_1 p0.Prio) (g1 : Rd (Rp.int .i64) κ w 0 a1 u1 p1) {r : (List Int) × (List Int)} (h : i_wonIn p0 p1 = some r) : Ret Try.prog 87 [.agg #[.slice a0_0_0 p0.Arena.Owner.length u0_0_0, .slice a0_0_1 p0.Arena.Next.length u0_0_1, .slice a0_1 p0.Prio.length u0_1], .slice a1 p1.length u1] w (fun v w' => ∃ (κ' : Col) (ra0 : Option Addr) (ru0 : Nat) (ra1 : Option Addr) (ru1 : Nat), v = .tuple #[.slice ra0 r.1.length ru0, .slice ra1 r.2.length ru1] ∧ Ent κ w κ' w' ∧ Oc (Ep.int .i64) 2 κ' w' 2 ra0 ru0 r.1 ∧ Oc (Ep.int .i64) 2 κ' w' 3 ra1 ru1 r.2) := by
 unfold i_wonIn at h
 refine Ret.enter Try.func87 rfl Try.ntmps87 rfl ?_
 dsimp only [envOf]
 have hE := Ent.refl κ w
 refine WC.seq ?_
 refine WC.rs [(0, 1), (1, 2), (2, 2)] rfl ?_
 refine WO.box (κ := κ) 2 rfl rfl rfl rfl rfl rfl rfl fun b2 w1 K2 S3 f4 => ⟨trivial, ?_⟩
 refine WO.pn 2 rfl ?_
 refine WO.fin ?_
 refine DN.seq ?_
 refine WC.seq ?_
 refine WC.rx (κ := K2) [2] none [(1, 2), (0, 0), (2, 0), (3, 1), (4, 2), (5, 1), (6, 2)] [] (by kernel_rfl) (by kernel_rfl) fun w6 S5 => ?_
 refine WO.k2 rfl rfl rfl rfl (rn_fieldAddr Try.runUnderlying34 rfl Try.sizeOf32 rfl rfl) ?_
 have f7 := f4.stp S5 rfl rfl
 refine WO.k0 rfl rfl rfl rfl (rn_la (cs := [.slice a0_0_0 p0.Arena.Owner.length u0_0_0, .slice a0_0_1 p0.Arena.Next.length u0_0_1, .slice a0_1 p0.Prio.length u0_1]) Try.isAgg34 Try.sizeOf34 rfl rfl rfl (haC f7.cells rfl)) ?_
 refine WO.k0 rfl rfl rfl rfl (rn_la (cs := [.slice a0_0_0 p0.Arena.Owner.length u0_0_0, .slice a0_0_1 p0.Arena.Next.length u0_0_1]) Try.isAgg32 Try.sizeOf32 rfl rfl rfl (haC (f7.lds 0 2 rfl) rfl)) ?_
 obtain ⟨x13, hx13, h⟩ := Option.bind_eq_some_iff.mp h
 have f8 := g0_0_0.stp (S3.tr S5) rfl rfl
 have f9 := g0_0_1.stp (S3.tr S5) rfl rfl
 refine WO.call rfl rfl rfl rfl rfl rfl Try.call123 (i_predsOf_ok (κ := fun b => mp [] 0 (K2 b)) (p0 := p0.Arena) (Sl.map f8 (mp [] 0) rfl rfl) (Sl.map f9 (mp [] 0) rfl rfl) hx13) ?_
 rintro _ w10 ⟨k11, a13_0, u13_0, rfl, e12, f13⟩
 obtain ⟨K14, S15, m16⟩ := Ent.mixed (l := []) (κ := K2) e12 3 rfl
 refine ⟨(S15.cl rfl), ?_⟩
 have f18 := f13.mx (no_own (no_int _) _) m16 rfl (rfl : 3 + 2 = 5)
 refine WO.k2 rfl rfl rfl rfl (rn_build (parts := [(0, .tmp 10), (1, .tmp 13)]) (cells := [.slice a0_0_0 p0.Arena.Owner.length u0_0_0, .slice a0_0_1 p0.Arena.Next.length u0_0_1, .slice a0_1 p0.Prio.length u0_1, .slice a13_0 x13.length u13_0]) rfl rfl (by kernel_rfl)) ?_
 refine WO.box (κ := K14) 6 rfl rfl rfl rfl rfl rfl rfl fun b15 w19 K20 S21 f22 => ⟨((S15.tr S21).cl rfl), ?_⟩
 refine WO.pn 1 rfl ?_
 refine WO.nx ?_
 refine WO.fin ?_
 refine DN.seq ?_
 refine WC.seq ?_
 refine WC.rs [(0, 2), (1, 1), (2, 2), (3, 1), (4, 2)] rfl ?_
 refine WO.k2 rfl rfl rfl rfl (rn_fieldAddr Try.runUnderlying34 rfl Try.sizeOf32 rfl rfl) ?_
 have f23 := f7.stp (S15.tr S21) rfl rfl
 refine WO.k1 trivial rfl rfl rfl rfl (rn_la (cs := [.slice a0_0_0 p0.Arena.Owner.length u0_0_0, .slice a0_0_1 p0.Arena.Next.length u0_0_1]) Try.isAgg32 Try.sizeOf32 rfl rfl rfl (haE (f23.lds 0 2 rfl))) ?_
 refine WO.pn 1 rfl ?_
 obtain ⟨x19, hx19, h⟩ := Option.bind_eq_some_iff.mp h
 have f24 := f8.stp (S15.tr S21) rfl rfl
 have f25 := f9.stp (S15.tr S21) rfl rfl
 have f26 := g1.stp (S3.tr (S5.tr (S15.tr S21))) rfl rfl
 refine WO.call rfl rfl rfl rfl rfl rfl Try.call124 (i_markOf_ok (κ := fun b => mp [] 0 (K20 b)) (p0 := p0.Arena) (Sl.map f24 (mp [] 0) rfl rfl) (Sl.map f25 (mp [] 0) rfl rfl) (Sl.map f26 (mp [] 0) rfl rfl) hx19) ?_
 rintro _ w27 ⟨k28, a19_0, u19_0, rfl, e29, f30⟩
 obtain ⟨K31, S32, m33⟩ := Ent.mixed (l := []) (κ := K20) e29 7 rfl
 refine ⟨trivial, ?_⟩
 have f35 := f30.mx no_bool m33 rfl (rfl : 7 + 2 = 9)
 refine WO.pn 1 rfl ?_
 refine WO.fin ?_
 refine DN.seq ?_
 refine WC.seq ?_
 refine WC.rs [(0, 2), (1, 2), (2, 1), (3, 2), (4, 2), (5, 2), (6, 2), (7, 2)] rfl ?_
 refine WO.pn 2 rfl ?_
 have f36 := f18.stp (S21.tr S32) rfl rfl
 obtain ⟨K37, S38, z39⟩ := fz_ex K31 w27 5
 have f40 := Sl.st z39 f36.rdc
 have f41 := f35.stp S38 rfl rfl
 obtain ⟨K42, S43, z44⟩ := fz_ex K37 w27 9
 have f45 := Sl.st z44 f41.rdc
 have f46 := f22.stp (S32.tr (S38.tr S43)) rfl rfl
 obtain ⟨K47, S48, z49⟩ := fz_ex K42 w27 6
 have f50 := Bc.fzz z49 f46
 obtain ⟨x23, hx23, h⟩ := Option.bind_eq_some_iff.mp h
 have f51 := f24.stp (S32.tr (S38.tr (S43.tr S48))) rfl rfl
 have f52 := f25.stp (S32.tr (S38.tr (S43.tr S48))) rfl rfl
 have f53 := g0_1.stp (S3.tr (S5.tr (S15.tr (S21.tr (S32.tr (S38.tr (S43.tr S48))))))) rfl rfl
 have f54 := f40.stp (S43.tr S48) rfl rfl
 have f55 := f45.stp S48 rfl rfl
 refine WO.call rfl rfl rfl rfl rfl rfl Try.call125 (i_solver_won_ok _ (κ := fun b => mp [] 1 (K47 b)) (p0 := (⟨p0, x13⟩ : solver)) (Sl.map f51 (mp [] 1) rfl rfl) (Sl.map f52 (mp [] 1) rfl rfl) (Sl.map f53 (mp [] 1) rfl rfl) (Sl.map f54 (mp [] 1) rfl rfl) (Sl.map f55 (mp [] 1) rfl rfl) (f50.map (mp [] 1) rfl rfl) hx23) ?_
 rintro _ w56 ⟨k57, a23_0, u23_0, rfl, e58, f59⟩
 obtain ⟨K60, S61, m62, z63⟩ := Ent.mixed0 (l := []) (κ := K47) e58 10 rfl
 refine ⟨trivial, ?_⟩
 have f64 := f59.mx z63
 refine WO.pn 5 rfl ?_
 refine WO.fin ?_
 refine DN.seq ?_
 refine WC.seq ?_
 refine WC.seq ?_
 refine WC.rs [(0, 2), (1, 2)] rfl ?_
 refine WO.pn 2 rfl ?_
 refine WO.fin ?_
 refine DN.seq ?_
 revert h
 cases ht65 : (x23.2 == 0) with
 | true =>
  intro h; replace h := cT h
  refine WC.ct rfl ?_
  refine WC.seq ?_
  refine WC.rs [(0, 2), (1, 1), (2, 2), (3, 2), (4, 1), (5, 1), (6, 2), (7, 2)] rfl ?_
  refine WO.pn 1 rfl ?_
  obtain ⟨x29, hx29, h⟩ := Option.bind_eq_some_iff.mp h
  refine WO.call rfl rfl rfl rfl rfl rfl Try.call126 (i_listOf_ok (κ := fun b => mp [] 0 (K60 b)) (Sl.map f64 (mp [] 0) rfl rfl) hx29) ?_
  rintro _ w66 ⟨k67, a29_0, u29_0, rfl, e68, f69⟩
  obtain ⟨K70, S71, m72⟩ := Ent.mixed (l := []) (κ := K60) e68 13 rfl
  refine ⟨trivial, ?_⟩
  have f74 := f69.mx (no_int _) m72 rfl (rfl : 13 + 2 = 15)
  refine WO.pn 2 rfl ?_
  obtain ⟨x32, hx32, h⟩ := Option.bind_eq_some_iff.mp h
  have f75 := f55.stp (S61.tr S71) rfl rfl
  have f76 := f64.stp S71 rfl rfl
  refine WO.call rfl rfl rfl rfl rfl rfl Try.call127 (i_without_ok (κ := fun b => mp [] 0 (K70 b)) (Sl.map f75 (mp [] 0) rfl rfl) (Sl.map f76 (mp [] 0) rfl rfl) hx32) ?_
  rintro _ w77 ⟨k78, a32_0, u32_0, rfl, e79, f80⟩
  obtain ⟨K81, S82, m83⟩ := Ent.mixed (l := []) (κ := K70) e79 16 rfl
  refine ⟨trivial, ?_⟩
  have f85 := f80.mx no_bool m83 rfl (rfl : 16 + 2 = 18)
  obtain ⟨x33, hx33, h⟩ := Option.bind_eq_some_iff.mp h
  refine WO.call rfl rfl rfl rfl rfl rfl Try.call126 (i_listOf_ok (κ := fun b => mp [] 0 (K81 b)) (Sl.map f85.rdc (mp [] 0) rfl rfl) hx33) ?_
  rintro _ w86 ⟨k87, a33_0, u33_0, rfl, e88, f89⟩
  obtain ⟨K90, S91, m92⟩ := Ent.mixed (l := []) (κ := K81) e88 19 rfl
  refine ⟨trivial, ?_⟩
  have f94 := f89.mx (no_int _) m92 rfl (rfl : 19 + 2 = 21)
  refine WO.pn 2 rfl ?_
  refine WO.fin ?_
  refine DN.seq ?_
  refine WC.ret ?_
  refine DN.retThen ?_
  have f95 := hE.stp (S3.tr (S5.tr (S15.tr (S21.tr (S32.tr (S38.tr (S43.tr (S48.tr (S61.tr (S71.tr (S82.tr S91))))))))))) rfl rfl
  have f96 := f74.stp (S82.tr S91) rfl rfl
  refine DN.res (l := [.tmp 4, .tmp 5]) Try.results87 (res_tmp rfl (res_tmp rfl rfl)) rfl ?_
  obtain rfl := Option.some.inj h
  exact ⟨(fun b => ren [(15, 2), (21, 3)] (K90 b)), a29_0, u29_0, a33_0, u33_0, rfl, (f95.map (ren [(15, 2), (21, 3)]) rfl rfl), (f96.map (ren [(15, 2), (21, 3)]) rfl rfl), (f94.map (ren [(15, 2), (21, 3)]) rfl rfl)⟩
 | false =>
  intro h; replace h := cF h
  refine WC.cf rfl ?_
  refine WC.skip ?_
  refine DN.seq ?_
  refine WC.seq ?_
  refine WC.rs [(0, 2), (1, 2), (2, 1), (3, 1), (4, 2), (5, 1), (6, 2), (7, 2)] rfl ?_
  refine WO.pn 2 rfl ?_
  obtain ⟨x36, hx36, h⟩ := Option.bind_eq_some_iff.mp h
  have f97 := f55.stp S61 rfl rfl
  refine WO.call rfl rfl rfl rfl rfl rfl Try.call127 (i_without_ok (κ := fun b => mp [] 0 (K60 b)) (Sl.map f97 (mp [] 0) rfl rfl) (Sl.map f64 (mp [] 0) rfl rfl) hx36) ?_
  rintro _ w98 ⟨k99, a36_0, u36_0, rfl, e100, f101⟩
  obtain ⟨K102, S103, m104⟩ := Ent.mixed (l := []) (κ := K60) e100 13 rfl
  refine ⟨trivial, ?_⟩
  have f106 := f101.mx no_bool m104 rfl (rfl : 13 + 2 = 15)
  obtain ⟨x37, hx37, h⟩ := Option.bind_eq_some_iff.mp h
  refine WO.call rfl rfl rfl rfl rfl rfl Try.call126 (i_listOf_ok (κ := fun b => mp [] 0 (K102 b)) (Sl.map f106.rdc (mp [] 0) rfl rfl) hx37) ?_
  rintro _ w107 ⟨k108, a37_0, u37_0, rfl, e109, f110⟩
  obtain ⟨K111, S112, m113⟩ := Ent.mixed (l := []) (κ := K102) e109 16 rfl
  refine ⟨trivial, ?_⟩
  have f115 := f110.mx (no_int _) m113 rfl (rfl : 16 + 2 = 18)
  refine WO.pn 1 rfl ?_
  obtain ⟨x39, hx39, h⟩ := Option.bind_eq_some_iff.mp h
  have f116 := f64.stp (S103.tr S112) rfl rfl
  refine WO.call rfl rfl rfl rfl rfl rfl Try.call126 (i_listOf_ok (κ := fun b => mp [] 0 (K111 b)) (Sl.map f116 (mp [] 0) rfl rfl) hx39) ?_
  rintro _ w117 ⟨k118, a39_0, u39_0, rfl, e119, f120⟩
  obtain ⟨K121, S122, m123⟩ := Ent.mixed (l := []) (κ := K111) e119 19 rfl
  refine ⟨trivial, ?_⟩
  have f125 := f120.mx (no_int _) m123 rfl (rfl : 19 + 2 = 21)
  refine WO.pn 2 rfl ?_
  refine WO.fin ?_
  refine DN.seq ?_
  refine WC.ret ?_
  have f126 := hE.stp (S3.tr (S5.tr (S15.tr (S21.tr (S32.tr (S38.tr (S43.tr (S48.tr (S61.tr (S103.tr (S112.tr S122))))))))))) rfl rfl
  have f127 := f115.stp S122 rfl rfl
  refine DN.res (l := [.tmp 4, .tmp 5]) Try.results87 (res_tmp rfl (res_tmp rfl rfl)) rfl ?_
  obtain rfl := Option.some.inj h
  exact ⟨(fun b => ren [(18, 2), (21, 3)] (K121 b)), a37_0, u37_0, a39_0, u39_0, rfl, (f126.map (ren [(18, 2), (21, 3)]) rfl rfl), (f127.map (ren [(18, 2), (21, 3)]) rfl rfl), (f125.map (ren [(18, 2), (21, 3)]) rfl rfl)⟩

/- loop.example/g00869/laws.eqParity -/
theorem l_eqParity_ok {w : World} {κ : Col} {a0_0_0 : Option Addr} {u0_0_0 : Nat} {a0_0_1 : Option Addr} {u0_0_1 : Nat} {a0_1 : Option Addr} {u0_1 : Nat} {p0 : Parity} {a1_0_0 : Option Addr} {u1_0_0 : Nat} {a1_0_1 : Option Addr} {u1_0_1 : Nat} {a1_1 : Option Addr} {u1_1 : Nat} {p1 : Parity} (g0_0_0 : Rd (Rp.int .i64) κ w 0 a0_0_0 u0_0_0 p0.Arena.Owner) (g0_0_1 : Rd (Rp.sl (Rp.int .i64)) κ w 0 a0_0_1 u0_0_1 p0.Arena.Next) (g0_1 : Rd (Rp.int .i64) κ w 0 a0_1 u0_1 p0.Prio) (g1_0_0 : Rd (Rp.int .i64) κ w 0 a1_0_0 u1_0_0 p1.Arena.Owner) (g1_0_1 : Rd (Rp.sl (Rp.int .i64)) κ w 0 a1_0_1 u1_0_1 p1.Arena.Next) (g1_1 : Rd (Rp.int .i64) κ w 0 a1_1 u1_1 p1.Prio) {r : Bool} (h : l_eqParity p0 p1 = some r) : Ret Try.prog 13 [.agg #[.slice a0_0_0 p0.Arena.Owner.length u0_0_0, .slice a0_0_1 p0.Arena.Next.length u0_0_1, .slice a0_1 p0.Prio.length u0_1], .agg #[.slice a1_0_0 p1.Arena.Owner.length u1_0_0, .slice a1_0_1 p1.Arena.Next.length u1_0_1, .slice a1_1 p1.Prio.length u1_1]] w (fun v w' => ∃ (κ' : Col), v = .bool r ∧ Ent κ w κ' w') := by
 unfold l_eqParity at h
 refine Ret.enter Try.func13 rfl Try.ntmps13 rfl ?_
 dsimp only [envOf]
 have hE := Ent.refl κ w
 refine WC.seq ?_
 refine WC.rs [(0, 1), (1, 1), (2, 2)] rfl ?_
 refine WO.box (κ := κ) 2 rfl rfl rfl rfl rfl rfl rfl fun b2 w1 K2 S3 f4 => ⟨trivial, ?_⟩
 refine WO.box (κ := K2) 3 rfl rfl rfl rfl rfl rfl rfl fun b3 w5 K6 S7 f8 => ⟨trivial, ?_⟩
 refine WO.pn 1 rfl ?_
 refine WO.fin ?_
 refine DN.seq ?_
 refine WC.seq ?_
 refine WC.seq ?_
 refine WC.rs [(0, 2), (1, 1), (2, 2), (3, 1), (4, 1), (5, 2)] rfl ?_
 refine WO.k2 rfl rfl rfl rfl (rn_fieldAddr Try.runUnderlying34 rfl Try.sizeOf32 rfl rfl) ?_
 have f9 := f4.stp S7 rfl rfl
 refine WO.k1 trivial rfl rfl rfl rfl (rn_la (cs := [.slice a0_0_0 p0.Arena.Owner.length u0_0_0, .slice a0_0_1 p0.Arena.Next.length u0_0_1]) Try.isAgg32 Try.sizeOf32 rfl rfl rfl (haE (f9.lds 0 2 rfl))) ?_
 refine WO.k2 rfl rfl rfl rfl (rn_fieldAddr Try.runUnderlying34 rfl Try.sizeOf32 rfl rfl) ?_
 refine WO.k1 trivial rfl rfl rfl rfl (rn_la (cs := [.slice a1_0_0 p1.Arena.Owner.length u1_0_0, .slice a1_0_1 p1.Arena.Next.length u1_0_1]) Try.isAgg32 Try.sizeOf32 rfl rfl rfl (haE (f8.lds 0 2 rfl))) ?_
 obtain ⟨x9, hx9, h⟩ := Option.bind_eq_some_iff.mp h
 have f10 := g0_0_0.stp (S3.tr S7) rfl rfl
 have f11 := g0_0_1.stp (S3.tr S7) rfl rfl
 have f12 := g1_0_0.stp (S3.tr S7) rfl rfl
 have f13 := g1_0_1.stp (S3.tr S7) rfl rfl
 refine WO.call rfl rfl rfl rfl rfl rfl Try.call46 (l_eqArena_ok (κ := fun b => mp [] 0 (K6 b)) (p0 := p0.Arena) (p1 := p1.Arena) (Sl.map f10 (mp [] 0) rfl rfl) (Sl.map f11 (mp [] 0) rfl rfl) (Sl.map f12 (mp [] 0) rfl rfl) (Sl.map f13 (mp [] 0) rfl rfl) hx9) ?_
 rintro _ w14 ⟨k15, rfl, e16⟩
 obtain ⟨K17, S18, m19⟩ := Ent.mixed (l := []) (κ := K6) e16 4 rfl
 refine ⟨trivial, ?_⟩
 refine WO.pn 1 rfl ?_
 refine WO.fin ?_
 refine DN.seq ?_
 revert h
 cases ht21 : (!x9) with
 | true =>
  intro h; replace h := cT h
  refine WC.ct rfl ?_
  refine WC.seq ?_
  refine WC.rs [(0, 2)] rfl ?_
  refine WO.pn 1 rfl ?_
  refine WO.fin ?_
  refine DN.seq ?_
  refine WC.ret ?_
  refine DN.retThen ?_
  have f22 := hE.stp (S3.tr (S7.tr S18)) rfl rfl
  refine DN.res (l := [.tmp 4]) Try.results13 (res_tmp rfl rfl) rfl ?_
  obtain rfl := Option.some.inj h
  exact ⟨K17, rfl, f22⟩
 | false =>
  intro h; replace h := cF h
  refine WC.cf rfl ?_
  refine WC.skip ?_
  refine DN.seq ?_
  refine WC.seq ?_
  refine WC.seq ?_
  refine WC.rs [(0, 2), (1, 1), (2, 2), (3, 1), (4, 1), (5, 2)] rfl ?_
  refine WO.k2 rfl rfl rfl rfl (rn_fieldAddr Try.runUnderlying34 rfl Try.sizeOf22 rfl rfl) ?_
  have f23 := f9.stp S18 rfl rfl
  refine WO.k1 trivial rfl rfl rfl rfl (rn_ld Try.isAgg22 rfl rfl (hvE (f23.ld 2 rfl rfl))) ?_
  refine WO.k2 rfl rfl rfl rfl (rn_fieldAddr Try.runUnderlying34 rfl Try.sizeOf22 rfl rfl) ?_
  have f24 := f8.stp S18 rfl rfl
  refine WO.k1 trivial rfl rfl rfl rfl (rn_ld Try.isAgg22 rfl rfl (hvE (f24.ld 2 rfl rfl))) ?_
  obtain ⟨x15, hx15, h⟩ := Option.bind_eq_some_iff.mp h
  have f25 := g0_1.stp (S3.tr (S7.tr S18)) rfl rfl
  have f26 := g1_1.stp (S3.tr (S7.tr S18)) rfl rfl
  refine WO.call rfl rfl rfl rfl rfl rfl Try.call12 (l_eqInt64S_ok (κ := fun b => mp [] 0 (K17 b)) (Sl.map f25 (mp [] 0) rfl rfl) (Sl.map f26 (mp [] 0) rfl rfl) hx15) ?_
  rintro _ w27 ⟨k28, rfl, e29⟩
  obtain ⟨K30, S31, m32⟩ := Ent.mixed (l := []) (κ := K17) e29 6 rfl
  refine ⟨trivial, ?_⟩
  refine WO.pn 1 rfl ?_
  refine WO.fin ?_
  refine DN.seq ?_
  revert h
  cases ht34 : (!x15) with
  | true =>
   intro h; replace h := cT h
   refine WC.ct rfl ?_
   refine WC.seq ?_
   refine WC.rs [(0, 2)] rfl ?_
   refine WO.pn 1 rfl ?_
   refine WO.fin ?_
   refine DN.seq ?_
   refine WC.ret ?_
   refine DN.retThen ?_
   have f35 := hE.stp (S3.tr (S7.tr (S18.tr S31))) rfl rfl
   refine DN.res (l := [.tmp 4]) Try.results13 (res_tmp rfl rfl) rfl ?_
   obtain rfl := Option.some.inj h
   exact ⟨K30, rfl, f35⟩
  | false =>
   intro h; replace h := cF h
   refine WC.cf rfl ?_
   refine WC.skip ?_
   refine DN.seq ?_
   refine WC.seq ?_
   refine WC.rs [(0, 2)] rfl ?_
   refine WO.pn 1 rfl ?_
   refine WO.fin ?_
   refine DN.seq ?_
   refine WC.ret ?_
   have f36 := hE.stp (S3.tr (S7.tr (S18.tr S31))) rfl rfl
   refine DN.res (l := [.tmp 4]) Try.results13 (res_tmp rfl rfl) rfl ?_
   obtain rfl := Option.some.inj h
   exact ⟨K30, rfl, f36⟩

/- loop.example/g00869/laws.markParity -/
theorem l_markParity_ok {w : World} {κ : Col} {a0_0_0 : Option Addr} {u0_0_0 : Nat} {a0_0_1 : Option Addr} {u0_0_1 : Nat} {a0_1 : Option Addr} {u0_1 : Nat} {p0 : Parity} {p1 : Int} (g0_0_0 : Oc (Ep.int .i64) 2 κ w 2 a0_0_0 u0_0_0 p0.Arena.Owner) (g0_0_1 : Oc (Ep.own (Ep.int .i64) 2) 22 κ w 3 a0_0_1 u0_0_1 p0.Arena.Next) (g0_1 : Oc (Ep.int .i64) 2 κ w 4 a0_1 u0_1 p0.Prio) {r : Int × (List Int) × (List (List Int)) × (List Int)} (h : l_markParity p0 p1 = some r) : Ret Try.prog 14 [.agg #[.slice a0_0_0 p0.Arena.Owner.length u0_0_0, .slice a0_0_1 p0.Arena.Next.length u0_0_1, .slice a0_1 p0.Prio.length u0_1], .int .i64 p1] w (fun v w' => ∃ (κ' : Col), v = .int .i64 r.1 ∧ Ent κ w κ' w' ∧ Oc (Ep.int .i64) 2 κ' w' 2 a0_0_0 u0_0_0 r.2.1 ∧ p0.Arena.Owner.length = r.2.1.length ∧ Oc (Ep.own (Ep.int .i64) 2) 22 κ' w' 3 a0_0_1 u0_0_1 r.2.2.1 ∧ p0.Arena.Next.length = r.2.2.1.length ∧ Oc (Ep.int .i64) 2 κ' w' 4 a0_1 u0_1 r.2.2.2 ∧ p0.Prio.length = r.2.2.2.length) := by
 unfold l_markParity at h
 refine Ret.enter Try.func14 rfl Try.ntmps14 rfl ?_
 dsimp only [envOf]
 have hE := Ent.refl κ w
 refine WC.seq ?_
 refine WC.rs [(0, 1), (1, 2)] rfl ?_
 refine WO.box (κ := κ) 5 rfl rfl rfl rfl rfl rfl rfl fun b2 w1 K2 S3 f4 => ⟨trivial, ?_⟩
 refine WO.pn 1 rfl ?_
 refine WO.fin ?_
 refine DN.seq ?_
 refine WC.seq ?_
 refine WC.rs [(0, 2), (1, 1), (2, 2), (3, 1), (4, 2)] rfl ?_
 refine WO.k2 rfl rfl rfl rfl (rn_fieldAddr Try.runUnderlying34 rfl Try.sizeOf32 rfl rfl) ?_
 refine WO.k1 trivial rfl rfl rfl rfl (rn_la (cs := [.slice a0_0_0 p0.Arena.Owner.length u0_0_0, .slice a0_0_1 p0.Arena.Next.length u0_0_1]) Try.isAgg32 Try.sizeOf32 rfl rfl rfl (haE (f4.lds 0 2 rfl))) ?_
 refine WO.pn 1 rfl ?_
 obtain ⟨x8, hx8, h⟩ := Option.bind_eq_some_iff.mp h
 have f5 := g0_0_0.stp S3 rfl rfl
 have f6 := g0_0_1.stp S3 rfl rfl
 refine WO.call rfl rfl rfl rfl rfl rfl Try.call47 (l_markArena_ok (κ := fun b => mp [(2, 2), (3, 3)] 0 (K2 b)) (p0 := p0.Arena) (f5.map (mp [(2, 2), (3, 3)] 0) rfl rfl) (f6.map (mp [(2, 2), (3, 3)] 0) rfl rfl) hx8) ?_
 rintro _ w7 ⟨k8, rfl, e9, f10, hn11, f12, hn13⟩
 obtain ⟨K14, S15, m16⟩ := Ent.mixed (l := [(2, 2), (3, 3)]) (κ := K2) e9 6 rfl
 refine ⟨trivial, ?_⟩
 have f18 := f10.mx (no_int _) m16 rfl (rfl : 6 + 2 = 8)
 have f19 := f12.mx (no_own (no_int _) _) m16 rfl (rfl : 6 + 3 = 9)
 refine WO.pn 1 rfl ?_
 refine WO.fin ?_
 refine DN.seq ?_
 refine WC.seq ?_
 refine WC.rs [(0, 2), (1, 1), (2, 2), (3, 1), (4, 2)] rfl ?_
 refine WO.k2 rfl rfl rfl rfl (rn_fieldAddr Try.runUnderlying34 rfl Try.sizeOf22 rfl rfl) ?_
 have f20 := f4.stp S15 rfl rfl
 refine WO.k1 trivial rfl rfl rfl rfl (rn_ld Try.isAgg22 rfl rfl (hvE (f20.ld 2 rfl rfl))) ?_
 refine WO.pn 1 rfl ?_
 obtain ⟨x12, hx12, h⟩ := Option.bind_eq_some_iff.mp h
 have f21 := g0_1.stp (S3.tr S15) rfl rfl
 refine WO.call rfl rfl rfl rfl rfl rfl Try.call15 (l_markInt64S_ok (κ := fun b => mp [(4, 2)] 0 (K14 b)) (f21.map (mp [(4, 2)] 0) rfl rfl) hx12) ?_
 rintro _ w22 ⟨k23, rfl, e24, f25, hn26⟩
 obtain ⟨K27, S28, m29⟩ := Ent.mixed (l := [(4, 2)]) (κ := K14) e24 10 rfl
 refine ⟨trivial, ?_⟩
 have f31 := f25.mx (no_int _) m29 rfl (rfl : 10 + 2 = 12)
 refine WO.pn 1 rfl ?_
 refine WO.fin ?_
 refine DN.seq ?_
 refine WC.seq ?_
 refine WC.rs [(0, 2), (1, 2)] rfl ?_
 refine WO.pn 2 rfl ?_
 refine WO.fin ?_
 refine DN.seq ?_
 refine WC.ret ?_
 have f32 := hE.stp (S3.tr (S15.tr S28)) rfl rfl
 have f33 := f18.stp S28 rfl rfl
 have f34 := f19.stp S28 rfl rfl
 refine DN.res (l := [.tmp 4]) Try.results14 (res_tmp rfl rfl) rfl ?_
 obtain rfl := Option.some.inj h
 exact ⟨(fun b => ren [(8, 2), (9, 3), (12, 4)] (K27 b)), rfl, (f32.map (ren [(8, 2), (9, 3), (12, 4)]) rfl rfl), (f33.map (ren [(8, 2), (9, 3), (12, 4)]) rfl rfl), (hn11), (f34.map (ren [(8, 2), (9, 3), (12, 4)]) rfl rfl), (hn13), (f31.map (ren [(8, 2), (9, 3), (12, 4)]) rfl rfl), (hn26)⟩

end Go.Proofs.Ytndiklipffipcaa
