/- The walks, part 2. By program. -/
import Derived.Test.YtnpmbkaoeihdmaaDoorText
import Derived.Test.YtnpmbkaoeihdmaaDoorShelf
import Derived.Test.YtnpmbkaoeihdmaaDoorFnsW1
set_option linter.unusedVariables false
set_option linter.unusedSimpArgs false
namespace Go.Proofs.YtnpmbkaoeihdmaaDoor
open Go Go.Wk Go.Proofs
set_option maxRecDepth 100000
set_option maxHeartbeats 1000000

/- loop.example/g00869/impl.areLetters -/
theorem i_areLetters_ok {w : World} {κ : Col} {a0 : Option Addr} {u0 : Nat} {p0 : (List Int)} {p1 : Int} (g0 : Rd (Rp.int .i64) κ w 0 a0 u0 p0) {r : Bool} (h : i_areLetters p0 p1 = some r) : Ret Tryd.prog 71 [.slice a0 p0.length u0, .int .i64 p1] w (fun v w' => ∃ (κ' : Col), v = .bool r ∧ Ent κ w κ' w') := by
 unfold i_areLetters at h
 refine Ret.enter Tryd.func71 rfl Tryd.ntmps71 rfl ?_
 dsimp only [envOf]
 have hE := Ent.refl κ w
 refine WC.seq ?_
 refine WC.rs [(0, 1), (1, 2)] rfl ?_
 refine WO.box (κ := κ) 2 rfl rfl rfl rfl rfl rfl rfl fun b3 w1 K2 S3 f4 => ⟨trivial, ?_⟩
 refine WO.pn 1 rfl ?_
 refine WO.fin ?_
 refine DN.seq ?_
 refine WC.seq ?_
 refine WC.rs [(0, 2), (1, 2), (2, 1), (3, 2), (4, 2)] rfl ?_
 refine WO.pn 1 rfl ?_
 refine WO.k2 rfl rfl rfl rfl (rn_makeFunc (first := []) (captured := [.tmp 3]) rfl rfl rfl ⟨_, rfl⟩) ?_
 obtain ⟨x7, hx7, h⟩ := Option.bind_eq_some_iff.mp h
 have f5 := g0.stp S3 rfl rfl
 refine WO.call rfl rfl rfl rfl rfl rfl Tryd.call87 (slices_ContainsFunc_I_int64__i_areLetters_1_ok (κ := fun b => mp [] 0 (K2 b)) (Sl.map f5 (mp [] 0) rfl rfl) (f4.map (mp [] 0) rfl rfl) hx7) ?_
 rintro _ w6 ⟨k7, rfl, e8⟩
 obtain ⟨K9, S10, m11⟩ := Ent.mixed (l := []) (κ := K2) e8 3 rfl
 refine ⟨trivial, ?_⟩
 refine WO.pn 2 rfl ?_
 refine WO.fin ?_
 refine DN.seq ?_
 refine WC.ret ?_
 have f13 := hE.stp (S3.tr S10) rfl rfl
 refine DN.res (l := [.tmp 4]) Tryd.results71 (res_tmp rfl rfl) rfl ?_
 obtain rfl := Option.some.inj h
 exact ⟨K9, rfl, f13⟩

/- loop.example/g00869/impl.isMachine -/
theorem i_isMachine_ok {w : World} {κ : Col} {p0 : Sig} {a1_0 : Option Addr} {u1_0 : Nat} {a1_1 : Option Addr} {u1_1 : Nat} {p1 : Machine} (g1_0 : Rd (Rp.sl (Rp.int .i64)) κ w 0 a1_0 u1_0 p1.Next) (g1_1 : Rd (Rp.sl (Rp.int .i64)) κ w 0 a1_1 u1_1 p1.Out) {r : Bool} (h : i_isMachine p0 p1 = some r) : Ret Tryd.prog 48 [.agg #[.int .i64 p0.In, .int .i64 p0.Out], .agg #[.slice a1_0 p1.Next.length u1_0, .slice a1_1 p1.Out.length u1_1]] w (fun v w' => ∃ (κ' : Col), v = .bool r ∧ Ent κ w κ' w') := by
 unfold i_isMachine at h
 refine Ret.enter Tryd.func48 rfl Tryd.ntmps48 rfl ?_
 dsimp only [envOf]
 have hE := Ent.refl κ w
 refine WC.seq ?_
 refine WC.rs [(0, 1), (1, 1), (2, 2)] rfl ?_
 refine WO.box (κ := κ) 2 rfl rfl rfl rfl rfl rfl rfl fun b2 w1 K2 S3 f4 => ⟨trivial, ?_⟩
 refine WO.box (κ := K2) 3 rfl rfl rfl rfl rfl rfl rfl fun b3 w5 K6 S7 f8 => ⟨trivial, ?_⟩
 refine WO.pn 1 rfl ?_
 refine WO.fin ?_
 refine DN.seq ?_
 refine WC.seq ?_
 refine WC.rs [(0, 2), (1, 1), (2, 2), (3, 2)] rfl ?_
 refine WO.k2 rfl rfl rfl rfl (rn_fieldAddr Tryd.runUnderlying42 rfl Tryd.sizeOf35 rfl rfl) ?_
 refine WO.k1 trivial rfl rfl rfl rfl (rn_ld Tryd.isAgg35 rfl rfl (hvE (f8.ld 0 rfl rfl))) ?_
 refine WO.k2 rfl rfl rfl rfl (rn_len Tryd.runUnderlying35 rfl rfl) ?_
 refine WO.pn 1 rfl ?_
 refine WO.fin ?_
 refine DN.seq ?_
 refine WC.seq ?_
 refine WC.seq ?_
 refine WC.rs [(0, 2), (1, 2), (2, 2), (3, 2), (4, 2), (5, 2), (6, 2), (7, 2), (8, 1), (9, 2), (10, 2), (11, 1), (12, 2), (13, 2), (14, 2)] rfl ?_
 refine WO.pn 3 rfl ?_
 obtain ⟨p16, h, hK9⟩ := Option.bind_eq_some_iff.mp h
 refine WO.meet [(3, 2), (4, 2), (5, 2)] [(6, 2), (7, 2), (8, 1), (9, 2), (10, 2), (11, 1), (12, 2), (13, 2), (14, 2)] (fun L w' => L = [(2, .pointer (some ⟨b2, 0, none⟩)), (3, .pointer (some ⟨b3, 0, none⟩)), (5, .int .i64 (p1.Next.length : Int)), (16, .bool p16)] ∧ ∃ κ', Stp [] K6 w5 κ' w') trivial ?_ ?_
 ·
  revert h
  cases ht10 : decide ((p1.Next.length : Int) < 1) with
  | true =>
   intro h; replace h := cT h
   refine WO.pn 3 rfl ?_
   obtain rfl := Option.some.inj h
   exact WO.met _ trivial ⟨rfl, _, (Stp.refl _ _).wk rfl⟩ fun a ha => (ha.more (ha.more (ha.more (ha.more ha.nil rfl) rfl) rfl) rfl)
  | false =>
   intro h; replace h := cF h
   refine WO.pn 3 rfl ?_
   obtain rfl := Option.some.inj h
   exact WO.met _ trivial ⟨rfl, _, (Stp.refl _ _).wk rfl⟩ fun a ha => (ha.more (ha.more (ha.more (ha.more ha.nil rfl) rfl) rfl) rfl)
 rintro _ w11 _ ⟨rfl, K12, S13⟩
 have h := hK9
 refine WO.pn 1 rfl ?_
 obtain ⟨p25, h, hK14⟩ := Option.bind_eq_some_iff.mp h
 refine WO.meet [(7, 2), (8, 1), (9, 2), (10, 2), (11, 1), (12, 2), (13, 2), (14, 2)] [] (fun L w' => L = [(2, .pointer (some ⟨b2, 0, none⟩)), (3, .pointer (some ⟨b3, 0, none⟩)), (5, .int .i64 (p1.Next.length : Int)), (25, .bool p25)] ∧ ∃ κ', Stp [] K12 w11 κ' w') trivial ?_ ?_
 ·
  revert h
  cases ht15 : p16 with
  | true =>
   intro h; replace h := cT h
   refine WO.pn 1 rfl ?_
   refine WO.ls rfl rfl rfl rfl ?_
   refine WO.pn 2 rfl ?_
   refine WO.ls rfl rfl rfl rfl ?_
   refine WO.pn 3 rfl ?_
   obtain rfl := Option.some.inj h
   exact WO.met _ trivial ⟨rfl, _, (Stp.refl _ _).wk rfl⟩ fun a ha => (ha.more (ha.more (ha.more (ha.more ha.nil rfl) rfl) rfl) rfl)
  | false =>
   intro h; replace h := cF h
   refine WO.k2 rfl rfl rfl rfl (rn_fieldAddr Tryd.runUnderlying42 rfl Tryd.sizeOf35 rfl rfl) ?_
   have f16 := f8.stp S13 rfl rfl
   refine WO.k1 trivial rfl rfl rfl rfl (rn_ld Tryd.isAgg35 rfl rfl (hvE (f16.ld 1 rfl rfl))) ?_
   refine WO.k2 rfl rfl rfl rfl (rn_len Tryd.runUnderlying35 rfl rfl) ?_
   refine WO.k2 rfl rfl rfl rfl (rn_fieldAddr Tryd.runUnderlying42 rfl Tryd.sizeOf35 rfl rfl) ?_
   refine WO.k1 trivial rfl rfl rfl rfl (rn_ld Tryd.isAgg35 rfl rfl (hvE (f16.ld 0 rfl rfl))) ?_
   refine WO.k2 rfl rfl rfl rfl (rn_len Tryd.runUnderlying35 rfl rfl) ?_
   refine WO.pn 2 rfl ?_
   obtain rfl := Option.some.inj h
   exact WO.met _ trivial ⟨rfl, _, (Stp.refl _ _).wk rfl⟩ fun a ha => (ha.more (ha.more (ha.more (ha.more ha.nil rfl) rfl) rfl) rfl)
 rintro _ w17 _ ⟨rfl, K18, S19⟩
 have h := hK14
 refine WO.fin ?_
 refine DN.seq ?_
 revert h
 cases ht20 : p25 with
 | true =>
  intro h; replace h := cT h
  refine WC.ct rfl ?_
  refine WC.seq ?_
  refine WC.rs [(0, 2)] rfl ?_
  refine WO.pn 1 rfl ?_
  refine WO.fin ?_
  refine DN.seq ?_
  refine WC.ret ?_
  refine DN.retThen ?_
  have f21 := hE.stp (S3.tr (S7.tr (S13.tr S19))) rfl rfl
  refine DN.res (l := [.tmp 4]) Tryd.results48 (res_tmp rfl rfl) rfl ?_
  obtain rfl := Option.some.inj h
  exact ⟨K18, rfl, f21⟩
 | false =>
  intro h; replace h := cF h
  refine WC.cf rfl ?_
  refine WC.skip ?_
  refine DN.seq ?_
  refine WC.seq ?_
  refine WC.seq ?_
  refine WC.rs [(0, 2), (1, 1), (2, 2), (3, 2)] rfl ?_
  refine WO.k2 rfl rfl rfl rfl (rn_fieldAddr Tryd.runUnderlying42 rfl Tryd.sizeOf35 rfl rfl) ?_
  have f22 := f8.stp (S13.tr S19) rfl rfl
  refine WO.k1 trivial rfl rfl rfl rfl (rn_ld Tryd.isAgg35 rfl rfl (hvE (f22.ld 0 rfl rfl))) ?_
  refine WO.k2 rfl rfl rfl rfl (rn_len Tryd.runUnderlying35 rfl rfl) ?_
  refine WO.pn 1 rfl ?_
  refine WO.fin ?_
  refine DN.seq ?_
  have hN23 : (p1.Next.length : Int) ≤ 9223372036854775807 := g1_0.len_le
  obtain ⟨q2, hq25, hK24⟩ := Option.bind_eq_some_iff.mp h
  clear h
  refine WC.meet (fun L w' => ∃ (κ' : Col), L = [] ∧ Stp [] K18 w17 κ' w' ∧ q2 = Sum.inr ()) ?_ ?_
  ·
   refine WC.block ?_
   refine WC.loop (fun k L w' => ∃ (κ' : Col) (v29 : Int), L = [(2, .pointer (some ⟨b2, 0, none⟩)), (3, .pointer (some ⟨b3, 0, none⟩)), (5, .int .i64 (p1.Next.length : Int)), (27, .slice a1_0 p1.Next.length u1_0), (28, .int .i64 (p1.Next.length : Int)), (29, .int .i64 v29)] ∧ Stp [] K18 w17 κ' w' ∧ 0 ≤ v29 ∧ Int.toNat ((p1.Next.length : Int) - v29) = k ∧ cntM (i_isMachine_b0 p0 p1) k v29 () = some q2) ⟨_, _, ⟨K18, 0, rfl, (Stp.refl _ _).wk rfl, (by decide), (by simp), hq25⟩, fun a ha => (ha.more (ha.more (ha.more (ha.more (ha.more (ha.more ha.nil rfl) rfl) rfl) rfl) rfl) rfl)⟩ ?_
   rintro k _ w29 ⟨K30, v29, rfl, S31, hj23, hJ23, h⟩
   rcases k with _ | k
   ·
    have hk32 := h; obtain ⟨o23, h⟩ := ex_eq (Sum.inr (Sum.inl ()) : Bool ⊕ ((Unit) ⊕ (Unit)))
    have hc23 : decide (v29 < (p1.Next.length : Int)) = false := decide_eq_false (by omega)
    refine WC.seq ?_
    refine WC.rs [(0, 2)] rfl ?_
    refine WO.pn 1 rfl ?_
    refine WO.fin ?_
    refine DN.seq ?_
    refine WC.seq ?_
    refine WC.cf' rfl hc23 ?_
    refine WC.exit ?_
    refine DN.exitThen ?_
    refine DN.exitThen ?_
    obtain rfl := Option.some.inj h
    have h := hk32
    refine DN.hit ?_
    obtain rfl := Option.some.inj h
    exact DN.meet _ ⟨K30, rfl, S31.wk rfl, rfl⟩ fun a ha => ha.nil
   ·
    obtain ⟨o23, h, hk32⟩ := Option.bind_eq_some_iff.mp h; unfold i_isMachine_b0 at h
    have hc23 : decide (v29 < (p1.Next.length : Int)) = true := decide_eq_true (by omega)
    refine WC.seq ?_
    refine WC.rs [(0, 2)] rfl ?_
    refine WO.pn 1 rfl ?_
    refine WO.fin ?_
    refine DN.seq ?_
    refine WC.seq ?_
    refine WC.ct' rfl hc23 ?_
    refine WC.skip ?_
    refine DN.seq ?_
    refine WC.seq ?_
    refine WC.block ?_
    refine WC.seq ?_
    refine WC.rs [(0, 2), (1, 2), (2, 1), (3, 2), (4, 2)] rfl ?_
    refine WO.pn 1 rfl ?_
    obtain ⟨x32, hx32, h⟩ := Option.bind_eq_some_iff.mp h
    refine WO.k2 rfl rfl rfl rfl (rn_index g1_0 hx32 Tryd.runUnderlying35 Tryd.sizeOf60 rfl rfl rfl rfl) ?_
    have f33 := g1_0.stp (S3.tr (S7.tr (S13.tr (S19.tr S31)))) rfl rfl
    obtain ⟨ax32, ux32, f34, hl35⟩ := f33.gSl hx32
    refine WO.k1 trivial rfl rfl rfl rfl (rn_ld Tryd.isAgg60 rfl rfl (hvE hl35)) ?_
    refine WO.pn 2 rfl ?_
    refine WO.fin ?_
    refine DN.seq ?_
    refine WC.seq ?_
    refine WC.rx (κ := K30) [0, 2, 3] none [(0, 2), (1, 2), (2, 0), (3, 1), (4, 2), (5, 2), (6, 2), (8, 2), (12, 2), (13, 2), (7, 0), (9, 2), (10, 0), (11, 2), (14, 2), (15, 2), (16, 2), (17, 2), (18, 2), (19, 1), (20, 2), (21, 2), (22, 2), (23, 2), (25, 2), (28, 2), (24, 0), (26, 2), (27, 0), (29, 0), (30, 2), (31, 1), (32, 2), (33, 2)] [] (by kernel_rfl) (by kernel_rfl) fun w37 S36 => ?_
    refine WO.pn 1 rfl ?_
    refine WO.k2 rfl rfl rfl rfl (rn_len Tryd.runUnderlying60 rfl rfl) ?_
    have f38 := f4.stp (S7.tr (S13.tr (S19.tr (S31.tr S36)))) rfl rfl
    refine WO.k0 rfl rfl rfl rfl (rn_la (cs := [.int .i64 p0.In, .int .i64 p0.Out]) Tryd.isAgg40 Tryd.sizeOf40 rfl rfl rfl (haC f38.cells rfl)) ?_
    obtain ⟨x37, hx37, h⟩ := Option.bind_eq_some_iff.mp h
    refine WO.call rfl rfl rfl rfl rfl rfl Tryd.call70 (i_inputsOf_ok (κ := fun b => mp [] 0 (K30 b)) (p0 := p0) hx37) ?_
    rintro _ w39 ⟨k40, rfl, e41⟩
    obtain ⟨K42, S43, m44⟩ := Ent.mixed (l := []) (κ := K30) e41 4 rfl
    refine ⟨(S43.cl rfl), ?_⟩
    refine WO.pn 2 rfl ?_
    obtain ⟨p49, h, hK46⟩ := Option.bind_eq_some_iff.mp h
    refine WO.meet [(6, 2), (8, 2), (12, 2), (13, 2), (7, 0), (9, 2), (10, 0), (11, 2), (14, 2), (15, 2)] [(16, 2), (17, 2), (18, 2), (19, 1), (20, 2), (21, 2), (22, 2), (23, 2), (25, 2), (28, 2), (24, 0), (26, 2), (27, 0), (29, 0), (30, 2), (31, 1), (32, 2), (33, 2)] (fun L w' => L = [(2, .pointer (some ⟨b2, 0, none⟩)), (3, .pointer (some ⟨b3, 0, none⟩)), (5, .int .i64 (p1.Next.length : Int)), (6, .int .i64 v29), (7, .slice ax32 x32.length ux32), (27, .slice a1_0 p1.Next.length u1_0), (28, .int .i64 (p1.Next.length : Int)), (29, .int .i64 v29), (49, .bool p49)] ∧ ∃ κ', Stp [] K42 w39 κ' w') (S43.cl rfl) ?_ ?_
    ·
     revert h
     cases ht47 : ((x32.length : Int) != x37) with
     | true =>
      intro h; replace h := cT h
      refine WO.pn 4 rfl ?_
      refine WO.qs rfl rfl rfl rfl ?_
      refine WO.pn 1 rfl ?_
      refine WO.qs rfl rfl rfl rfl ?_
      refine WO.pn 3 rfl ?_
      obtain rfl := Option.some.inj h
      exact WO.met _ (S43.cl rfl) ⟨rfl, _, (Stp.refl _ _).wk rfl⟩ fun a ha => (ha.more (ha.more (ha.more (ha.more (ha.more (ha.more (ha.more (ha.more (ha.more ha.nil rfl) rfl) rfl) rfl) rfl) rfl) rfl) rfl) rfl)
     | false =>
      intro h; replace h := cF h
      refine WO.k2 rfl rfl rfl rfl (rn_fieldAddr Tryd.runUnderlying42 rfl Tryd.sizeOf35 rfl rfl) ?_
      refine WO.pn 2 rfl ?_
      refine WO.k2 rfl rfl rfl rfl (rn_len Tryd.runUnderlying60 rfl rfl) ?_
      have f48 := f22.stp (S31.tr S36) rfl rfl
      refine WO.k0 rfl rfl rfl rfl (rn_ld Tryd.isAgg35 rfl rfl (hvC (f48.ld 1 rfl rfl) rfl)) ?_
      obtain ⟨x43, hx43, h⟩ := Option.bind_eq_some_iff.mp h
      refine WO.k2 rfl rfl rfl rfl (rn_index g1_1 hx43 Tryd.runUnderlying35 Tryd.sizeOf60 rfl rfl rfl rfl) ?_
      have f49 := g1_1.stp (S3.tr (S7.tr (S13.tr (S19.tr (S31.tr S36))))) rfl rfl
      obtain ⟨ax43, ux43, f50, hl51⟩ := f49.gSl hx43
      refine WO.k0 rfl rfl rfl rfl (rn_ld Tryd.isAgg60 rfl rfl (hvC hl51 rfl)) ?_
      refine WO.k2 rfl rfl rfl rfl (rn_len Tryd.runUnderlying60 rfl rfl) ?_
      refine WO.pn 2 rfl ?_
      obtain rfl := Option.some.inj h
      exact WO.met _ (S43.cl rfl) ⟨rfl, _, (Stp.refl _ _).wk rfl⟩ fun a ha => (ha.more (ha.more (ha.more (ha.more (ha.more (ha.more (ha.more (ha.more (ha.more ha.nil rfl) rfl) rfl) rfl) rfl) rfl) rfl) rfl) rfl)
    rintro _ w52 _ ⟨rfl, K53, S54⟩
    have h := hK46
    refine WO.pn 1 rfl ?_
    obtain ⟨p55, h, hK55⟩ := Option.bind_eq_some_iff.mp h
    refine WO.meet [(17, 2), (18, 2), (19, 1), (20, 2), (21, 2)] [(22, 2), (23, 2), (25, 2), (28, 2), (24, 0), (26, 2), (27, 0), (29, 0), (30, 2), (31, 1), (32, 2), (33, 2)] (fun L w' => L = [(2, .pointer (some ⟨b2, 0, none⟩)), (3, .pointer (some ⟨b3, 0, none⟩)), (5, .int .i64 (p1.Next.length : Int)), (6, .int .i64 v29), (27, .slice a1_0 p1.Next.length u1_0), (28, .int .i64 (p1.Next.length : Int)), (29, .int .i64 v29), (55, .bool p55)] ∧ ∃ κ', Stp [] K53 w52 κ' w') ((S43.tr S54).cl rfl) ?_ ?_
    ·
     revert h
     cases ht56 : p49 with
     | true =>
      intro h; replace h := cT h
      refine WO.pn 2 rfl ?_
      refine WO.ls rfl rfl rfl rfl ?_
      refine WO.pn 2 rfl ?_
      obtain rfl := Option.some.inj h
      exact WO.met _ ((S43.tr S54).cl rfl) ⟨rfl, _, (Stp.refl _ _).wk rfl⟩ fun a ha => (ha.more (ha.more (ha.more (ha.more (ha.more (ha.more (ha.more (ha.more ha.nil rfl) rfl) rfl) rfl) rfl) rfl) rfl) rfl)
     | false =>
      intro h; replace h := cF h
      refine WO.pn 2 rfl ?_
      obtain ⟨x53, hx53, h⟩ := Option.bind_eq_some_iff.mp h
      have f57 := f34.stp (S36.tr (S43.tr S54)) rfl rfl
      refine WO.call rfl rfl rfl rfl rfl rfl Tryd.call71 (i_areLetters_ok (κ := fun b => mp [] 0 (K53 b)) (Sl.map f57 (mp [] 0) rfl rfl) hx53) ?_
      rintro _ w58 ⟨k59, rfl, e60⟩
      obtain ⟨K61, S62, m63⟩ := Ent.mixed (l := []) (κ := K53) e60 6 rfl
      refine ⟨((S43.tr (S54.tr S62)).cl rfl), ?_⟩
      refine WO.pn 2 rfl ?_
      obtain rfl := Option.some.inj h
      exact WO.met _ ((S43.tr (S54.tr S62)).cl rfl) ⟨rfl, _, S62.wk rfl⟩ fun a ha => (ha.more (ha.more (ha.more (ha.more (ha.more (ha.more (ha.more (ha.more ha.nil rfl) rfl) rfl) rfl) rfl) rfl) rfl) rfl)
    rintro _ w65 _ ⟨rfl, K66, S67⟩
    have h := hK55
    refine WO.pn 1 rfl ?_
    obtain ⟨p67, h, hK68⟩ := Option.bind_eq_some_iff.mp h
    refine WO.meet [(23, 2), (25, 2), (28, 2), (24, 0), (26, 2), (27, 0), (29, 0), (30, 2), (31, 1), (32, 2), (33, 2)] [] (fun L w' => L = [(2, .pointer (some ⟨b2, 0, none⟩)), (3, .pointer (some ⟨b3, 0, none⟩)), (5, .int .i64 (p1.Next.length : Int)), (27, .slice a1_0 p1.Next.length u1_0), (28, .int .i64 (p1.Next.length : Int)), (29, .int .i64 v29), (67, .bool p67)] ∧ ∃ κ', Stp [] K66 w65 κ' w') ((S43.tr (S54.tr S67)).cl rfl) ?_ ?_
    ·
     revert h
     cases ht69 : p55 with
     | true =>
      intro h; replace h := cT h
      refine WO.pn 3 rfl ?_
      refine WO.qs rfl rfl rfl rfl ?_
      refine WO.pn 1 rfl ?_
      refine WO.qs rfl rfl rfl rfl ?_
      refine WO.qs rfl rfl rfl rfl ?_
      refine WO.pn 1 rfl ?_
      refine WO.ls rfl rfl rfl rfl ?_
      refine WO.pn 2 rfl ?_
      obtain rfl := Option.some.inj h
      exact WO.met _ ((S43.tr (S54.tr S67)).cl rfl) ⟨rfl, _, (Stp.refl _ _).wk rfl⟩ fun a ha => (ha.more (ha.more (ha.more (ha.more (ha.more (ha.more (ha.more ha.nil rfl) rfl) rfl) rfl) rfl) rfl) rfl)
     | false =>
      intro h; replace h := cF h
      refine WO.k2 rfl rfl rfl rfl (rn_fieldAddr Tryd.runUnderlying42 rfl Tryd.sizeOf35 rfl rfl) ?_
      refine WO.pn 1 rfl ?_
      refine WO.k2 rfl rfl rfl rfl (rn_fieldAddr Tryd.runUnderlying40 rfl Tryd.sizeOf2 rfl rfl) ?_
      have f70 := f22.stp (S31.tr S36) rfl rfl
      refine WO.k0 rfl rfl rfl rfl (rn_ld Tryd.isAgg35 rfl rfl (hvC (f70.ld 1 rfl rfl) rfl)) ?_
      obtain ⟨x60, hx60, h⟩ := Option.bind_eq_some_iff.mp h
      refine WO.k2 rfl rfl rfl rfl (rn_index g1_1 hx60 Tryd.runUnderlying35 Tryd.sizeOf60 rfl rfl rfl rfl) ?_
      have f71 := g1_1.stp (S3.tr (S7.tr (S13.tr (S19.tr (S31.tr S36))))) rfl rfl
      obtain ⟨ax60, ux60, f72, hl73⟩ := f71.gSl hx60
      refine WO.k0 rfl rfl rfl rfl (rn_ld Tryd.isAgg60 rfl rfl (hvC hl73 rfl)) ?_
      refine WO.k0 rfl rfl rfl rfl (rn_ld Tryd.isAgg2 rfl rfl (hvC (f38.ld 1 rfl rfl) rfl)) ?_
      obtain ⟨_z64, hz64, h⟩ := Option.bind_eq_some_iff.mp h
      refine WO.k2 rfl rfl rfl rfl (rn_shl rfl rfl rfl (nn_ok hz64)) ?_
      obtain ⟨x65, hx65, h⟩ := Option.bind_eq_some_iff.mp h
      have f74 := f72.stp (S43.tr (S54.tr S67)) rfl rfl
      refine WO.call rfl rfl rfl rfl rfl rfl Tryd.call71 (i_areLetters_ok (κ := fun b => mp [] 0 (K66 b)) (Sl.map f74 (mp [] 0) rfl rfl) hx65) ?_
      rintro _ w75 ⟨k76, rfl, e77⟩
      obtain ⟨K78, S79, m80⟩ := Ent.mixed (l := []) (κ := K66) e77 6 rfl
      refine ⟨((S43.tr (S54.tr (S67.tr S79))).cl rfl), ?_⟩
      refine WO.pn 2 rfl ?_
      obtain rfl := Option.some.inj h
      exact WO.met _ ((S43.tr (S54.tr (S67.tr S79))).cl rfl) ⟨rfl, _, S79.wk rfl⟩ fun a ha => (ha.more (ha.more (ha.more (ha.more (ha.more (ha.more (ha.more ha.nil rfl) rfl) rfl) rfl) rfl) rfl) rfl)
    rintro _ w82 _ ⟨rfl, K83, S84⟩
    have h := hK68
    refine WO.nx ?_
    refine WO.fin ?_
    refine DN.seq ?_
    revert h
    cases ht85 : p67 with
    | true =>
     intro h; replace h := cT h
     refine WC.ct rfl ?_
     refine WC.seq ?_
     refine WC.rs [(0, 2)] rfl ?_
     refine WO.pn 1 rfl ?_
     refine WO.fin ?_
     refine DN.seq ?_
     refine WC.ret ?_
     refine DN.retBlock ?_
     refine DN.retThen ?_
     refine DN.retThen ?_
     obtain rfl := Option.some.inj h
     obtain rfl := Option.some.inj hk32
     have h := hK24
     dsimp only [aft] at h
     refine DN.retBlock ?_
     refine DN.retMeet ?_
     refine DN.retThen ?_
     have f86 := hE.stp (S3.tr (S7.tr (S13.tr (S19.tr (S31.tr (S36.tr (S43.tr (S54.tr (S67.tr S84))))))))) rfl rfl
     refine DN.res (l := [.tmp 4]) Tryd.results48 (res_tmp rfl rfl) rfl ?_
     obtain rfl := Option.some.inj h
     exact ⟨K83, rfl, f86⟩
    | false =>
     intro h; replace h := cF h
     refine WC.cf rfl ?_
     refine WC.skip ?_
     refine DN.block ?_
     refine DN.seq ?_
     refine WC.rs [(0, 2), (1, 2)] rfl ?_
     refine WO.pn 2 rfl ?_
     refine WO.fin ?_
     have hw23 : IntKind.wrap .i64 (v29 + 1) = v29 + 1 := wr1 hj23 (of_decide_eq_true hc23) hN23
     rw [hw23]
     have hc23 := of_decide_eq_true hc23
     obtain rfl := Option.some.inj h
     refine DN.round fun a ha => ?_
     exact ⟨k, _, Nat.lt_succ_self _, ⟨K83, v29 + 1, rfl, (S31.tr (S36.tr (S43.tr (S54.tr (S67.tr S84))))).wk rfl, by omega, by omega, hk32⟩, (ha.more (ha.more (ha.more (ha.more (ha.more (ha.more ha.nil rfl) rfl) rfl) rfl) rfl) rfl)⟩
  rintro _ w26 ⟨K27, rfl, S28, rfl⟩
  have h := hK24
  dsimp only [aft] at h
  refine DN.seq ?_
  refine WC.seq ?_
  refine WC.rs [(0, 2)] rfl ?_
  refine WO.pn 1 rfl ?_
  refine WO.fin ?_
  refine DN.seq ?_
  refine WC.ret ?_
  have f87 := hE.stp (S3.tr (S7.tr (S13.tr (S19.tr S28)))) rfl rfl
  refine DN.res (l := [.tmp 4]) Tryd.results48 (res_tmp rfl rfl) rfl ?_
  obtain rfl := Option.some.inj h
  exact ⟨K27, rfl, f87⟩

/- loop.example/g00869/spec.MachineText -/
theorem s_MachineText_ok {w : World} {κ : Col} {p0 : Sig} {a1_0 : Option Addr} {u1_0 : Nat} {a1_1 : Option Addr} {u1_1 : Nat} {p1 : Machine} (g1_0 : Rd (Rp.sl (Rp.int .i64)) κ w 0 a1_0 u1_0 p1.Next) (g1_1 : Rd (Rp.sl (Rp.int .i64)) κ w 0 a1_1 u1_1 p1.Out) {r : ByteArray} (h : s_MachineText p0 p1 = some r) : Ret Tryd.prog 16 [.agg #[.int .i64 p0.In, .int .i64 p0.Out], .agg #[.slice a1_0 p1.Next.length u1_0, .slice a1_1 p1.Out.length u1_1]] w (fun v w' => ∃ (κ' : Col), v = .string r ∧ Ent κ w κ' w') := by
 unfold s_MachineText at h
 refine Ret.enter Tryd.func16 rfl Tryd.ntmps16 rfl ?_
 dsimp only [envOf]
 have hE := Ent.refl κ w
 refine WC.seq ?_
 refine WC.rs [(0, 1), (1, 1), (2, 2)] rfl ?_
 refine WO.box (κ := κ) 2 rfl rfl rfl rfl rfl rfl rfl fun b2 w1 K2 S3 f4 => ⟨trivial, ?_⟩
 refine WO.box (κ := K2) 3 rfl rfl rfl rfl rfl rfl rfl fun b3 w5 K6 S7 f8 => ⟨trivial, ?_⟩
 refine WO.pn 1 rfl ?_
 refine WO.fin ?_
 refine DN.seq ?_
 refine WC.seq ?_
 refine WC.seq ?_
 refine WC.rs [(0, 1), (1, 1), (2, 1), (3, 2)] rfl ?_
 have f9 := f4.stp S7 rfl rfl
 refine WO.k1 trivial rfl rfl rfl rfl (rn_la (cs := [.int .i64 p0.In, .int .i64 p0.Out]) Tryd.isAgg40 Tryd.sizeOf40 rfl rfl rfl (haE f9.cells)) ?_
 refine WO.k1 trivial rfl rfl rfl rfl (rn_la (cs := [.slice a1_0 p1.Next.length u1_0, .slice a1_1 p1.Out.length u1_1]) Tryd.isAgg42 Tryd.sizeOf42 rfl rfl rfl (haE f8.cells)) ?_
 obtain ⟨x11, hx11, h⟩ := Option.bind_eq_some_iff.mp h
 have f10 := g1_0.stp (S3.tr S7) rfl rfl
 have f11 := g1_1.stp (S3.tr S7) rfl rfl
 refine WO.call rfl rfl rfl rfl rfl rfl Tryd.call44 (s_MachineOk_ok (κ := fun b => mp [] 0 (K6 b)) (p0 := p0) (p1 := p1) (Sl.map f10 (mp [] 0) rfl rfl) (Sl.map f11 (mp [] 0) rfl rfl) hx11) ?_
 rintro _ w12 ⟨k13, rfl, e14⟩
 obtain ⟨K15, S16, m17⟩ := Ent.mixed (l := []) (κ := K6) e14 4 rfl
 refine ⟨trivial, ?_⟩
 refine WO.pn 1 rfl ?_
 refine WO.fin ?_
 refine DN.seq ?_
 revert h
 cases ht19 : (!x11) with
 | true =>
  intro h; replace h := cT h
  refine WC.ct rfl ?_
  refine WC.seq ?_
  refine WC.rs [(0, 2)] rfl ?_
  refine WO.pn 1 rfl ?_
  refine WO.fin ?_
  refine DN.seq ?_
  refine WC.ret ?_
  refine DN.retThen ?_
  have f20 := hE.stp (S3.tr (S7.tr S16)) rfl rfl
  refine DN.res (l := [.tmp 4]) Tryd.results16 (res_tmp rfl rfl) rfl ?_
  obtain rfl := Option.some.inj h
  exact ⟨K15, rfl, f20⟩
 | false =>
  intro h; replace h := cF h
  refine WC.cf rfl ?_
  refine WC.skip ?_
  refine DN.seq ?_
  refine WC.seq ?_
  refine WC.rs [(0, 1), (1, 2)] rfl ?_
  refine WO.bl0 (κ := K15) (E := (Ep.int .u8)) 6 rfl rfl rfl rfl rfl Tryd.underlying22 Trydinfo5 rfl fun a13 u13 w21 K22 S23 f24 => ⟨trivial, ?_⟩
  refine WO.pn 1 rfl ?_
  refine WO.fin ?_
  refine DN.seq ?_
  refine WC.seq ?_
  refine WC.seq ?_
  refine WC.rs [(0, 2)] rfl ?_
  refine WO.pn 1 rfl ?_
  refine WO.fin ?_
  refine DN.seq ?_
  have hN25 : (p1.Next.length : Int) ≤ 9223372036854775807 := f10.len_le
  obtain ⟨q2, hq27, hK26⟩ := Option.bind_eq_some_iff.mp h
  clear h
  refine WC.meet (fun L w' => ∃ (κ' : Col) (s3 : (List Int)) (las3_0 : Option Addr) (lus3_0 : Nat), L = [(5, .slice las3_0 s3.length lus3_0)] ∧ Stp [6, 7] K22 w21 κ' w' ∧ Oc (Ep.int .u8) 5 κ' w' 6 las3_0 lus3_0 s3 ∧ q2 = Sum.inr s3) ?_ ?_
  ·
   refine WC.block ?_
   refine WC.loop (fun k L w' => ∃ (κ' : Col) (v6 : Int) (s1 : (List Int)) (las1_0 : Option Addr) (lus1_0 : Nat), L = [(3, .pointer (some ⟨b3, 0, none⟩)), (5, .slice las1_0 s1.length lus1_0), (6, .int .i64 v6)] ∧ Stp [6, 7] K22 w21 κ' w' ∧ Oc (Ep.int .u8) 5 κ' w' 6 las1_0 lus1_0 s1 ∧ 0 ≤ v6 ∧ Int.toNat ((p1.Next.length : Int) - v6) = k ∧ cntM (s_MachineText_b0 p1) k v6 s1 = some q2) ⟨_, _, ⟨K22, 0, (([] : List Int) : (List Int)), a13, u13, rfl, (Stp.refl _ _).wk rfl, f24, (by decide), (by simp), hq27⟩, fun a ha => (ha.more (ha.more (ha.more ha.nil rfl) rfl) rfl)⟩ ?_
   rintro k _ w32 ⟨K33, v6, s1, las1_0, lus1_0, rfl, S34, f35, hj25, hJ25, h⟩
   rcases k with _ | k
   ·
    have hk36 := h; obtain ⟨o25, h⟩ := ex_eq (Sum.inr (Sum.inl s1) : ByteArray ⊕ (((List Int)) ⊕ ((List Int))))
    have hc25 : decide (v6 < (p1.Next.length : Int)) = false := decide_eq_false (by omega)
    refine WC.seq ?_
    refine WC.seq ?_
    refine WC.rs [(0, 2), (1, 2), (2, 1), (3, 2), (4, 2)] rfl ?_
    refine WO.pn 1 rfl ?_
    refine WO.k2 rfl rfl rfl rfl (rn_fieldAddr Tryd.runUnderlying42 rfl Tryd.sizeOf35 rfl rfl) ?_
    have f37 := f8.stp (S16.tr (S23.tr S34)) rfl rfl
    refine WO.k1 trivial rfl rfl rfl rfl (rn_ld Tryd.isAgg35 rfl rfl (hvE (f37.ld 0 rfl rfl))) ?_
    refine WO.k2 rfl rfl rfl rfl (rn_len Tryd.runUnderlying35 rfl rfl) ?_
    refine WO.pn 1 rfl ?_
    refine WO.fin ?_
    refine DN.seq ?_
    refine WC.cf' rfl hc25 ?_
    refine WC.exit ?_
    refine DN.exitThen ?_
    refine DN.exitThen ?_
    obtain rfl := Option.some.inj h
    have h := hk36
    refine DN.hit ?_
    obtain rfl := Option.some.inj h
    exact DN.meet _ ⟨K33, (s1 : (List Int)), las1_0, lus1_0, rfl, S34.wk rfl, f35, rfl⟩ fun a ha => (ha.more ha.nil rfl)
   ·
    obtain ⟨o25, h, hk36⟩ := Option.bind_eq_some_iff.mp h; unfold s_MachineText_b0 at h
    have hc25 : decide (v6 < (p1.Next.length : Int)) = true := decide_eq_true (by omega)
    refine WC.seq ?_
    refine WC.seq ?_
    refine WC.rs [(0, 2), (1, 2), (2, 1), (3, 2), (4, 2)] rfl ?_
    refine WO.pn 1 rfl ?_
    refine WO.k2 rfl rfl rfl rfl (rn_fieldAddr Tryd.runUnderlying42 rfl Tryd.sizeOf35 rfl rfl) ?_
    have f38 := f8.stp (S16.tr (S23.tr S34)) rfl rfl
    refine WO.k1 trivial rfl rfl rfl rfl (rn_ld Tryd.isAgg35 rfl rfl (hvE (f38.ld 0 rfl rfl))) ?_
    refine WO.k2 rfl rfl rfl rfl (rn_len Tryd.runUnderlying35 rfl rfl) ?_
    refine WO.pn 1 rfl ?_
    refine WO.fin ?_
    refine DN.seq ?_
    refine WC.ct' rfl hc25 ?_
    refine WC.skip ?_
    refine DN.seq ?_
    refine WC.seq ?_
    refine WC.block ?_
    refine WC.seq ?_
    refine WC.rs [(0, 1), (1, 2)] rfl ?_
    refine WO.bl0 (κ := K33) (E := Ep.str) 7 rfl rfl rfl rfl rfl Tryd.underlying57 Trydinfo9 rfl fun a21 u21 w39 K40 S41 f42 => ⟨trivial, ?_⟩
    refine WO.pn 1 rfl ?_
    refine WO.fin ?_
    refine DN.seq ?_
    refine WC.seq ?_
    refine WC.seq ?_
    refine WC.rs [(0, 2)] rfl ?_
    refine WO.pn 1 rfl ?_
    refine WO.fin ?_
    refine DN.seq ?_
    obtain ⟨q5, hq45, hK44⟩ := Option.bind_eq_some_iff.mp h
    clear h
    refine WC.meet (fun L w' => ∃ (κ' : Col) (s6 : (List ByteArray) × Int) (las6_0 : Option Addr) (lus6_0 : Nat), L = [(3, .pointer (some ⟨b3, 0, none⟩)), (5, .slice las1_0 s1.length lus1_0), (6, .int .i64 v6), (7, .slice las6_0 s6.1.length lus6_0)] ∧ Stp [7] K40 w39 κ' w' ∧ Oc Ep.str 9 κ' w' 7 las6_0 lus6_0 s6.1 ∧ q5 = Sum.inr s6) ?_ ?_
    ·
     refine WC.block ?_
     refine WC.loop (fun k L w' => ∃ (κ' : Col) (s4 : (List ByteArray) × Int) (las4_0 : Option Addr) (lus4_0 : Nat), L = [(3, .pointer (some ⟨b3, 0, none⟩)), (5, .slice las1_0 s1.length lus1_0), (6, .int .i64 v6), (7, .slice las4_0 s4.1.length lus4_0), (8, .int .i64 s4.2)] ∧ Stp [7] K40 w39 κ' w' ∧ Oc Ep.str 9 κ' w' 7 las4_0 lus4_0 s4.1 ∧ whileM (s_MachineText_b2 p1 v6) k s4 = some q5) ⟨_, _, ⟨K40, ((([] : List ByteArray) : (List ByteArray)), (0 : Int)), a21, u21, rfl, (Stp.refl _ _).wk rfl, f42, hq45⟩, fun a ha => (ha.more (ha.more (ha.more (ha.more (ha.more ha.nil rfl) rfl) rfl) rfl) rfl)⟩ ?_
     rintro k _ w50 ⟨K51, s4, las4_0, lus4_0, rfl, S52, f53, h⟩
     rcases k with _ | k
     ·
      cases h
     ·
      obtain ⟨o43, h, hk54⟩ := Option.bind_eq_some_iff.mp h; unfold s_MachineText_b2 at h
      refine WC.seq ?_
      refine WC.seq ?_
      refine WC.rs [(0, 2), (1, 2), (2, 1), (3, 2), (4, 2), (5, 1), (6, 2), (7, 2)] rfl ?_
      refine WO.pn 1 rfl ?_
      refine WO.k2 rfl rfl rfl rfl (rn_fieldAddr Tryd.runUnderlying42 rfl Tryd.sizeOf35 rfl rfl) ?_
      have f55 := f38.stp (S41.tr S52) rfl rfl
      refine WO.k1 trivial rfl rfl rfl rfl (rn_ld Tryd.isAgg35 rfl rfl (hvE (f55.ld 0 rfl rfl))) ?_
      refine WO.pn 1 rfl ?_
      obtain ⟨x26, hx26, h⟩ := Option.bind_eq_some_iff.mp h
      refine WO.k2 rfl rfl rfl rfl (rn_index f10 hx26 Tryd.runUnderlying35 Tryd.sizeOf60 rfl rfl rfl rfl) ?_
      have f56 := f10.stp (S16.tr (S23.tr (S34.tr (S41.tr S52)))) rfl rfl
      obtain ⟨ax26, ux26, f57, hl58⟩ := f56.gSl hx26
      refine WO.k1 trivial rfl rfl rfl rfl (rn_ld Tryd.isAgg60 rfl rfl (hvE hl58)) ?_
      refine WO.k2 rfl rfl rfl rfl (rn_len Tryd.runUnderlying60 rfl rfl) ?_
      refine WO.pn 1 rfl ?_
      refine WO.fin ?_
      refine DN.seq ?_
      revert h
      cases ht59 : decide (s4.2 < (x26.length : Int)) with
      | true =>
       intro h; replace h := cT h
       refine WC.ct rfl ?_
       refine WC.skip ?_
       refine DN.seq ?_
       refine WC.seq ?_
       refine WC.block ?_
       refine WC.rx (κ := K51) [0, 3] none [(0, 2), (1, 2), (3, 2), (6, 2), (11, 2), (13, 2), (16, 2), (2, 0), (4, 2), (5, 0), (7, 2), (8, 0), (12, 0), (14, 2), (15, 0), (17, 2), (18, 0), (9, 1), (10, 2), (19, 1), (20, 2), (21, 1), (22, 1), (23, 2)] [] (by kernel_rfl) (by kernel_rfl) fun w61 S60 => ?_
       refine WO.pn 1 rfl ?_
       refine WO.k2 rfl rfl rfl rfl (rn_fieldAddr Tryd.runUnderlying42 rfl Tryd.sizeOf35 rfl rfl) ?_
       refine WO.pn 2 rfl ?_
       refine WO.k2 rfl rfl rfl rfl (rn_fieldAddr Tryd.runUnderlying42 rfl Tryd.sizeOf35 rfl rfl) ?_
       refine WO.pn 2 rfl ?_
       have f62 := f55.stp S60 rfl rfl
       refine WO.k0 rfl rfl rfl rfl (rn_ld Tryd.isAgg35 rfl rfl (hvC (f62.ld 0 rfl rfl) rfl)) ?_
       obtain ⟨x36, hx36, h⟩ := Option.bind_eq_some_iff.mp h
       refine WO.k2 rfl rfl rfl rfl (rn_index f56 hx36 Tryd.runUnderlying35 Tryd.sizeOf60 rfl rfl rfl rfl) ?_
       have f63 := f56.stp S60 rfl rfl
       obtain ⟨ax36, ux36, f64, hl65⟩ := f63.gSl hx36
       refine WO.k0 rfl rfl rfl rfl (rn_ld Tryd.isAgg60 rfl rfl (hvC hl65 rfl)) ?_
       obtain ⟨x39, hx39, h⟩ := Option.bind_eq_some_iff.mp h
       refine WO.k2 rfl rfl rfl rfl (rn_index f64 hx39 Tryd.runUnderlying60 Tryd.sizeOf2 rfl rfl rfl rfl) ?_
       refine WO.k0 rfl rfl rfl rfl (rn_ld Tryd.isAgg2 rfl rfl (hvC (f64.gInt hx39) rfl)) ?_
       refine WO.k0 rfl rfl rfl rfl (rn_ld Tryd.isAgg35 rfl rfl (hvC (f62.ld 1 rfl rfl) rfl)) ?_
       obtain ⟨x46, hx46, h⟩ := Option.bind_eq_some_iff.mp h
       refine WO.k2 rfl rfl rfl rfl (rn_index f11 hx46 Tryd.runUnderlying35 Tryd.sizeOf60 rfl rfl rfl rfl) ?_
       have f66 := f11.stp (S16.tr (S23.tr (S34.tr (S41.tr (S52.tr S60))))) rfl rfl
       obtain ⟨ax46, ux46, f67, hl68⟩ := f66.gSl hx46
       refine WO.k0 rfl rfl rfl rfl (rn_ld Tryd.isAgg60 rfl rfl (hvC hl68 rfl)) ?_
       obtain ⟨x49, hx49, h⟩ := Option.bind_eq_some_iff.mp h
       refine WO.k2 rfl rfl rfl rfl (rn_index f67 hx49 Tryd.runUnderlying60 Tryd.sizeOf2 rfl rfl rfl rfl) ?_
       refine WO.k0 rfl rfl rfl rfl (rn_ld Tryd.isAgg2 rfl rfl (hvC (f67.gInt hx49) rfl)) ?_
       obtain ⟨x41, hx41, h⟩ := Option.bind_eq_some_iff.mp h
       refine WO.call rfl rfl rfl rfl rfl rfl Tryd.call39 (s_l1Int_ok (κ := fun b => mp [] 0 (K51 b)) hx41) ?_
       rintro _ w69 ⟨k70, rfl, e71⟩
       obtain ⟨K72, S73, m74⟩ := Ent.mixed (l := []) (κ := K51) e71 8 rfl
       refine ⟨(S73.cl rfl), ?_⟩
       obtain ⟨x42, hx42, h⟩ := Option.bind_eq_some_iff.mp h
       refine WO.k2 rfl rfl rfl rfl (rn_addS rfl rfl rfl hx42) ?_
       obtain ⟨x51, hx51, h⟩ := Option.bind_eq_some_iff.mp h
       refine WO.call rfl rfl rfl rfl rfl rfl Tryd.call39 (s_l1Int_ok (κ := fun b => mp [] 0 (K72 b)) hx51) ?_
       rintro _ w76 ⟨k77, rfl, e78⟩
       obtain ⟨K79, S80, m81⟩ := Ent.mixed (l := []) (κ := K72) e78 10 rfl
       refine ⟨((S73.tr S80).cl rfl), ?_⟩
       obtain ⟨x52, hx52, h⟩ := Option.bind_eq_some_iff.mp h
       refine WO.k2 rfl rfl rfl rfl (rn_addS rfl rfl rfl hx52) ?_
       refine WO.bl (κ := K79) (E := Ep.str) 12 [] (parts := [(0, .tmp 52)]) (cells := [.string x52]) (xs := ([x52] : List ByteArray)) rfl rfl rfl rfl rfl rfl Tryd.underlying57 Trydinfo9 rfl rfl rfl rfl rfl rfl rfl rfl rfl rfl ⟨[.string x52], [], Zl K79 w76 [], Zl K79 w76 [], rfl, Zl.sp (l1 := []) (l2 := []) rfl, Zl.sr (l1 := []) (l2 := []), rfl, rfl⟩ fun a53 u53 w83 K84 S85 f86 => ⟨((S73.tr (S80.tr S85)).cl rfl), ?_⟩
       obtain ⟨x54, hx54, h⟩ := Option.bind_eq_some_iff.mp h
       have f87 := f53.stp (S60.tr (S73.tr (S80.tr S85))) rfl rfl
       refine WO.app (κ := K84) (E := Ep.str) 7 [] rfl rfl rfl rfl rfl rfl rfl rfl rfl Tryd.underlying57 Trydinfo9 rfl rfl rfl rfl f87 (Sl.srcP pu_str f86.rdc) sy_false hx54 rfl fun a54 u54 w88 K89 S90 f91 => ⟨((S73.tr (S80.tr (S85.tr S90))).cl rfl), ?_⟩
       refine WO.pn 1 rfl ?_
       refine WO.nx ?_
       refine WO.fin ?_
       refine DN.block ?_
       refine DN.seq ?_
       refine WC.rs [(0, 2), (1, 2), (2, 2)] rfl ?_
       refine WO.pn 3 rfl ?_
       refine WO.fin ?_
       obtain rfl := Option.some.inj h
       refine DN.round fun a ha => ?_
       exact ⟨k, _, Nat.lt_succ_self _, ⟨K89, ((x54 : (List ByteArray)), ((IntKind.i64.wrap (s4.2 + 1)) : Int)), a54, u54, rfl, (S52.tr (S60.tr (S73.tr (S80.tr (S85.tr S90))))).wk rfl, f91, hk54⟩, (ha.more (ha.more (ha.more (ha.more (ha.more ha.nil rfl) rfl) rfl) rfl) rfl)⟩
      | false =>
       intro h; replace h := cF h
       refine WC.cf rfl ?_
       refine WC.exit ?_
       refine DN.exitThen ?_
       refine DN.exitThen ?_
       obtain rfl := Option.some.inj h
       have h := hk54
       refine DN.hit ?_
       obtain rfl := Option.some.inj h
       exact DN.meet _ ⟨K51, ((s4.1 : (List ByteArray)), (s4.2 : Int)), las4_0, lus4_0, rfl, S52.wk rfl, f53, rfl⟩ fun a ha => (ha.more (ha.more (ha.more (ha.more ha.nil rfl) rfl) rfl) rfl)
    rintro _ w46 ⟨K47, s6, las6_0, lus6_0, rfl, S48, f49, rfl⟩
    have h := hK44
    dsimp only [aft] at h
    refine DN.seq ?_
    refine WC.seq ?_
    refine WC.rs [(0, 2), (1, 2), (2, 1), (3, 1), (4, 2)] rfl ?_
    refine WO.pn 2 rfl ?_
    obtain ⟨x57, hx57, h⟩ := Option.bind_eq_some_iff.mp h
    refine WO.call rfl rfl rfl rfl rfl rfl Tryd.call45 (s_l1Words_ok (κ := fun b => mp [] 0 (K47 b)) (Sl.map f49.rdc (mp [] 0) rfl rfl) hx57) ?_
    rintro _ w92 ⟨k93, rfl, e94⟩
    obtain ⟨K95, S96, m97⟩ := Ent.mixed (l := []) (κ := K47) e94 8 rfl
    refine ⟨trivial, ?_⟩
    obtain ⟨x58, hx58, h⟩ := Option.bind_eq_some_iff.mp h
    have f99 := f35.stp (S41.tr (S48.tr S96)) rfl rfl
    refine WO.appS (κ := K95) 6 rfl rfl rfl rfl rfl rfl rfl rfl Tryd.underlying22 Tryd.underlying9 Trydinfo5 rfl rfl rfl rfl f99 hx58 rfl fun a58 u58 w100 K101 S102 f103 => ⟨trivial, ?_⟩
    refine WO.pn 1 rfl ?_
    refine WO.fin ?_
    refine DN.seq ?_
    refine WC.rs [(0, 2), (1, 1), (2, 1), (3, 2)] rfl ?_
    refine WO.pn 1 rfl ?_
    refine WO.bl (κ := K101) (E := (Ep.int .u8)) 10 [] (parts := [(0, .const (.int .u8 10))]) (cells := [.int .u8 10]) (xs := ([10] : List Int)) rfl rfl rfl rfl rfl rfl Tryd.underlying22 Trydinfo5 rfl rfl rfl rfl rfl rfl rfl rfl rfl rfl ⟨[.int .u8 10], [], Zl K101 w100 [], Zl K101 w100 [], rfl, Zl.sp (l1 := []) (l2 := []) rfl, Zl.sr (l1 := []) (l2 := []), rfl, rfl⟩ fun a60 u60 w104 K105 S106 f107 => ⟨trivial, ?_⟩
    obtain ⟨x61, hx61, h⟩ := Option.bind_eq_some_iff.mp h
    have f108 := f103.stp S106 rfl rfl
    refine WO.app (κ := K105) (E := (Ep.int .u8)) 6 [] rfl rfl rfl rfl rfl rfl rfl rfl rfl Tryd.underlying22 Trydinfo5 rfl rfl rfl rfl f108 (Sl.srcP (pu_int _) f107.rdc) sy_false hx61 rfl fun a61 u61 w109 K110 S111 f112 => ⟨trivial, ?_⟩
    refine WO.pn 1 rfl ?_
    refine WO.fin ?_
    refine DN.block ?_
    refine DN.seq ?_
    refine WC.rs [(0, 2), (1, 2), (2, 2)] rfl ?_
    refine WO.pn 3 rfl ?_
    refine WO.fin ?_
    have hw25 : IntKind.wrap .i64 (v6 + 1) = v6 + 1 := wr1 hj25 (of_decide_eq_true hc25) hN25
    rw [hw25]
    have hc25 := of_decide_eq_true hc25
    obtain rfl := Option.some.inj h
    refine DN.round fun a ha => ?_
    exact ⟨k, _, Nat.lt_succ_self _, ⟨K110, v6 + 1, (x61 : (List Int)), a61, u61, rfl, (S34.tr (S41.tr (S48.tr (S96.tr (S102.tr (S106.tr S111)))))).wk rfl, f112, by omega, by omega, hk36⟩, (ha.more (ha.more (ha.more ha.nil rfl) rfl) rfl)⟩
  rintro _ w28 ⟨K29, s3, las3_0, lus3_0, rfl, S30, f31, rfl⟩
  have h := hK26
  dsimp only [aft] at h
  refine DN.seq ?_
  refine WC.seq ?_
  refine WC.rs [(0, 2), (1, 1), (2, 2)] rfl ?_
  refine WO.pn 1 rfl ?_
  refine WO.k1 trivial rfl rfl rfl rfl (rn_b2s Tryd.underlying22 Tryd.underlying5 Tryd.underlying9 rfl (svE f31.rdc) rfl rfl) ?_
  refine WO.pn 1 rfl ?_
  refine WO.fin ?_
  refine DN.seq ?_
  refine WC.ret ?_
  have f113 := hE.stp (S3.tr (S7.tr (S16.tr (S23.tr S30)))) rfl rfl
  refine DN.res (l := [.tmp 4]) Tryd.results16 (res_tmp rfl rfl) rfl ?_
  obtain rfl := Option.some.inj h
  exact ⟨K29, rfl, f113⟩

/- loop.example/g00869/spec.TextMachine -/
theorem s_TextMachine_ok {w : World} {κ : Col} {p0 : Sig} {p1 : ByteArray}  {r : Machine × Bool} (h : s_TextMachine p0 p1 = some r) : Ret Tryd.prog 23 [.agg #[.int .i64 p0.In, .int .i64 p0.Out], .string p1] w (fun v w' => ∃ (κ' : Col) (ra0 : Option Addr) (ru0 : Nat) (ra1 : Option Addr) (ru1 : Nat), v = .tuple #[.agg #[.slice ra0 r.1.Next.length ru0, .slice ra1 r.1.Out.length ru1], .bool r.2] ∧ Ent κ w κ' w' ∧ Oc (Ep.own (Ep.int .i64) 2) 60 κ' w' 2 ra0 ru0 r.1.Next ∧ Oc (Ep.own (Ep.int .i64) 2) 60 κ' w' 3 ra1 ru1 r.1.Out) := by
 unfold s_TextMachine at h
 refine Ret.enter Tryd.func23 rfl Tryd.ntmps23 rfl ?_
 dsimp only [envOf]
 have hE := Ent.refl κ w
 refine WC.seq ?_
 refine WC.rs [(0, 1), (1, 1), (2, 2)] rfl ?_
 refine WO.box (κ := κ) 2 rfl rfl rfl rfl rfl rfl rfl fun b2 w1 K2 S3 f4 => ⟨trivial, ?_⟩
 refine WO.alloc (κ := K2) 3 rfl rfl rfl rfl rfl Tryd.zeroValue42 rfl fun b4 w5 K6 S7 f8 => ⟨trivial, ?_⟩
 refine WO.pn 1 rfl ?_
 refine WO.fin ?_
 refine DN.seq ?_
 refine WC.seq ?_
 refine WC.seq ?_
 refine WC.rs [(0, 2), (1, 2), (2, 2)] rfl ?_
 refine WO.pn 1 rfl ?_
 refine WO.k2 rfl rfl rfl rfl (rn_lenS Tryd.runUnderlying9 rfl rfl) ?_
 refine WO.pn 1 rfl ?_
 refine WO.fin ?_
 refine DN.seq ?_
 revert h
 cases ht9 : decide (20000 < (p1.size : Int)) with
 | true =>
  intro h; replace h := cT h
  refine WC.ct rfl ?_
  refine WC.seq ?_
  refine WC.rs [(0, 2), (1, 1), (2, 2)] rfl ?_
  refine WO.k2 rfl rfl rfl rfl (rn_build (parts := []) (cells := [.slice none 0 0, .slice none 0 0]) rfl rfl (by kernel_rfl)) ?_
  refine WO.stB0 (κ := K6) 3 (vc := [.slice none 0 0, .slice none 0 0]) rfl rfl rfl rfl rfl rfl rfl Tryd.sizeOf42 rfl rfl f8 rfl fun w10 S11 f12 => ⟨trivial, ?_⟩
  refine WO.pn 1 rfl ?_
  refine WO.fin ?_
  refine DN.seq ?_
  refine WC.ret ?_
  refine DN.retThen ?_
  have f13 := hE.stp (S3.tr (S7.tr S11)) rfl rfl
  refine DN.res (l := [.cell 4 42, .tmp 5]) Tryd.results23 (res_cellA rfl f12 Tryd.isAgg42 Tryd.sizeOf42 rfl (res_tmp rfl rfl)) rfl ?_
  obtain rfl := Option.some.inj h
  exact ⟨K6, none, 0, none, 0, rfl, f13, Ow.nil, Ow.nil⟩
 | false =>
  intro h; replace h := cF h
  refine WC.cf rfl ?_
  refine WC.skip ?_
  refine DN.seq ?_
  refine WC.seq ?_
  refine WC.rs [(0, 2), (1, 1), (2, 2), (3, 2), (4, 2), (5, 2), (6, 2)] rfl ?_
  refine WO.pn 1 rfl ?_
  obtain ⟨x18, hx18, h⟩ := Option.bind_eq_some_iff.mp h
  refine WO.call rfl rfl rfl rfl rfl rfl Tryd.call53 (s_l13Lines_ok (κ := fun b => mp [] 1 (K6 b)) hx18) ?_
  rintro _ w14 ⟨k15, a18_0, u18_0, rfl, e16, f17⟩
  obtain ⟨K18, S19, m20, z21⟩ := Ent.mixed0 (l := []) (κ := K6) e16 4 rfl
  refine ⟨trivial, ?_⟩
  have f22 := f17.mx z21
  refine WO.pn 5 rfl ?_
  refine WO.fin ?_
  refine DN.seq ?_
  refine WC.seq ?_
  refine WC.rs [(0, 2), (1, 1), (2, 1)] rfl ?_
  refine WO.k2 rfl rfl rfl rfl (rn_build (parts := []) (cells := [.slice none 0 0, .slice none 0 0]) rfl rfl (by kernel_rfl)) ?_
  refine WO.alloc (κ := K18) 7 rfl rfl rfl rfl rfl Tryd.zeroValue42 rfl fun b8 w23 K24 S25 f26 => ⟨trivial, ?_⟩
  refine WO.stB0 (κ := K24) 7 (vc := [.slice none 0 0, .slice none 0 0]) rfl rfl rfl rfl rfl rfl rfl Tryd.sizeOf42 rfl rfl f26 rfl fun w27 S28 f29 => ⟨trivial, ?_⟩
  refine WO.fin ?_
  refine DN.seq ?_
  refine WC.seq ?_
  refine WC.seq ?_
  refine WC.rs [(0, 2)] rfl ?_
  refine WO.pn 1 rfl ?_
  refine WO.fin ?_
  refine DN.seq ?_
  have hN30 : (x18.1.length : Int) ≤ 9223372036854775807 := f22.len_le
  obtain ⟨q2, hq32, hK31⟩ := Option.bind_eq_some_iff.mp h
  clear h
  refine WC.meet (fun L w' => ∃ (κ' : Col) (s3 : (List (List Int)) × (List (List Int))) (las3_0 : Option Addr) (lus3_0 : Nat) (las3_1 : Option Addr) (lus3_1 : Nat), L = [(2, .pointer (some ⟨b2, 0, none⟩)), (4, .pointer (some ⟨b4, 0, none⟩)), (7, .bool x18.2), (8, .pointer (some ⟨b8, 0, none⟩))] ∧ Stp [7, 8, 9, 10, 11, 14, 15, 16] K24 w27 κ' w' ∧ Oc (Ep.own (Ep.int .i64) 2) 60 κ' w' 8 las3_0 lus3_0 s3.1 ∧ Oc (Ep.own (Ep.int .i64) 2) 60 κ' w' 9 las3_1 lus3_1 s3.2 ∧ Bc κ' w' 7 b8 42 [.slice las3_0 s3.1.length lus3_0, .slice las3_1 s3.2.length lus3_1] ∧ q2 = Sum.inr s3) ?_ ?_
  ·
   refine WC.block ?_
   refine WC.loop (fun k L w' => ∃ (κ' : Col) (v9 : Int) (s1 : (List (List Int)) × (List (List Int))) (las1_0 : Option Addr) (lus1_0 : Nat) (las1_1 : Option Addr) (lus1_1 : Nat), L = [(2, .pointer (some ⟨b2, 0, none⟩)), (4, .pointer (some ⟨b4, 0, none⟩)), (6, .slice a18_0 x18.1.length u18_0), (7, .bool x18.2), (8, .pointer (some ⟨b8, 0, none⟩)), (9, .int .i64 v9)] ∧ Stp [7, 8, 9, 10, 11, 14, 15, 16] K24 w27 κ' w' ∧ Oc (Ep.own (Ep.int .i64) 2) 60 κ' w' 8 las1_0 lus1_0 s1.1 ∧ Oc (Ep.own (Ep.int .i64) 2) 60 κ' w' 9 las1_1 lus1_1 s1.2 ∧ Bc κ' w' 7 b8 42 [.slice las1_0 s1.1.length lus1_0, .slice las1_1 s1.2.length lus1_1] ∧ 0 ≤ v9 ∧ Int.toNat ((x18.1.length : Int) - v9) = k ∧ cntM (s_TextMachine_b0 x18) k v9 s1 = some q2) ⟨_, _, ⟨K24, 0, ((([] : List (List Int)) : (List (List Int))), (([] : List (List Int)) : (List (List Int)))), none, 0, none, 0, rfl, (Stp.refl _ _).wk rfl, Ow.nil, Ow.nil, f29, (by decide), (by simp), hq32⟩, fun a ha => (ha.more (ha.more (ha.more (ha.more (ha.more (ha.more ha.nil rfl) rfl) rfl) rfl) rfl) rfl)⟩ ?_
   rintro k _ w39 ⟨K40, v9, s1, las1_0, lus1_0, las1_1, lus1_1, rfl, S41, f42, f43, f44, hj30, hJ30, h⟩
   rcases k with _ | k
   ·
    have hk45 := h; obtain ⟨o30, h⟩ := ex_eq (Sum.inr (Sum.inl s1) : (Machine × Bool) ⊕ (((List (List Int)) × (List (List Int))) ⊕ ((List (List Int)) × (List (List Int)))))
    have hc30 : decide (v9 < (x18.1.length : Int)) = false := decide_eq_false (by omega)
    refine WC.seq ?_
    refine WC.seq ?_
    refine WC.rs [(0, 2), (1, 2), (2, 2), (3, 2)] rfl ?_
    refine WO.pn 2 rfl ?_
    refine WO.k2 rfl rfl rfl rfl (rn_len Tryd.runUnderlying57 rfl rfl) ?_
    refine WO.pn 1 rfl ?_
    refine WO.fin ?_
    refine DN.seq ?_
    refine WC.cf' rfl hc30 ?_
    refine WC.exit ?_
    refine DN.exitThen ?_
    refine DN.exitThen ?_
    obtain rfl := Option.some.inj h
    have h := hk45
    refine DN.hit ?_
    obtain rfl := Option.some.inj h
    exact DN.meet _ ⟨K40, ((s1.1 : (List (List Int))), (s1.2 : (List (List Int)))), las1_0, lus1_0, las1_1, lus1_1, rfl, S41.wk rfl, f42, f43, f44, rfl⟩ fun a ha => (ha.more (ha.more (ha.more (ha.more ha.nil rfl) rfl) rfl) rfl)
   ·
    obtain ⟨o30, h, hk45⟩ := Option.bind_eq_some_iff.mp h; unfold s_TextMachine_b0 at h
    have hc30 : decide (v9 < (x18.1.length : Int)) = true := decide_eq_true (by omega)
    refine WC.seq ?_
    refine WC.seq ?_
    refine WC.rs [(0, 2), (1, 2), (2, 2), (3, 2)] rfl ?_
    refine WO.pn 2 rfl ?_
    refine WO.k2 rfl rfl rfl rfl (rn_len Tryd.runUnderlying57 rfl rfl) ?_
    refine WO.pn 1 rfl ?_
    refine WO.fin ?_
    refine DN.seq ?_
    refine WC.ct' rfl hc30 ?_
    refine WC.skip ?_
    refine DN.seq ?_
    refine WC.seq ?_
    refine WC.block ?_
    refine WC.seq ?_
    obtain ⟨x32, hx32, h⟩ := Option.bind_eq_some_iff.mp h
    obtain ⟨x34, hx34, h⟩ := Option.bind_eq_some_iff.mp h
    refine WC.meet (fun L w' => ∃ (κ' : Col) (b10 : Nat) (lar49_0 : Option Addr) (lur49_0 : Nat) (lar49_1 : Option Addr) (lur49_1 : Nat), L = [(2, .pointer (some ⟨b2, 0, none⟩)), (4, .pointer (some ⟨b4, 0, none⟩)), (6, .slice a18_0 x18.1.length u18_0), (7, .bool x18.2), (8, .pointer (some ⟨b8, 0, none⟩)), (9, .int .i64 v9), (10, .pointer (some ⟨b10, 0, none⟩)), (11, .bool x34.2)] ∧ Stp [8, 9, 10, 14, 15, 16] K40 w39 κ' w' ∧ Oc (Ep.own (Ep.int .i64) 2) 60 κ' w' 10 lar49_0 lur49_0 x34.1.Next ∧ Oc (Ep.own (Ep.int .i64) 2) 60 κ' w' 11 lar49_1 lur49_1 x34.1.Out ∧ Bc κ' w' 12 b10 42 [.slice lar49_0 x34.1.Next.length lur49_0, .slice lar49_1 x34.1.Out.length lur49_1]) ?_ ?_
    ·
     refine WC.rxt (κ := K40) [0, 7] none (by kernel_rfl) fun w53 S54 => ?_
     refine WA.seg (fuel := 7) [(1, 2), (2, 2), (3, 2), (0, 0), (4, 0)] (by kernel_rfl) (by kernel_rfl) rfl ?_
     refine WO.pn 2 rfl ?_
     refine WO.k2 rfl rfl rfl rfl (rn_index f22 hx32 Tryd.runUnderlying57 Tryd.sizeOf9 rfl rfl rfl rfl) ?_
     have f55 := f44.stp S54 rfl rfl
     refine WO.k0 rfl rfl rfl rfl (rn_la (cs := [.slice las1_0 s1.1.length lus1_0, .slice las1_1 s1.2.length lus1_1]) Tryd.isAgg42 Tryd.sizeOf42 rfl rfl rfl (haC f55.cells rfl)) ?_
     have f56 := f22.stp (S25.tr (S28.tr (S41.tr S54))) rfl rfl
     refine WO.k0 rfl rfl rfl rfl (rn_ld Tryd.isAgg9 rfl rfl (hvC (f56.gStr hx32) rfl)) ?_
     refine WO.wa ?_
     refine WA.fork2 (fuel := 6) 5 9 (by kernel_rfl) rfl ?_ ?_
     ·
      have f57 := f42.stp S54 rfl rfl
      have f58 := f43.stp S54 rfl rfl
      refine WO.call rfl rfl rfl rfl rfl rfl Tryd.call54 (s_l29State_ok (κ := fun b => mp [(8, 2), (9, 3)] 0 (K40 b)) (p0 := (⟨s1.1, s1.2⟩ : Machine)) (f57.map (mp [(8, 2), (9, 3)] 0) rfl rfl) (f58.map (mp [(8, 2), (9, 3)] 0) rfl rfl) hx34) ?_
      rintro _ w59 ⟨k60, a34_0, u34_0, a34_1, u34_1, rfl, e61, f62, f63⟩
      obtain ⟨K64, S65, m66⟩ := Ent.mixed (l := [(8, 2), (9, 3)]) (κ := K40) e61 10 rfl
      refine ⟨(S65.cl rfl), ?_⟩
      have f68 := f62.mx (no_own (no_int _) _) m66 rfl (rfl : 10 + 4 = 14)
      have f69 := f63.mx (no_own (no_int _) _) m66 rfl (rfl : 10 + 5 = 15)
      refine WO.wa ?_
      refine WA.seg (fuel := 0) [(6, 2), (7, 2), (8, 2), (9, 1), (10, 1), (11, 2)] (by kernel_rfl) (by kernel_rfl) rfl ?_
      refine WO.pn 3 rfl ?_
      refine WO.alloc (κ := K64) 16 rfl rfl rfl rfl rfl Tryd.zeroValue42 rfl fun b10 w70 K71 S72 f73 => ⟨((S65.tr S72).cl rfl), ?_⟩
      refine WO.stB0 (κ := K71) 16 (vc := [.slice a34_0 x34.1.Next.length u34_0, .slice a34_1 x34.1.Out.length u34_1]) rfl rfl rfl rfl rfl rfl rfl Tryd.sizeOf42 rfl rfl f73 rfl fun w74 S75 f76 => ⟨((S65.tr (S72.tr S75)).cl rfl), ?_⟩
      refine WO.pn 1 rfl ?_
      refine WO.wa ?_
      refine WA.last [] (by kernel_rfl) (by kernel_rfl) rfl ?_
      refine WO.fin ?_
      have f77 := f68.stp (S72.tr S75) rfl rfl
      have f78 := f69.stp (S72.tr S75) rfl rfl
      exact DN.meet _ ⟨(fun b => ren [(14, 10), (15, 11), (16, 12)] (K71 b)), b10, a34_0, u34_0, a34_1, u34_1, rfl, (Stp.ren ((S54.tr (S65.tr (S72.tr S75))).wk rfl) [(14, 10), (15, 11), (16, 12)] rfl), (f77.map (ren [(14, 10), (15, 11), (16, 12)]) rfl rfl), (f78.map (ren [(14, 10), (15, 11), (16, 12)]) rfl rfl), (f76.map (ren [(14, 10), (15, 11), (16, 12)]) rfl rfl)⟩ fun a ha => (ha.more (ha.more (ha.more (ha.more (ha.more (ha.more (ha.more (ha.more ha.nil rfl) rfl) rfl) rfl) rfl) rfl) rfl) rfl)
     ·
      refine WO.alloc (κ := K40) 10 rfl rfl rfl rfl rfl Tryd.zeroValue42 rfl fun b10 w79 K80 S81 f82 => ⟨(S81.cl rfl), ?_⟩
      refine WO.wa ?_
      refine WA.seg (fuel := 0) [(5, 1), (6, 2), (7, 2), (8, 2), (10, 1), (11, 2)] (by kernel_rfl) (by kernel_rfl) rfl ?_
      have f83 := f42.stp (S54.tr S81) rfl rfl
      have f84 := f43.stp (S54.tr S81) rfl rfl
      refine WO.call rfl rfl rfl rfl rfl rfl Tryd.call54 (s_l29State_ok (κ := fun b => mp [(8, 2), (9, 3)] 0 (K80 b)) (p0 := (⟨s1.1, s1.2⟩ : Machine)) (f83.map (mp [(8, 2), (9, 3)] 0) rfl rfl) (f84.map (mp [(8, 2), (9, 3)] 0) rfl rfl) hx34) ?_
      rintro _ w85 ⟨k86, a34_0, u34_0, a34_1, u34_1, rfl, e87, f88, f89⟩
      obtain ⟨K90, S91, m92⟩ := Ent.mixed (l := [(8, 2), (9, 3)]) (κ := K80) e87 11 rfl
      refine ⟨((S81.tr S91).cl rfl), ?_⟩
      have f94 := f88.mx (no_own (no_int _) _) m92 rfl (rfl : 11 + 4 = 15)
      have f95 := f89.mx (no_own (no_int _) _) m92 rfl (rfl : 11 + 5 = 16)
      refine WO.pn 3 rfl ?_
      have f96 := f82.stp S91 rfl rfl
      refine WO.stB0 (κ := K90) 10 (vc := [.slice a34_0 x34.1.Next.length u34_0, .slice a34_1 x34.1.Out.length u34_1]) rfl rfl rfl rfl rfl rfl rfl Tryd.sizeOf42 rfl rfl f96 rfl fun w97 S98 f99 => ⟨((S81.tr (S91.tr S98)).cl rfl), ?_⟩
      refine WO.pn 1 rfl ?_
      refine WO.wa ?_
      refine WA.last [] (by kernel_rfl) (by kernel_rfl) rfl ?_
      refine WO.fin ?_
      have f100 := f94.stp S98 rfl rfl
      have f101 := f95.stp S98 rfl rfl
      exact DN.meet _ ⟨(fun b => ren [(15, 10), (16, 11), (10, 12)] (K90 b)), b10, a34_0, u34_0, a34_1, u34_1, rfl, (Stp.ren ((S54.tr (S81.tr (S91.tr S98))).wk rfl) [(15, 10), (16, 11), (10, 12)] rfl), (f100.map (ren [(15, 10), (16, 11), (10, 12)]) rfl rfl), (f101.map (ren [(15, 10), (16, 11), (10, 12)]) rfl rfl), (f99.map (ren [(15, 10), (16, 11), (10, 12)]) rfl rfl)⟩ fun a ha => (ha.more (ha.more (ha.more (ha.more (ha.more (ha.more (ha.more (ha.more ha.nil rfl) rfl) rfl) rfl) rfl) rfl) rfl) rfl)
    rintro _ w46 ⟨K47, b10, lar49_0, lur49_0, lar49_1, lur49_1, rfl, S48, f50, f51, f52⟩
    refine DN.seq ?_
    refine WC.seq ?_
    refine WC.seq ?_
    refine WC.rs [(0, 2), (1, 2)] rfl ?_
    refine WO.pn 2 rfl ?_
    refine WO.fin ?_
    refine DN.seq ?_
    revert h
    cases ht102 : (!x34.2) with
    | true =>
     intro h; replace h := cT h
     refine WC.ct rfl ?_
     refine WC.seq ?_
     refine WC.rs [(0, 2), (1, 1), (2, 2)] rfl ?_
     refine WO.k2 rfl rfl rfl rfl (rn_build (parts := []) (cells := [.slice none 0 0, .slice none 0 0]) rfl rfl (by kernel_rfl)) ?_
     have f103 := f8.stp (S19.tr (S25.tr (S28.tr (S41.tr S48)))) rfl rfl
     refine WO.stB0 (κ := K47) 3 (vc := [.slice none 0 0, .slice none 0 0]) rfl rfl rfl rfl rfl rfl rfl Tryd.sizeOf42 rfl rfl f103 rfl fun w104 S105 f106 => ⟨trivial, ?_⟩
     refine WO.pn 1 rfl ?_
     refine WO.fin ?_
     refine DN.seq ?_
     refine WC.ret ?_
     refine DN.retThen ?_
     refine DN.retBlock ?_
     refine DN.retThen ?_
     refine DN.retThen ?_
     obtain rfl := Option.some.inj h
     obtain rfl := Option.some.inj hk45
     have h := hK31
     dsimp only [aft] at h
     refine DN.retBlock ?_
     refine DN.retMeet ?_
     refine DN.retThen ?_
     have f107 := hE.stp (S3.tr (S7.tr (S19.tr (S25.tr (S28.tr (S41.tr (S48.tr S105))))))) rfl rfl
     refine DN.res (l := [.cell 4 42, .tmp 5]) Tryd.results23 (res_cellA rfl f106 Tryd.isAgg42 Tryd.sizeOf42 rfl (res_tmp rfl rfl)) rfl ?_
     obtain rfl := Option.some.inj h
     exact ⟨K47, none, 0, none, 0, rfl, f107, Ow.nil, Ow.nil⟩
    | false =>
     intro h; replace h := cF h
     refine WC.cf rfl ?_
     refine WC.skip ?_
     refine DN.seq ?_
     refine WC.rs [(0, 1), (1, 1)] rfl ?_
     refine WO.k1 trivial rfl rfl rfl rfl (rn_la (cs := [.slice lar49_0 x34.1.Next.length lur49_0, .slice lar49_1 x34.1.Out.length lur49_1]) Tryd.isAgg42 Tryd.sizeOf42 rfl rfl rfl (haE f52.cells)) ?_
     have f108 := f44.stp S48 rfl rfl
     refine WO.stB0 (κ := K47) 7 (vc := [.slice lar49_0 x34.1.Next.length lur49_0, .slice lar49_1 x34.1.Out.length lur49_1]) rfl rfl rfl rfl rfl rfl rfl Tryd.sizeOf42 rfl rfl f108 rfl fun w109 S110 f111 => ⟨trivial, ?_⟩
     refine WO.fin ?_
     refine DN.block ?_
     refine DN.seq ?_
     refine WC.rs [(0, 2), (1, 2), (2, 2)] rfl ?_
     refine WO.pn 3 rfl ?_
     refine WO.fin ?_
     have hw30 : IntKind.wrap .i64 (v9 + 1) = v9 + 1 := wr1 hj30 (of_decide_eq_true hc30) hN30
     rw [hw30]
     have hc30 := of_decide_eq_true hc30
     have f112 := f50.stp S110 rfl rfl
     have f113 := f51.stp S110 rfl rfl
     obtain rfl := Option.some.inj h
     refine DN.round fun a ha => ?_
     exact ⟨k, _, Nat.lt_succ_self _, ⟨(fun b => ren [(10, 8), (11, 9)] (K47 b)), v9 + 1, ((x34.1.Next : (List (List Int))), (x34.1.Out : (List (List Int)))), lar49_0, lur49_0, lar49_1, lur49_1, rfl, (Stp.ren ((S41.tr (S48.tr S110)).wk rfl) [(10, 8), (11, 9)] rfl), (f112.map (ren [(10, 8), (11, 9)]) rfl rfl), (f113.map (ren [(10, 8), (11, 9)]) rfl rfl), (f111.map (ren [(10, 8), (11, 9)]) rfl rfl), by omega, by omega, hk45⟩, (ha.more (ha.more (ha.more (ha.more (ha.more (ha.more ha.nil rfl) rfl) rfl) rfl) rfl) rfl)⟩
  rintro _ w33 ⟨K34, s3, las3_0, lus3_0, las3_1, lus3_1, rfl, S35, f36, f37, f38, rfl⟩
  have h := hK31
  dsimp only [aft] at h
  refine DN.seq ?_
  refine WC.seq ?_
  refine WC.seq ?_
  refine WC.rs [(0, 2), (1, 2), (2, 1), (3, 1), (4, 1), (5, 2), (6, 2)] rfl ?_
  refine WO.pn 2 rfl ?_
  obtain ⟨p47, h, hK114⟩ := Option.bind_eq_some_iff.mp h
  refine WO.meet [(2, 1), (3, 1), (4, 1), (5, 2), (6, 2)] [] (fun L w' => L = [(4, .pointer (some ⟨b4, 0, none⟩)), (8, .pointer (some ⟨b8, 0, none⟩)), (47, .bool p47)] ∧ ∃ κ', Stp [] K34 w33 κ' w') trivial ?_ ?_
  ·
   revert h
   cases ht115 : x18.2 with
   | true =>
    intro h; replace h := cT h
    refine WO.ls rfl rfl rfl rfl ?_
    refine WO.ls rfl rfl rfl rfl ?_
    refine WO.ls rfl rfl rfl rfl ?_
    refine WO.pn 2 rfl ?_
    obtain rfl := Option.some.inj h
    exact WO.met _ trivial ⟨rfl, _, (Stp.refl _ _).wk rfl⟩ fun a ha => (ha.more (ha.more (ha.more ha.nil rfl) rfl) rfl)
   | false =>
    intro h; replace h := cF h
    have f116 := f4.stp (S7.tr (S19.tr (S25.tr (S28.tr S35)))) rfl rfl
    refine WO.k1 trivial rfl rfl rfl rfl (rn_la (cs := [.int .i64 p0.In, .int .i64 p0.Out]) Tryd.isAgg40 Tryd.sizeOf40 rfl rfl rfl (haE f116.cells)) ?_
    refine WO.k1 trivial rfl rfl rfl rfl (rn_la (cs := [.slice las3_0 s3.1.length lus3_0, .slice las3_1 s3.2.length lus3_1]) Tryd.isAgg42 Tryd.sizeOf42 rfl rfl rfl (haE f38.cells)) ?_
    obtain ⟨x45, hx45, h⟩ := Option.bind_eq_some_iff.mp h
    refine WO.call rfl rfl rfl rfl rfl rfl Tryd.call44 (s_MachineOk_ok (κ := fun b => mp [] 0 (K34 b)) (p0 := p0) (p1 := (⟨s3.1, s3.2⟩ : Machine)) (Sl.map f36.rdc (mp [] 0) rfl rfl) (Sl.map f37.rdc (mp [] 0) rfl rfl) hx45) ?_
    rintro _ w117 ⟨k118, rfl, e119⟩
    obtain ⟨K120, S121, m122⟩ := Ent.mixed (l := []) (κ := K34) e119 10 rfl
    refine ⟨trivial, ?_⟩
    refine WO.pn 2 rfl ?_
    obtain rfl := Option.some.inj h
    exact WO.met _ trivial ⟨rfl, _, S121.wk rfl⟩ fun a ha => (ha.more (ha.more (ha.more ha.nil rfl) rfl) rfl)
  rintro _ w124 _ ⟨rfl, K125, S126⟩
  have h := hK114
  refine WO.fin ?_
  refine DN.seq ?_
  revert h
  cases ht127 : p47 with
  | true =>
   intro h; replace h := cT h
   refine WC.ct rfl ?_
   refine WC.seq ?_
   refine WC.rs [(0, 2), (1, 1), (2, 2)] rfl ?_
   refine WO.k2 rfl rfl rfl rfl (rn_build (parts := []) (cells := [.slice none 0 0, .slice none 0 0]) rfl rfl (by kernel_rfl)) ?_
   have f128 := f8.stp (S19.tr (S25.tr (S28.tr (S35.tr S126)))) rfl rfl
   refine WO.stB0 (κ := K125) 3 (vc := [.slice none 0 0, .slice none 0 0]) rfl rfl rfl rfl rfl rfl rfl Tryd.sizeOf42 rfl rfl f128 rfl fun w129 S130 f131 => ⟨trivial, ?_⟩
   refine WO.pn 1 rfl ?_
   refine WO.fin ?_
   refine DN.seq ?_
   refine WC.ret ?_
   refine DN.retThen ?_
   have f132 := hE.stp (S3.tr (S7.tr (S19.tr (S25.tr (S28.tr (S35.tr (S126.tr S130))))))) rfl rfl
   refine DN.res (l := [.cell 4 42, .tmp 5]) Tryd.results23 (res_cellA rfl f131 Tryd.isAgg42 Tryd.sizeOf42 rfl (res_tmp rfl rfl)) rfl ?_
   obtain rfl := Option.some.inj h
   exact ⟨K125, none, 0, none, 0, rfl, f132, Ow.nil, Ow.nil⟩
  | false =>
   intro h; replace h := cF h
   refine WC.cf rfl ?_
   refine WC.skip ?_
   refine DN.seq ?_
   refine WC.seq ?_
   refine WC.rs [(0, 1), (1, 1), (2, 2)] rfl ?_
   have f133 := f38.stp S126 rfl rfl
   refine WO.k1 trivial rfl rfl rfl rfl (rn_la (cs := [.slice las3_0 s3.1.length lus3_0, .slice las3_1 s3.2.length lus3_1]) Tryd.isAgg42 Tryd.sizeOf42 rfl rfl rfl (haE f133.cells)) ?_
   have f134 := f8.stp (S19.tr (S25.tr (S28.tr (S35.tr S126)))) rfl rfl
   refine WO.stB0 (κ := K125) 3 (vc := [.slice las3_0 s3.1.length lus3_0, .slice las3_1 s3.2.length lus3_1]) rfl rfl rfl rfl rfl rfl rfl Tryd.sizeOf42 rfl rfl f134 rfl fun w135 S136 f137 => ⟨trivial, ?_⟩
   refine WO.pn 1 rfl ?_
   refine WO.fin ?_
   refine DN.seq ?_
   refine WC.ret ?_
   have f138 := hE.stp (S3.tr (S7.tr (S19.tr (S25.tr (S28.tr (S35.tr (S126.tr S136))))))) rfl rfl
   have f139 := f36.stp (S126.tr S136) rfl rfl
   have f140 := f37.stp (S126.tr S136) rfl rfl
   refine DN.res (l := [.cell 4 42, .tmp 5]) Tryd.results23 (res_cellA rfl f137 Tryd.isAgg42 Tryd.sizeOf42 rfl (res_tmp rfl rfl)) rfl ?_
   obtain rfl := Option.some.inj h
   exact ⟨(fun b => ren [(8, 2), (9, 3)] (K125 b)), las3_0, lus3_0, las3_1, lus3_1, rfl, (f138.map (ren [(8, 2), (9, 3)]) rfl rfl), (f139.map (ren [(8, 2), (9, 3)]) rfl rfl), (f140.map (ren [(8, 2), (9, 3)]) rfl rfl)⟩

end Go.Proofs.YtnpmbkaoeihdmaaDoor
