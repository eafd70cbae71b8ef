/- The walks, part 3. By program. -/
import Derived.Test.YtgniipbjjkodaaaFnsC132
set_option linter.unusedVariables false
set_option linter.unusedSimpArgs false
namespace Go.Proofs.Ytgniipbjjkodaaa
open Go Go.Wk Go.Proofs
set_option maxRecDepth 100000
set_option maxHeartbeats 1000000

/- loop.example/g00869/impl.isMachine -/
theorem i_isMachine_ok {w : World} {κ : Col} {p0 : Sig} {a1_0 : Option Addr} {u1_0 : Nat} {a1_1 : Option Addr} {u1_1 : Nat} {p1 : Machine} (g1_0 : Rd (Rp.sl (Rp.int .i64)) κ w 0 a1_0 u1_0 p1.Next) (g1_1 : Rd (Rp.sl (Rp.int .i64)) κ w 0 a1_1 u1_1 p1.Out) {r : Bool} (h : i_isMachine p0 p1 = some r) : Ret Try.prog 104 [.agg #[.int .i64 p0.In, .int .i64 p0.Out], .agg #[.slice a1_0 p1.Next.length u1_0, .slice a1_1 p1.Out.length u1_1]] w (fun v w' => ∃ (κ' : Col), v = .bool r ∧ Ent κ w κ' w') := by
 unfold i_isMachine at h
 refine Ret.enter Try.func104 rfl Try.ntmps104 rfl ?_
 dsimp only [envOf]
 have hE := Ent.refl κ w
 refine WC.seq ?_
 refine WC.rs [(0, 1), (1, 1), (2, 2)] rfl ?_
 refine WO.box (κ := κ) 2 rfl rfl rfl rfl rfl rfl rfl fun b2 w1 K2 S3 f4 => ⟨trivial, ?_⟩
 refine WO.box (κ := K2) 3 rfl rfl rfl rfl rfl rfl rfl fun b3 w5 K6 S7 f8 => ⟨trivial, ?_⟩
 refine WO.pn 1 rfl ?_
 refine WO.fin ?_
 refine DN.seq ?_
 refine WC.seq ?_
 refine WC.rs [(0, 2), (1, 1), (2, 2), (3, 2)] rfl ?_
 refine WO.k2 rfl rfl rfl rfl (rn_fieldAddr Try.runUnderlying84 rfl Try.sizeOf25 rfl rfl) ?_
 refine WO.k1 trivial rfl rfl rfl rfl (rn_ld Try.isAgg25 rfl rfl (hvE (f8.ld 0 rfl rfl))) ?_
 refine WO.k2 rfl rfl rfl rfl (rn_len Try.runUnderlying25 rfl rfl) ?_
 refine WO.pn 1 rfl ?_
 refine WO.fin ?_
 refine DN.seq ?_
 refine WC.seq ?_
 refine WC.seq ?_
 refine WC.rs [(0, 2), (1, 2), (2, 2), (3, 2), (4, 2), (5, 2), (6, 2), (7, 2), (8, 1), (9, 2), (10, 2), (11, 1), (12, 2), (13, 2), (14, 2)] rfl ?_
 refine WO.pn 3 rfl ?_
 obtain ⟨p16, h, hK9⟩ := Option.bind_eq_some_iff.mp h
 refine WO.meet [(3, 2), (4, 2), (5, 2)] [(6, 2), (7, 2), (8, 1), (9, 2), (10, 2), (11, 1), (12, 2), (13, 2), (14, 2)] (fun L w' => L = [(2, .pointer (some ⟨b2, 0, none⟩)), (3, .pointer (some ⟨b3, 0, none⟩)), (5, .int .i64 (p1.Next.length : Int)), (16, .bool p16)] ∧ ∃ κ', Stp [] K6 w5 κ' w') trivial ?_ ?_
 ·
  revert h
  cases ht10 : decide ((p1.Next.length : Int) < 1) with
  | true =>
   intro h; replace h := cT h
   refine WO.pn 3 rfl ?_
   obtain rfl := Option.some.inj h
   exact WO.met _ trivial ⟨rfl, _, (Stp.refl _ _).wk rfl⟩ fun a ha => (ha.more (ha.more (ha.more (ha.more ha.nil rfl) rfl) rfl) rfl)
  | false =>
   intro h; replace h := cF h
   refine WO.pn 3 rfl ?_
   obtain rfl := Option.some.inj h
   exact WO.met _ trivial ⟨rfl, _, (Stp.refl _ _).wk rfl⟩ fun a ha => (ha.more (ha.more (ha.more (ha.more ha.nil rfl) rfl) rfl) rfl)
 rintro _ w11 _ ⟨rfl, K12, S13⟩
 have h := hK9
 refine WO.pn 1 rfl ?_
 obtain ⟨p25, h, hK14⟩ := Option.bind_eq_some_iff.mp h
 refine WO.meet [(7, 2), (8, 1), (9, 2), (10, 2), (11, 1), (12, 2), (13, 2), (14, 2)] [] (fun L w' => L = [(2, .pointer (some ⟨b2, 0, none⟩)), (3, .pointer (some ⟨b3, 0, none⟩)), (5, .int .i64 (p1.Next.length : Int)), (25, .bool p25)] ∧ ∃ κ', Stp [] K12 w11 κ' w') trivial ?_ ?_
 ·
  revert h
  cases ht15 : p16 with
  | true =>
   intro h; replace h := cT h
   refine WO.pn 1 rfl ?_
   refine WO.ls rfl rfl rfl rfl ?_
   refine WO.pn 2 rfl ?_
   refine WO.ls rfl rfl rfl rfl ?_
   refine WO.pn 3 rfl ?_
   obtain rfl := Option.some.inj h
   exact WO.met _ trivial ⟨rfl, _, (Stp.refl _ _).wk rfl⟩ fun a ha => (ha.more (ha.more (ha.more (ha.more ha.nil rfl) rfl) rfl) rfl)
  | false =>
   intro h; replace h := cF h
   refine WO.k2 rfl rfl rfl rfl (rn_fieldAddr Try.runUnderlying84 rfl Try.sizeOf25 rfl rfl) ?_
   have f16 := f8.stp S13 rfl rfl
   refine WO.k1 trivial rfl rfl rfl rfl (rn_ld Try.isAgg25 rfl rfl (hvE (f16.ld 1 rfl rfl))) ?_
   refine WO.k2 rfl rfl rfl rfl (rn_len Try.runUnderlying25 rfl rfl) ?_
   refine WO.k2 rfl rfl rfl rfl (rn_fieldAddr Try.runUnderlying84 rfl Try.sizeOf25 rfl rfl) ?_
   refine WO.k1 trivial rfl rfl rfl rfl (rn_ld Try.isAgg25 rfl rfl (hvE (f16.ld 0 rfl rfl))) ?_
   refine WO.k2 rfl rfl rfl rfl (rn_len Try.runUnderlying25 rfl rfl) ?_
   refine WO.pn 2 rfl ?_
   obtain rfl := Option.some.inj h
   exact WO.met _ trivial ⟨rfl, _, (Stp.refl _ _).wk rfl⟩ fun a ha => (ha.more (ha.more (ha.more (ha.more ha.nil rfl) rfl) rfl) rfl)
 rintro _ w17 _ ⟨rfl, K18, S19⟩
 have h := hK14
 refine WO.fin ?_
 refine DN.seq ?_
 revert h
 cases ht20 : p25 with
 | true =>
  intro h; replace h := cT h
  refine WC.ct rfl ?_
  refine WC.seq ?_
  refine WC.rs [(0, 2)] rfl ?_
  refine WO.pn 1 rfl ?_
  refine WO.fin ?_
  refine DN.seq ?_
  refine WC.ret ?_
  refine DN.retThen ?_
  have f21 := hE.stp (S3.tr (S7.tr (S13.tr S19))) rfl rfl
  refine DN.res (l := [.tmp 4]) Try.results104 (res_tmp rfl rfl) rfl ?_
  obtain rfl := Option.some.inj h
  exact ⟨K18, rfl, f21⟩
 | false =>
  intro h; replace h := cF h
  refine WC.cf rfl ?_
  refine WC.skip ?_
  refine DN.seq ?_
  refine WC.seq ?_
  refine WC.seq ?_
  refine WC.rs [(0, 2), (1, 1), (2, 2), (3, 2)] rfl ?_
  refine WO.k2 rfl rfl rfl rfl (rn_fieldAddr Try.runUnderlying84 rfl Try.sizeOf25 rfl rfl) ?_
  have f22 := f8.stp (S13.tr S19) rfl rfl
  refine WO.k1 trivial rfl rfl rfl rfl (rn_ld Try.isAgg25 rfl rfl (hvE (f22.ld 0 rfl rfl))) ?_
  refine WO.k2 rfl rfl rfl rfl (rn_len Try.runUnderlying25 rfl rfl) ?_
  refine WO.pn 1 rfl ?_
  refine WO.fin ?_
  refine DN.seq ?_
  have hN23 : (p1.Next.length : Int) ≤ 9223372036854775807 := g1_0.len_le
  obtain ⟨q2, hq25, hK24⟩ := Option.bind_eq_some_iff.mp h
  clear h
  refine WC.meet (fun L w' => ∃ (κ' : Col), L = [] ∧ Stp [] K18 w17 κ' w' ∧ q2 = Sum.inr ()) ?_ ?_
  ·
   refine WC.block ?_
   refine WC.loop (fun k L w' => ∃ (κ' : Col) (v29 : Int), L = [(2, .pointer (some ⟨b2, 0, none⟩)), (3, .pointer (some ⟨b3, 0, none⟩)), (5, .int .i64 (p1.Next.length : Int)), (27, .slice a1_0 p1.Next.length u1_0), (28, .int .i64 (p1.Next.length : Int)), (29, .int .i64 v29)] ∧ Stp [] K18 w17 κ' w' ∧ 0 ≤ v29 ∧ Int.toNat ((p1.Next.length : Int) - v29) = k ∧ cntM (i_isMachine_b0 p0 p1) k v29 () = some q2) ⟨_, _, ⟨K18, 0, rfl, (Stp.refl _ _).wk rfl, (by decide), (by simp), hq25⟩, fun a ha => (ha.more (ha.more (ha.more (ha.more (ha.more (ha.more ha.nil rfl) rfl) rfl) rfl) rfl) rfl)⟩ ?_
   rintro k _ w29 ⟨K30, v29, rfl, S31, hj23, hJ23, h⟩
   rcases k with _ | k
   ·
    have hk32 := h; obtain ⟨o23, h⟩ := ex_eq (Sum.inr (Sum.inl ()) : Bool ⊕ ((Unit) ⊕ (Unit)))
    have hc23 : decide (v29 < (p1.Next.length : Int)) = false := decide_eq_false (by omega)
    refine WC.seq ?_
    refine WC.rs [(0, 2)] rfl ?_
    refine WO.pn 1 rfl ?_
    refine WO.fin ?_
    refine DN.seq ?_
    refine WC.seq ?_
    refine WC.cf' rfl hc23 ?_
    refine WC.exit ?_
    refine DN.exitThen ?_
    refine DN.exitThen ?_
    obtain rfl := Option.some.inj h
    have h := hk32
    refine DN.hit ?_
    obtain rfl := Option.some.inj h
    exact DN.meet _ ⟨K30, rfl, S31.wk rfl, rfl⟩ fun a ha => ha.nil
   ·
    obtain ⟨o23, h, hk32⟩ := Option.bind_eq_some_iff.mp h; unfold i_isMachine_b0 at h
    have hc23 : decide (v29 < (p1.Next.length : Int)) = true := decide_eq_true (by omega)
    refine WC.seq ?_
    refine WC.rs [(0, 2)] rfl ?_
    refine WO.pn 1 rfl ?_
    refine WO.fin ?_
    refine DN.seq ?_
    refine WC.seq ?_
    refine WC.ct' rfl hc23 ?_
    refine WC.skip ?_
    refine DN.seq ?_
    refine WC.seq ?_
    refine WC.block ?_
    refine WC.seq ?_
    refine WC.rs [(0, 2), (1, 2), (2, 1), (3, 2), (4, 2)] rfl ?_
    refine WO.pn 1 rfl ?_
    obtain ⟨x32, hx32, h⟩ := Option.bind_eq_some_iff.mp h
    refine WO.k2 rfl rfl rfl rfl (rn_index g1_0 hx32 Try.runUnderlying25 Try.sizeOf24 rfl rfl rfl rfl) ?_
    have f33 := g1_0.stp (S3.tr (S7.tr (S13.tr (S19.tr S31)))) rfl rfl
    obtain ⟨ax32, ux32, f34, hl35⟩ := f33.gSl hx32
    refine WO.k1 trivial rfl rfl rfl rfl (rn_ld Try.isAgg24 rfl rfl (hvE hl35)) ?_
    refine WO.pn 2 rfl ?_
    refine WO.fin ?_
    refine DN.seq ?_
    refine WC.seq ?_
    refine WC.rx (κ := K30) 3 none [(0, 2), (1, 2), (2, 0), (3, 1), (4, 2), (5, 2), (6, 2), (8, 2), (12, 2), (13, 2), (7, 0), (9, 2), (10, 0), (11, 2), (14, 2), (15, 2), (16, 2), (17, 2), (18, 2), (19, 1), (20, 2), (21, 2), (22, 2), (23, 2), (25, 2), (28, 2), (24, 0), (26, 2), (27, 0), (29, 0), (30, 2), (31, 1), (32, 2), (33, 2)] [] (by kernel_rfl) (by kernel_rfl) fun w37 S36 => ?_
    refine WO.pn 1 rfl ?_
    refine WO.k2 rfl rfl rfl rfl (rn_len Try.runUnderlying24 rfl rfl) ?_
    have f38 := f4.stp (S7.tr (S13.tr (S19.tr (S31.tr S36)))) rfl rfl
    refine WO.k0 rfl rfl rfl rfl (rn_la (cs := [.int .i64 p0.In, .int .i64 p0.Out]) Try.isAgg30 Try.sizeOf30 rfl rfl rfl (haC f38.cells rfl)) ?_
    obtain ⟨x37, hx37, h⟩ := Option.bind_eq_some_iff.mp h
    refine WO.call rfl rfl rfl rfl rfl rfl Try.call106 (i_inputsOf_ok (κ := fun b => mp [] 0 (K30 b)) (p0 := p0) hx37) ?_
    rintro _ w39 ⟨k40, rfl, e41⟩
    obtain ⟨K42, S43, m44⟩ := Ent.mixed (l := []) (κ := K30) e41 4 rfl
    refine ⟨(S43.cl rfl), ?_⟩
    refine WO.pn 2 rfl ?_
    obtain ⟨p49, h, hK46⟩ := Option.bind_eq_some_iff.mp h
    refine WO.meet [(6, 2), (8, 2), (12, 2), (13, 2), (7, 0), (9, 2), (10, 0), (11, 2), (14, 2), (15, 2)] [(16, 2), (17, 2), (18, 2), (19, 1), (20, 2), (21, 2), (22, 2), (23, 2), (25, 2), (28, 2), (24, 0), (26, 2), (27, 0), (29, 0), (30, 2), (31, 1), (32, 2), (33, 2)] (fun L w' => L = [(2, .pointer (some ⟨b2, 0, none⟩)), (3, .pointer (some ⟨b3, 0, none⟩)), (5, .int .i64 (p1.Next.length : Int)), (6, .int .i64 v29), (7, .slice ax32 x32.length ux32), (27, .slice a1_0 p1.Next.length u1_0), (28, .int .i64 (p1.Next.length : Int)), (29, .int .i64 v29), (49, .bool p49)] ∧ ∃ κ', Stp [] K42 w39 κ' w') (S43.cl rfl) ?_ ?_
    ·
     revert h
     cases ht47 : ((x32.length : Int) != x37) with
     | true =>
      intro h; replace h := cT h
      refine WO.pn 4 rfl ?_
      refine WO.qs rfl rfl rfl rfl ?_
      refine WO.pn 1 rfl ?_
      refine WO.qs rfl rfl rfl rfl ?_
      refine WO.pn 3 rfl ?_
      obtain rfl := Option.some.inj h
      exact WO.met _ (S43.cl rfl) ⟨rfl, _, (Stp.refl _ _).wk rfl⟩ fun a ha => (ha.more (ha.more (ha.more (ha.more (ha.more (ha.more (ha.more (ha.more (ha.more ha.nil rfl) rfl) rfl) rfl) rfl) rfl) rfl) rfl) rfl)
     | false =>
      intro h; replace h := cF h
      refine WO.k2 rfl rfl rfl rfl (rn_fieldAddr Try.runUnderlying84 rfl Try.sizeOf25 rfl rfl) ?_
      refine WO.pn 2 rfl ?_
      refine WO.k2 rfl rfl rfl rfl (rn_len Try.runUnderlying24 rfl rfl) ?_
      have f48 := f22.stp (S31.tr S36) rfl rfl
      refine WO.k0 rfl rfl rfl rfl (rn_ld Try.isAgg25 rfl rfl (hvC (f48.ld 1 rfl rfl) rfl)) ?_
      obtain ⟨x43, hx43, h⟩ := Option.bind_eq_some_iff.mp h
      refine WO.k2 rfl rfl rfl rfl (rn_index g1_1 hx43 Try.runUnderlying25 Try.sizeOf24 rfl rfl rfl rfl) ?_
      have f49 := g1_1.stp (S3.tr (S7.tr (S13.tr (S19.tr (S31.tr S36))))) rfl rfl
      obtain ⟨ax43, ux43, f50, hl51⟩ := f49.gSl hx43
      refine WO.k0 rfl rfl rfl rfl (rn_ld Try.isAgg24 rfl rfl (hvC hl51 rfl)) ?_
      refine WO.k2 rfl rfl rfl rfl (rn_len Try.runUnderlying24 rfl rfl) ?_
      refine WO.pn 2 rfl ?_
      obtain rfl := Option.some.inj h
      exact WO.met _ (S43.cl rfl) ⟨rfl, _, (Stp.refl _ _).wk rfl⟩ fun a ha => (ha.more (ha.more (ha.more (ha.more (ha.more (ha.more (ha.more (ha.more (ha.more ha.nil rfl) rfl) rfl) rfl) rfl) rfl) rfl) rfl) rfl)
    rintro _ w52 _ ⟨rfl, K53, S54⟩
    have h := hK46
    refine WO.pn 1 rfl ?_
    obtain ⟨p55, h, hK55⟩ := Option.bind_eq_some_iff.mp h
    refine WO.meet [(17, 2), (18, 2), (19, 1), (20, 2), (21, 2)] [(22, 2), (23, 2), (25, 2), (28, 2), (24, 0), (26, 2), (27, 0), (29, 0), (30, 2), (31, 1), (32, 2), (33, 2)] (fun L w' => L = [(2, .pointer (some ⟨b2, 0, none⟩)), (3, .pointer (some ⟨b3, 0, none⟩)), (5, .int .i64 (p1.Next.length : Int)), (6, .int .i64 v29), (27, .slice a1_0 p1.Next.length u1_0), (28, .int .i64 (p1.Next.length : Int)), (29, .int .i64 v29), (55, .bool p55)] ∧ ∃ κ', Stp [] K53 w52 κ' w') ((S43.tr S54).cl rfl) ?_ ?_
    ·
     revert h
     cases ht56 : p49 with
     | true =>
      intro h; replace h := cT h
      refine WO.pn 2 rfl ?_
      refine WO.ls rfl rfl rfl rfl ?_
      refine WO.pn 2 rfl ?_
      obtain rfl := Option.some.inj h
      exact WO.met _ ((S43.tr S54).cl rfl) ⟨rfl, _, (Stp.refl _ _).wk rfl⟩ fun a ha => (ha.more (ha.more (ha.more (ha.more (ha.more (ha.more (ha.more (ha.more ha.nil rfl) rfl) rfl) rfl) rfl) rfl) rfl) rfl)
     | false =>
      intro h; replace h := cF h
      refine WO.pn 2 rfl ?_
      obtain ⟨x53, hx53, h⟩ := Option.bind_eq_some_iff.mp h
      have f57 := f34.stp (S36.tr (S43.tr S54)) rfl rfl
      refine WO.call rfl rfl rfl rfl rfl rfl Try.call80 (i_areLetters_ok (κ := fun b => mp [] 0 (K53 b)) (Sl.map f57 (mp [] 0) rfl rfl) hx53) ?_
      rintro _ w58 ⟨k59, rfl, e60⟩
      obtain ⟨K61, S62, m63⟩ := Ent.mixed (l := []) (κ := K53) e60 6 rfl
      refine ⟨((S43.tr (S54.tr S62)).cl rfl), ?_⟩
      refine WO.pn 2 rfl ?_
      obtain rfl := Option.some.inj h
      exact WO.met _ ((S43.tr (S54.tr S62)).cl rfl) ⟨rfl, _, S62.wk rfl⟩ fun a ha => (ha.more (ha.more (ha.more (ha.more (ha.more (ha.more (ha.more (ha.more ha.nil rfl) rfl) rfl) rfl) rfl) rfl) rfl) rfl)
    rintro _ w65 _ ⟨rfl, K66, S67⟩
    have h := hK55
    refine WO.pn 1 rfl ?_
    obtain ⟨p67, h, hK68⟩ := Option.bind_eq_some_iff.mp h
    refine WO.meet [(23, 2), (25, 2), (28, 2), (24, 0), (26, 2), (27, 0), (29, 0), (30, 2), (31, 1), (32, 2), (33, 2)] [] (fun L w' => L = [(2, .pointer (some ⟨b2, 0, none⟩)), (3, .pointer (some ⟨b3, 0, none⟩)), (5, .int .i64 (p1.Next.length : Int)), (27, .slice a1_0 p1.Next.length u1_0), (28, .int .i64 (p1.Next.length : Int)), (29, .int .i64 v29), (67, .bool p67)] ∧ ∃ κ', Stp [] K66 w65 κ' w') ((S43.tr (S54.tr S67)).cl rfl) ?_ ?_
    ·
     revert h
     cases ht69 : p55 with
     | true =>
      intro h; replace h := cT h
      refine WO.pn 3 rfl ?_
      refine WO.qs rfl rfl rfl rfl ?_
      refine WO.pn 1 rfl ?_
      refine WO.qs rfl rfl rfl rfl ?_
      refine WO.qs rfl rfl rfl rfl ?_
      refine WO.pn 1 rfl ?_
      refine WO.ls rfl rfl rfl rfl ?_
      refine WO.pn 2 rfl ?_
      obtain rfl := Option.some.inj h
      exact WO.met _ ((S43.tr (S54.tr S67)).cl rfl) ⟨rfl, _, (Stp.refl _ _).wk rfl⟩ fun a ha => (ha.more (ha.more (ha.more (ha.more (ha.more (ha.more (ha.more ha.nil rfl) rfl) rfl) rfl) rfl) rfl) rfl)
     | false =>
      intro h; replace h := cF h
      refine WO.k2 rfl rfl rfl rfl (rn_fieldAddr Try.runUnderlying84 rfl Try.sizeOf25 rfl rfl) ?_
      refine WO.pn 1 rfl ?_
      refine WO.k2 rfl rfl rfl rfl (rn_fieldAddr Try.runUnderlying30 rfl Try.sizeOf2 rfl rfl) ?_
      have f70 := f22.stp (S31.tr S36) rfl rfl
      refine WO.k0 rfl rfl rfl rfl (rn_ld Try.isAgg25 rfl rfl (hvC (f70.ld 1 rfl rfl) rfl)) ?_
      obtain ⟨x60, hx60, h⟩ := Option.bind_eq_some_iff.mp h
      refine WO.k2 rfl rfl rfl rfl (rn_index g1_1 hx60 Try.runUnderlying25 Try.sizeOf24 rfl rfl rfl rfl) ?_
      have f71 := g1_1.stp (S3.tr (S7.tr (S13.tr (S19.tr (S31.tr S36))))) rfl rfl
      obtain ⟨ax60, ux60, f72, hl73⟩ := f71.gSl hx60
      refine WO.k0 rfl rfl rfl rfl (rn_ld Try.isAgg24 rfl rfl (hvC hl73 rfl)) ?_
      refine WO.k0 rfl rfl rfl rfl (rn_ld Try.isAgg2 rfl rfl (hvC (f38.ld 1 rfl rfl) rfl)) ?_
      obtain ⟨_z64, hz64, h⟩ := Option.bind_eq_some_iff.mp h
      refine WO.k2 rfl rfl rfl rfl (rn_shl rfl rfl rfl (nn_ok hz64)) ?_
      obtain ⟨x65, hx65, h⟩ := Option.bind_eq_some_iff.mp h
      have f74 := f72.stp (S43.tr (S54.tr S67)) rfl rfl
      refine WO.call rfl rfl rfl rfl rfl rfl Try.call80 (i_areLetters_ok (κ := fun b => mp [] 0 (K66 b)) (Sl.map f74 (mp [] 0) rfl rfl) hx65) ?_
      rintro _ w75 ⟨k76, rfl, e77⟩
      obtain ⟨K78, S79, m80⟩ := Ent.mixed (l := []) (κ := K66) e77 6 rfl
      refine ⟨((S43.tr (S54.tr (S67.tr S79))).cl rfl), ?_⟩
      refine WO.pn 2 rfl ?_
      obtain rfl := Option.some.inj h
      exact WO.met _ ((S43.tr (S54.tr (S67.tr S79))).cl rfl) ⟨rfl, _, S79.wk rfl⟩ fun a ha => (ha.more (ha.more (ha.more (ha.more (ha.more (ha.more (ha.more ha.nil rfl) rfl) rfl) rfl) rfl) rfl) rfl)
    rintro _ w82 _ ⟨rfl, K83, S84⟩
    have h := hK68
    refine WO.nx ?_
    refine WO.fin ?_
    refine DN.seq ?_
    revert h
    cases ht85 : p67 with
    | true =>
     intro h; replace h := cT h
     refine WC.ct rfl ?_
     refine WC.seq ?_
     refine WC.rs [(0, 2)] rfl ?_
     refine WO.pn 1 rfl ?_
     refine WO.fin ?_
     refine DN.seq ?_
     refine WC.ret ?_
     refine DN.retBlock ?_
     refine DN.retThen ?_
     refine DN.retThen ?_
     obtain rfl := Option.some.inj h
     obtain rfl := Option.some.inj hk32
     have h := hK24
     dsimp only [aft] at h
     refine DN.retBlock ?_
     refine DN.retMeet ?_
     refine DN.retThen ?_
     have f86 := hE.stp (S3.tr (S7.tr (S13.tr (S19.tr (S31.tr (S36.tr (S43.tr (S54.tr (S67.tr S84))))))))) rfl rfl
     refine DN.res (l := [.tmp 4]) Try.results104 (res_tmp rfl rfl) rfl ?_
     obtain rfl := Option.some.inj h
     exact ⟨K83, rfl, f86⟩
    | false =>
     intro h; replace h := cF h
     refine WC.cf rfl ?_
     refine WC.skip ?_
     refine DN.block ?_
     refine DN.seq ?_
     refine WC.rs [(0, 2), (1, 2)] rfl ?_
     refine WO.pn 2 rfl ?_
     refine WO.fin ?_
     have hw23 : IntKind.wrap .i64 (v29 + 1) = v29 + 1 := wr1 hj23 (of_decide_eq_true hc23) hN23
     rw [hw23]
     have hc23 := of_decide_eq_true hc23
     obtain rfl := Option.some.inj h
     refine DN.round fun a ha => ?_
     exact ⟨k, _, Nat.lt_succ_self _, ⟨K83, v29 + 1, rfl, (S31.tr (S36.tr (S43.tr (S54.tr (S67.tr S84))))).wk rfl, by omega, by omega, hk32⟩, (ha.more (ha.more (ha.more (ha.more (ha.more (ha.more ha.nil rfl) rfl) rfl) rfl) rfl) rfl)⟩
  rintro _ w26 ⟨K27, rfl, S28, rfl⟩
  have h := hK24
  dsimp only [aft] at h
  refine DN.seq ?_
  refine WC.seq ?_
  refine WC.rs [(0, 2)] rfl ?_
  refine WO.pn 1 rfl ?_
  refine WO.fin ?_
  refine DN.seq ?_
  refine WC.ret ?_
  have f87 := hE.stp (S3.tr (S7.tr (S13.tr (S19.tr S28)))) rfl rfl
  refine DN.res (l := [.tmp 4]) Try.results104 (res_tmp rfl rfl) rfl ?_
  obtain rfl := Option.some.inj h
  exact ⟨K27, rfl, f87⟩

/- loop.example/g00869/impl.LeastOf -/
theorem i_LeastOf_ok {w : World} {κ : Col} {p0 : Sig} {a1_0 : Option Addr} {u1_0 : Nat} {a1_1 : Option Addr} {u1_1 : Nat} {p1 : Machine} (g1_0 : Rd (Rp.sl (Rp.int .i64)) κ w 0 a1_0 u1_0 p1.Next) (g1_1 : Rd (Rp.sl (Rp.int .i64)) κ w 0 a1_1 u1_1 p1.Out) {r : Machine} (h : i_LeastOf p0 p1 = some r) : Ret Try.prog 64 [.agg #[.int .i64 p0.In, .int .i64 p0.Out], .agg #[.slice a1_0 p1.Next.length u1_0, .slice a1_1 p1.Out.length u1_1]] w (fun v w' => ∃ (κ' : Col) (ra0 : Option Addr) (ru0 : Nat) (ra1 : Option Addr) (ru1 : Nat), v = .agg #[.slice ra0 r.Next.length ru0, .slice ra1 r.Out.length ru1] ∧ Ent κ w κ' w' ∧ Oc (Ep.own (Ep.int .i64) 2) 24 κ' w' 2 ra0 ru0 r.Next ∧ Oc (Ep.own (Ep.int .i64) 2) 24 κ' w' 3 ra1 ru1 r.Out) := by
 unfold i_LeastOf at h
 refine Ret.enter Try.func64 rfl Try.ntmps64 rfl ?_
 dsimp only [envOf]
 have hE := Ent.refl κ w
 refine WC.seq ?_
 refine WC.rs [(0, 1), (1, 1), (2, 1)] rfl ?_
 refine WO.box (κ := κ) 2 rfl rfl rfl rfl rfl rfl rfl fun b2 w1 K2 S3 f4 => ⟨trivial, ?_⟩
 refine WO.box (κ := K2) 3 rfl rfl rfl rfl rfl rfl rfl fun b3 w5 K6 S7 f8 => ⟨trivial, ?_⟩
 refine WO.alloc (κ := K6) 4 rfl rfl rfl rfl rfl Try.zeroValue84 rfl fun b4 w9 K10 S11 f12 => ⟨trivial, ?_⟩
 refine WO.fin ?_
 refine DN.seq ?_
 refine WC.seq ?_
 refine WC.seq ?_
 refine WC.rs [(0, 1), (1, 1), (2, 2), (3, 2), (4, 1), (5, 1), (6, 1), (7, 2), (8, 2)] rfl ?_
 have f13 := f4.stp (S7.tr S11) rfl rfl
 refine WO.k1 trivial rfl rfl rfl rfl (rn_la (cs := [.int .i64 p0.In, .int .i64 p0.Out]) Try.isAgg30 Try.sizeOf30 rfl rfl rfl (haE f13.cells)) ?_
 obtain ⟨x14, hx14, h⟩ := Option.bind_eq_some_iff.mp h
 refine WO.call rfl rfl rfl rfl rfl rfl Try.call73 (i_isSig_ok (κ := fun b => mp [] 0 (K10 b)) (p0 := p0) hx14) ?_
 rintro _ w14 ⟨k15, rfl, e16⟩
 obtain ⟨K17, S18, m19⟩ := Ent.mixed (l := []) (κ := K10) e16 5 rfl
 refine ⟨trivial, ?_⟩
 refine WO.pn 2 rfl ?_
 obtain ⟨p21, h, hK21⟩ := Option.bind_eq_some_iff.mp h
 refine WO.meet [(4, 1), (5, 1), (6, 1), (7, 2), (8, 2)] [] (fun L w' => L = [(3, .pointer (some ⟨b3, 0, none⟩)), (4, .pointer (some ⟨b4, 0, none⟩)), (21, .bool p21)] ∧ ∃ κ', Stp [] K17 w14 κ' w') trivial ?_ ?_
 ·
  revert h
  cases ht22 : (!x14) with
  | true =>
   intro h; replace h := cT h
   refine WO.ls rfl rfl rfl rfl ?_
   refine WO.ls rfl rfl rfl rfl ?_
   refine WO.ls rfl rfl rfl rfl ?_
   refine WO.pn 2 rfl ?_
   obtain rfl := Option.some.inj h
   exact WO.met _ trivial ⟨rfl, _, (Stp.refl _ _).wk rfl⟩ fun a ha => (ha.more (ha.more (ha.more ha.nil rfl) rfl) rfl)
  | false =>
   intro h; replace h := cF h
   have f23 := f13.stp S18 rfl rfl
   refine WO.k1 trivial rfl rfl rfl rfl (rn_la (cs := [.int .i64 p0.In, .int .i64 p0.Out]) Try.isAgg30 Try.sizeOf30 rfl rfl rfl (haE f23.cells)) ?_
   have f24 := f8.stp (S11.tr S18) rfl rfl
   refine WO.k1 trivial rfl rfl rfl rfl (rn_la (cs := [.slice a1_0 p1.Next.length u1_0, .slice a1_1 p1.Out.length u1_1]) Try.isAgg84 Try.sizeOf84 rfl rfl rfl (haE f24.cells)) ?_
   obtain ⟨x19, hx19, h⟩ := Option.bind_eq_some_iff.mp h
   have f25 := g1_0.stp (S3.tr (S7.tr (S11.tr S18))) rfl rfl
   have f26 := g1_1.stp (S3.tr (S7.tr (S11.tr S18))) rfl rfl
   refine WO.call rfl rfl rfl rfl rfl rfl Try.call104 (i_isMachine_ok (κ := fun b => mp [] 0 (K17 b)) (p0 := p0) (p1 := p1) (Sl.map f25 (mp [] 0) rfl rfl) (Sl.map f26 (mp [] 0) rfl rfl) hx19) ?_
   rintro _ w27 ⟨k28, rfl, e29⟩
   obtain ⟨K30, S31, m32⟩ := Ent.mixed (l := []) (κ := K17) e29 7 rfl
   refine ⟨trivial, ?_⟩
   refine WO.pn 2 rfl ?_
   obtain rfl := Option.some.inj h
   exact WO.met _ trivial ⟨rfl, _, S31.wk rfl⟩ fun a ha => (ha.more (ha.more (ha.more ha.nil rfl) rfl) rfl)
 rintro _ w34 _ ⟨rfl, K35, S36⟩
 have h := hK21
 refine WO.fin ?_
 refine DN.seq ?_
 revert h
 cases ht37 : p21 with
 | true =>
  intro h; replace h := cT h
  refine WC.ct rfl ?_
  refine WC.seq ?_
  refine WC.rs [(0, 2), (1, 1)] rfl ?_
  refine WO.k2 rfl rfl rfl rfl (rn_build (parts := []) (cells := [.slice none 0 0, .slice none 0 0]) rfl rfl (by kernel_rfl)) ?_
  have f38 := f12.stp (S18.tr S36) rfl rfl
  refine WO.stB0 (κ := K35) 4 (vc := [.slice none 0 0, .slice none 0 0]) rfl rfl rfl rfl rfl rfl rfl Try.sizeOf84 rfl rfl f38 rfl fun w39 S40 f41 => ⟨trivial, ?_⟩
  refine WO.fin ?_
  refine DN.seq ?_
  refine WC.ret ?_
  refine DN.retThen ?_
  have f42 := hE.stp (S3.tr (S7.tr (S11.tr (S18.tr (S36.tr S40))))) rfl rfl
  refine DN.res (l := [.cell 4 84]) Try.results64 (res_cellA rfl f41 Try.isAgg84 Try.sizeOf84 rfl rfl) rfl ?_
  obtain rfl := Option.some.inj h
  exact ⟨K35, none, 0, none, 0, rfl, f42, Ow.nil, Ow.nil⟩
 | false =>
  intro h; replace h := cF h
  refine WC.cf rfl ?_
  refine WC.skip ?_
  refine DN.seq ?_
  refine WC.seq ?_
  refine WC.rs [(0, 1), (1, 1), (2, 2)] rfl ?_
  have f43 := f8.stp (S11.tr (S18.tr S36)) rfl rfl
  refine WO.k1 trivial rfl rfl rfl rfl (rn_la (cs := [.slice a1_0 p1.Next.length u1_0, .slice a1_1 p1.Out.length u1_1]) Try.isAgg84 Try.sizeOf84 rfl rfl rfl (haE f43.cells)) ?_
  obtain ⟨x24, hx24, h⟩ := Option.bind_eq_some_iff.mp h
  have f44 := g1_0.stp (S3.tr (S7.tr (S11.tr (S18.tr S36)))) rfl rfl
  have f45 := g1_1.stp (S3.tr (S7.tr (S11.tr (S18.tr S36)))) rfl rfl
  refine WO.call rfl rfl rfl rfl rfl rfl Try.call127 (i_alikeStates_ok (κ := fun b => mp [] 0 (K35 b)) (p0 := p1) (Sl.map f44 (mp [] 0) rfl rfl) (Sl.map f45 (mp [] 0) rfl rfl) hx24) ?_
  rintro _ w46 ⟨k47, a24_0, u24_0, rfl, e48, f49⟩
  obtain ⟨K50, S51, m52⟩ := Ent.mixed (l := []) (κ := K35) e48 7 rfl
  refine ⟨trivial, ?_⟩
  have f54 := f49.mx (no_int _) m52 rfl (rfl : 7 + 2 = 9)
  refine WO.pn 1 rfl ?_
  refine WO.fin ?_
  refine DN.seq ?_
  refine WC.seq ?_
  refine WC.rs [(0, 2), (1, 2), (2, 1), (3, 1), (4, 2)] rfl ?_
  refine WO.pn 1 rfl ?_
  obtain ⟨x26, hx26, h⟩ := Option.bind_eq_some_iff.mp h
  refine WO.k2 rfl rfl rfl rfl (rn_index f54.rdc hx26 Try.runUnderlying24 Try.sizeOf2 rfl rfl rfl rfl) ?_
  refine WO.k1 trivial rfl rfl rfl rfl (rn_ld Try.isAgg2 rfl rfl (hvE (f54.rdc.gInt hx26))) ?_
  refine WO.bl (κ := K50) (E := (Ep.int .i64)) 10 [] (parts := [(0, .tmp 27)]) (cells := [.int .i64 x26]) (xs := ([x26] : List Int)) rfl rfl rfl rfl rfl rfl Try.underlying24 Tryinfo2 rfl rfl rfl rfl rfl rfl rfl rfl rfl rfl ⟨[.int .i64 x26], [], Zl K50 w46 [], Zl K50 w46 [], rfl, Zl.sp (l1 := []) (l2 := []) rfl, Zl.sr (l1 := []) (l2 := []), rfl, rfl⟩ fun a28 u28 w55 K56 S57 f58 => ⟨trivial, ?_⟩
  refine WO.pn 1 rfl ?_
  refine WO.fin ?_
  refine DN.seq ?_
  refine WC.seq ?_
  refine WC.rs [(0, 2), (1, 1), (2, 1)] rfl ?_
  refine WO.k2 rfl rfl rfl rfl (rn_build (parts := []) (cells := [.slice none 0 0, .slice none 0 0]) rfl rfl (by kernel_rfl)) ?_
  refine WO.alloc (κ := K56) 11 rfl rfl rfl rfl rfl Try.zeroValue84 rfl fun b7 w59 K60 S61 f62 => ⟨trivial, ?_⟩
  refine WO.stB0 (κ := K60) 11 (vc := [.slice none 0 0, .slice none 0 0]) rfl rfl rfl rfl rfl rfl rfl Try.sizeOf84 rfl rfl f62 rfl fun w63 S64 f65 => ⟨trivial, ?_⟩
  refine WO.fin ?_
  refine DN.seq ?_
  refine WC.seq ?_
  refine WC.seq ?_
  refine WC.rs [(0, 2)] rfl ?_
  refine WO.pn 1 rfl ?_
  refine WO.fin ?_
  refine DN.seq ?_
  obtain ⟨q2, hq68, hK67⟩ := Option.bind_eq_some_iff.mp h
  clear h
  refine WC.meet (fun L w' => ∃ (κ' : Col) (s3 : (List Int) × Int × (List (List Int)) × (List (List Int))) (las3_0 : Option Addr) (lus3_0 : Nat) (las3_1 : Option Addr) (lus3_1 : Nat) (las3_2 : Option Addr) (lus3_2 : Nat), L = [(4, .pointer (some ⟨b4, 0, none⟩)), (7, .pointer (some ⟨b7, 0, none⟩))] ∧ Stp [10, 11, 12, 13, 14, 15, 16, 17] K60 w63 κ' w' ∧ Oc (Ep.int .i64) 2 κ' w' 10 las3_0 lus3_0 s3.1 ∧ Oc (Ep.own (Ep.int .i64) 2) 24 κ' w' 12 las3_1 lus3_1 s3.2.2.1 ∧ Oc (Ep.own (Ep.int .i64) 2) 24 κ' w' 13 las3_2 lus3_2 s3.2.2.2 ∧ Bc κ' w' 11 b7 84 [.slice las3_1 s3.2.2.1.length lus3_1, .slice las3_2 s3.2.2.2.length lus3_2] ∧ q2 = Sum.inr s3) ?_ ?_
  ·
   refine WC.block ?_
   have f83 := f58.stp (S61.tr S64) rfl rfl
   refine WC.loop (fun k L w' => ∃ (κ' : Col) (s1 : (List Int) × Int × (List (List Int)) × (List (List Int))) (las1_0 : Option Addr) (lus1_0 : Nat) (las1_1 : Option Addr) (lus1_1 : Nat) (las1_2 : Option Addr) (lus1_2 : Nat), L = [(3, .pointer (some ⟨b3, 0, none⟩)), (4, .pointer (some ⟨b4, 0, none⟩)), (5, .slice a24_0 x24.length u24_0), (6, .slice las1_0 s1.1.length lus1_0), (7, .pointer (some ⟨b7, 0, none⟩)), (8, .int .i64 s1.2.1)] ∧ Stp [10, 11, 12, 13, 14, 15, 16, 17] K60 w63 κ' w' ∧ Oc (Ep.int .i64) 2 κ' w' 10 las1_0 lus1_0 s1.1 ∧ Oc (Ep.own (Ep.int .i64) 2) 24 κ' w' 12 las1_1 lus1_1 s1.2.2.1 ∧ Oc (Ep.own (Ep.int .i64) 2) 24 κ' w' 13 las1_2 lus1_2 s1.2.2.2 ∧ Bc κ' w' 11 b7 84 [.slice las1_1 s1.2.2.1.length lus1_1, .slice las1_2 s1.2.2.2.length lus1_2] ∧ whileM (i_LeastOf_b0 p1 x24) k s1 = some q2) ⟨_, _, ⟨K60, ((([x26] : List Int) : (List Int)), (0 : Int), (([] : List (List Int)) : (List (List Int))), (([] : List (List Int)) : (List (List Int)))), a28, u28, none, 0, none, 0, rfl, (Stp.refl _ _).wk rfl, f83, Ow.nil, Ow.nil, f65, hq68⟩, fun a ha => (ha.more (ha.more (ha.more (ha.more (ha.more (ha.more ha.nil rfl) rfl) rfl) rfl) rfl) rfl)⟩ ?_
   rintro k _ w76 ⟨K77, s1, las1_0, lus1_0, las1_1, lus1_1, las1_2, lus1_2, rfl, S78, f79, f80, f81, f82, h⟩
   rcases k with _ | k
   ·
    cases h
   ·
    obtain ⟨o66, h, hk84⟩ := Option.bind_eq_some_iff.mp h; unfold i_LeastOf_b0 at h
    refine WC.seq ?_
    refine WC.seq ?_
    refine WC.rs [(0, 2), (1, 2), (2, 2), (3, 2)] rfl ?_
    refine WO.pn 2 rfl ?_
    refine WO.k2 rfl rfl rfl rfl (rn_len Try.runUnderlying24 rfl rfl) ?_
    refine WO.pn 1 rfl ?_
    refine WO.fin ?_
    refine DN.seq ?_
    revert h
    cases ht85 : decide (s1.2.1 < (s1.1.length : Int)) with
    | true =>
     intro h; replace h := cT h
     refine WC.ct rfl ?_
     refine WC.skip ?_
     refine DN.seq ?_
     refine WC.seq ?_
     refine WC.block ?_
     refine WC.seq ?_
     refine WC.rs [(0, 1), (1, 2)] rfl ?_
     refine WO.bl0 (κ := K77) (E := (Ep.int .i64)) 14 rfl rfl rfl rfl rfl Try.underlying24 Tryinfo2 rfl fun a36 u36 w86 K87 S88 f89 => ⟨trivial, ?_⟩
     refine WO.pn 1 rfl ?_
     refine WO.fin ?_
     refine DN.seq ?_
     refine WC.seq ?_
     refine WC.seq ?_
     refine WC.rx (κ := K87) 14 none [(0, 2), (2, 2), (3, 2), (4, 2), (9, 2), (1, 0), (5, 0), (6, 2), (7, 0), (8, 2)] [] (by kernel_rfl) (by kernel_rfl) fun w91 S90 => ?_
     refine WO.k2 rfl rfl rfl rfl (rn_fieldAddr Try.runUnderlying84 rfl Try.sizeOf25 rfl rfl) ?_
     refine WO.pn 2 rfl ?_
     obtain ⟨x41, hx41, h⟩ := Option.bind_eq_some_iff.mp h
     refine WO.k2 rfl rfl rfl rfl (rn_index f79.rdc hx41 Try.runUnderlying24 Try.sizeOf2 rfl rfl rfl rfl) ?_
     refine WO.pn 1 rfl ?_
     have f92 := f43.stp (S51.tr (S57.tr (S61.tr (S64.tr (S78.tr (S88.tr S90)))))) rfl rfl
     refine WO.k0 rfl rfl rfl rfl (rn_ld Try.isAgg25 rfl rfl (hvC (f92.ld 0 rfl rfl) rfl)) ?_
     have f93 := f79.stp (S88.tr S90) rfl rfl
     refine WO.k0 rfl rfl rfl rfl (rn_ld Try.isAgg2 rfl rfl (hvC (f93.rdc.gInt hx41) rfl)) ?_
     obtain ⟨x43, hx43, h⟩ := Option.bind_eq_some_iff.mp h
     refine WO.k2 rfl rfl rfl rfl (rn_index f44 hx43 Try.runUnderlying25 Try.sizeOf24 rfl rfl rfl rfl) ?_
     have f94 := f44.stp (S51.tr (S57.tr (S61.tr (S64.tr (S78.tr (S88.tr S90)))))) rfl rfl
     obtain ⟨ax43, ux43, f95, hl96⟩ := f94.gSl hx43
     refine WO.k0 rfl rfl rfl rfl (rn_ld Try.isAgg24 rfl rfl (hvC hl96 rfl)) ?_
     refine WO.k2 rfl rfl rfl rfl (rn_len Try.runUnderlying24 rfl rfl) ?_
     refine WO.nx ?_
     refine WO.fin ?_
     refine DN.seq ?_
     have hN97 : (x43.length : Int) ≤ 9223372036854775807 := f95.len_le
     obtain ⟨q5, hq99, hK98⟩ := Option.bind_eq_some_iff.mp h
     clear h
     refine WC.meet (fun L w' => ∃ (κ' : Col) (s6 : (List Int) × (List Int)) (las6_0 : Option Addr) (lus6_0 : Nat) (las6_1 : Option Addr) (lus6_1 : Nat), L = [(3, .pointer (some ⟨b3, 0, none⟩)), (4, .pointer (some ⟨b4, 0, none⟩)), (5, .slice a24_0 x24.length u24_0), (6, .slice las6_0 s6.1.length lus6_0), (7, .pointer (some ⟨b7, 0, none⟩)), (8, .int .i64 s1.2.1), (9, .slice las6_1 s6.2.length lus6_1)] ∧ Stp [10, 14] K87 w91 κ' w' ∧ Oc (Ep.int .i64) 2 κ' w' 10 las6_0 lus6_0 s6.1 ∧ Oc (Ep.int .i64) 2 κ' w' 14 las6_1 lus6_1 s6.2 ∧ q5 = Sum.inr s6) ?_ ?_
     ·
      refine WC.block ?_
      have f110 := f89.stp S90 rfl rfl
      refine WC.loop (fun k L w' => ∃ (κ' : Col) (v46 : Int) (s4 : (List Int) × (List Int)) (las4_0 : Option Addr) (lus4_0 : Nat) (las4_1 : Option Addr) (lus4_1 : Nat), L = [(3, .pointer (some ⟨b3, 0, none⟩)), (4, .pointer (some ⟨b4, 0, none⟩)), (5, .slice a24_0 x24.length u24_0), (6, .slice las4_0 s4.1.length lus4_0), (7, .pointer (some ⟨b7, 0, none⟩)), (8, .int .i64 s1.2.1), (9, .slice las4_1 s4.2.length lus4_1), (44, .slice ax43 x43.length ux43), (45, .int .i64 (x43.length : Int)), (46, .int .i64 v46)] ∧ Stp [10, 14] K87 w91 κ' w' ∧ Oc (Ep.int .i64) 2 κ' w' 10 las4_0 lus4_0 s4.1 ∧ Oc (Ep.int .i64) 2 κ' w' 14 las4_1 lus4_1 s4.2 ∧ 0 ≤ v46 ∧ Int.toNat ((x43.length : Int) - v46) = k ∧ cntM (i_LeastOf_b2 x24 x43) k v46 s4 = some q5) ⟨_, _, ⟨K87, 0, ((s1.1 : (List Int)), (([] : List Int) : (List Int))), las1_0, lus1_0, a36, u36, rfl, (Stp.refl _ _).wk rfl, f93, f110, (by decide), (by simp), hq99⟩, fun a ha => (ha.more (ha.more (ha.more (ha.more (ha.more (ha.more (ha.more (ha.more (ha.more (ha.more ha.nil rfl) rfl) rfl) rfl) rfl) rfl) rfl) rfl) rfl) rfl)⟩ ?_
      rintro k _ w105 ⟨K106, v46, s4, las4_0, lus4_0, las4_1, lus4_1, rfl, S107, f108, f109, hj97, hJ97, h⟩
      rcases k with _ | k
      ·
       have hk111 := h; obtain ⟨o97, h⟩ := ex_eq (Sum.inr (Sum.inl s4) : Machine ⊕ (((List Int) × (List Int)) ⊕ ((List Int) × (List Int))))
       have hc97 : decide (v46 < (x43.length : Int)) = false := decide_eq_false (by omega)
       refine WC.seq ?_
       refine WC.rs [(0, 2)] rfl ?_
       refine WO.pn 1 rfl ?_
       refine WO.fin ?_
       refine DN.seq ?_
       refine WC.seq ?_
       refine WC.cf' rfl hc97 ?_
       refine WC.exit ?_
       refine DN.exitThen ?_
       refine DN.exitThen ?_
       obtain rfl := Option.some.inj h
       have h := hk111
       refine DN.hit ?_
       obtain rfl := Option.some.inj h
       exact DN.meet _ ⟨K106, ((s4.1 : (List Int)), (s4.2 : (List Int))), las4_0, lus4_0, las4_1, lus4_1, rfl, S107.wk rfl, f108, f109, rfl⟩ fun a ha => (ha.more (ha.more (ha.more (ha.more (ha.more (ha.more (ha.more ha.nil rfl) rfl) rfl) rfl) rfl) rfl) rfl)
      ·
       obtain ⟨o97, h, hk111⟩ := Option.bind_eq_some_iff.mp h; unfold i_LeastOf_b2 at h
       have hc97 : decide (v46 < (x43.length : Int)) = true := decide_eq_true (by omega)
       refine WC.seq ?_
       refine WC.rs [(0, 2)] rfl ?_
       refine WO.pn 1 rfl ?_
       refine WO.fin ?_
       refine DN.seq ?_
       refine WC.seq ?_
       refine WC.ct' rfl hc97 ?_
       refine WC.skip ?_
       refine DN.seq ?_
       refine WC.seq ?_
       refine WC.block ?_
       refine WC.seq ?_
       refine WC.rs [(0, 2), (1, 1), (2, 2)] rfl ?_
       obtain ⟨x48, hx48, h⟩ := Option.bind_eq_some_iff.mp h
       refine WO.k2 rfl rfl rfl rfl (rn_index f95 hx48 Try.runUnderlying24 Try.sizeOf2 rfl rfl rfl rfl) ?_
       have f112 := f95.stp S107 rfl rfl
       refine WO.k1 trivial rfl rfl rfl rfl (rn_ld Try.isAgg2 rfl rfl (hvE (f112.gInt hx48))) ?_
       refine WO.pn 1 rfl ?_
       refine WO.fin ?_
       refine DN.seq ?_
       refine WC.seq ?_
       refine WC.rs [(0, 2), (1, 2), (2, 2), (3, 2), (4, 1), (5, 1), (6, 2)] rfl ?_
       refine WO.pn 3 rfl ?_
       obtain ⟨x53, hx53, h⟩ := Option.bind_eq_some_iff.mp h
       refine WO.k2 rfl rfl rfl rfl (rn_index f54.rdc hx53 Try.runUnderlying24 Try.sizeOf2 rfl rfl rfl rfl) ?_
       have f113 := f54.stp (S57.tr (S61.tr (S64.tr (S78.tr (S88.tr (S90.tr S107)))))) rfl rfl
       refine WO.k1 trivial rfl rfl rfl rfl (rn_ld Try.isAgg2 rfl rfl (hvE (f113.rdc.gInt hx53))) ?_
       obtain ⟨x55, hx55, h⟩ := Option.bind_eq_some_iff.mp h
       refine WO.call rfl rfl rfl rfl rfl rfl Try.call115 (slices_Index_I_int64_ok (κ := fun b => mp [] 0 (K106 b)) (Sl.map f108.rdc (mp [] 0) rfl rfl) hx55) ?_
       rintro _ w114 ⟨k115, rfl, e116⟩
       obtain ⟨K117, S118, m119⟩ := Ent.mixed (l := []) (κ := K106) e116 15 rfl
       refine ⟨trivial, ?_⟩
       refine WO.pn 1 rfl ?_
       refine WO.fin ?_
       refine DN.seq ?_
       refine WC.seq ?_
       refine WC.seq ?_
       refine WC.rs [(0, 2), (1, 2)] rfl ?_
       refine WO.pn 2 rfl ?_
       refine WO.fin ?_
       refine DN.seq ?_
       obtain ⟨q7, h, hK121⟩ := Option.bind_eq_some_iff.mp h
       refine WC.meet (fun L w' => ∃ (κ' : Col) (laq7_0 : Option Addr) (luq7_0 : Nat), L = [(3, .pointer (some ⟨b3, 0, none⟩)), (4, .pointer (some ⟨b4, 0, none⟩)), (5, .slice a24_0 x24.length u24_0), (6, .slice laq7_0 q7.1.length luq7_0), (7, .pointer (some ⟨b7, 0, none⟩)), (8, .int .i64 s1.2.1), (9, .slice las4_1 s4.2.length lus4_1), (12, .int .i64 q7.2), (44, .slice ax43 x43.length ux43), (45, .int .i64 (x43.length : Int)), (46, .int .i64 v46)] ∧ Stp [10] K117 w114 κ' w' ∧ Oc (Ep.int .i64) 2 κ' w' 10 laq7_0 luq7_0 q7.1) ?_ ?_
       ·
        revert h
        cases ht126 : decide (x55 < 0) with
        | true =>
         intro h; replace h := cT h
         refine WC.ct rfl ?_
         refine WC.seq ?_
         refine WC.rs [(0, 2), (1, 2), (2, 2)] rfl ?_
         refine WO.pn 1 rfl ?_
         refine WO.k2 rfl rfl rfl rfl (rn_len Try.runUnderlying24 rfl rfl) ?_
         refine WO.pn 1 rfl ?_
         refine WO.fin ?_
         refine DN.seq ?_
         refine WC.rs [(0, 2), (1, 2), (2, 2), (3, 2), (4, 1), (5, 1), (6, 1), (7, 2)] rfl ?_
         refine WO.pn 3 rfl ?_
         obtain ⟨x63, hx63, h⟩ := Option.bind_eq_some_iff.mp h
         refine WO.k2 rfl rfl rfl rfl (rn_index f113.rdc hx63 Try.runUnderlying24 Try.sizeOf2 rfl rfl rfl rfl) ?_
         have f127 := f113.stp S118 rfl rfl
         refine WO.k1 trivial rfl rfl rfl rfl (rn_ld Try.isAgg2 rfl rfl (hvE (f127.rdc.gInt hx63))) ?_
         refine WO.bl (κ := K117) (E := (Ep.int .i64)) 17 [] (parts := [(0, .tmp 64)]) (cells := [.int .i64 x63]) (xs := ([x63] : List Int)) rfl rfl rfl rfl rfl rfl Try.underlying24 Tryinfo2 rfl rfl rfl rfl rfl rfl rfl rfl rfl rfl ⟨[.int .i64 x63], [], Zl K117 w114 [], Zl K117 w114 [], rfl, Zl.sp (l1 := []) (l2 := []) rfl, Zl.sr (l1 := []) (l2 := []), rfl, rfl⟩ fun a65 u65 w128 K129 S130 f131 => ⟨trivial, ?_⟩
         obtain ⟨x66, hx66, h⟩ := Option.bind_eq_some_iff.mp h
         have f132 := f108.stp (S118.tr S130) rfl rfl
         refine WO.app (κ := K129) (E := (Ep.int .i64)) 10 [] rfl rfl rfl rfl rfl rfl rfl rfl rfl Try.underlying24 Tryinfo2 rfl rfl rfl rfl f132 (Sl.srcP (pu_int _) f131.rdc) sy_false hx66 rfl fun a66 u66 w133 K134 S135 f136 => ⟨trivial, ?_⟩
         refine WO.pn 1 rfl ?_
         refine WO.fin ?_
         obtain rfl := Option.some.inj h
         exact DN.meet _ ⟨K134, a66, u66, rfl, (S130.tr S135).wk rfl, f136⟩ fun a ha => (ha.more (ha.more (ha.more (ha.more (ha.more (ha.more (ha.more (ha.more (ha.more (ha.more (ha.more ha.nil rfl) rfl) rfl) rfl) rfl) rfl) rfl) rfl) rfl) rfl) rfl)
        | false =>
         intro h; replace h := cF h
         refine WC.cf rfl ?_
         refine WC.skip ?_
         have f137 := f108.stp S118 rfl rfl
         obtain rfl := Option.some.inj h
         exact DN.meet _ ⟨K117, las4_0, lus4_0, rfl, (Stp.refl _ _).wk rfl, f137⟩ fun a ha => (ha.more (ha.more (ha.more (ha.more (ha.more (ha.more (ha.more (ha.more (ha.more (ha.more (ha.more ha.nil rfl) rfl) rfl) rfl) rfl) rfl) rfl) rfl) rfl) rfl) rfl)
       rintro _ w122 ⟨K123, laq7_0, luq7_0, rfl, S124, f125⟩
       have h := hK121
       refine DN.seq ?_
       refine WC.rs [(0, 2), (1, 2), (2, 1), (3, 1), (4, 2)] rfl ?_
       refine WO.pn 2 rfl ?_
       refine WO.bl (κ := K123) (E := (Ep.int .i64)) 17 [] (parts := [(0, .tmp 68)]) (cells := [.int .i64 q7.2]) (xs := ([q7.2] : List Int)) rfl rfl rfl rfl rfl rfl Try.underlying24 Tryinfo2 rfl rfl rfl rfl rfl rfl rfl rfl rfl rfl ⟨[.int .i64 q7.2], [], Zl K123 w122 [], Zl K123 w122 [], rfl, Zl.sp (l1 := []) (l2 := []) rfl, Zl.sr (l1 := []) (l2 := []), rfl, rfl⟩ fun a69 u69 w138 K139 S140 f141 => ⟨trivial, ?_⟩
       obtain ⟨x70, hx70, h⟩ := Option.bind_eq_some_iff.mp h
       have f142 := f109.stp (S118.tr (S124.tr S140)) rfl rfl
       refine WO.app (κ := K139) (E := (Ep.int .i64)) 14 [] rfl rfl rfl rfl rfl rfl rfl rfl rfl Try.underlying24 Tryinfo2 rfl rfl rfl rfl f142 (Sl.srcP (pu_int _) f141.rdc) sy_false hx70 rfl fun a70 u70 w143 K144 S145 f146 => ⟨trivial, ?_⟩
       refine WO.pn 1 rfl ?_
       refine WO.fin ?_
       refine DN.block ?_
       refine DN.seq ?_
       refine WC.rs [(0, 2), (1, 2)] rfl ?_
       refine WO.pn 2 rfl ?_
       refine WO.fin ?_
       have hw97 : IntKind.wrap .i64 (v46 + 1) = v46 + 1 := wr1 hj97 (of_decide_eq_true hc97) hN97
       rw [hw97]
       have hc97 := of_decide_eq_true hc97
       have f147 := f125.stp (S140.tr S145) rfl rfl
       obtain rfl := Option.some.inj h
       refine DN.round fun a ha => ?_
       exact ⟨k, _, Nat.lt_succ_self _, ⟨K144, v46 + 1, ((q7.1 : (List Int)), (x70 : (List Int))), laq7_0, luq7_0, a70, u70, rfl, (S107.tr (S118.tr (S124.tr (S140.tr S145)))).wk rfl, f147, f146, by omega, by omega, hk111⟩, (ha.more (ha.more (ha.more (ha.more (ha.more (ha.more (ha.more (ha.more (ha.more (ha.more ha.nil rfl) rfl) rfl) rfl) rfl) rfl) rfl) rfl) rfl) rfl)⟩
     rintro _ w100 ⟨K101, s6, las6_0, lus6_0, las6_1, lus6_1, rfl, S102, f103, f104, rfl⟩
     have h := hK98
     dsimp only [aft] at h
     refine DN.seq ?_
     refine WC.seq ?_
     refine WC.rs [(0, 2), (1, 1), (2, 2), (3, 1), (4, 1), (5, 2), (6, 1)] rfl ?_
     refine WO.k2 rfl rfl rfl rfl (rn_fieldAddr Try.runUnderlying84 rfl Try.sizeOf25 rfl rfl) ?_
     have f148 := f82.stp (S88.tr (S90.tr S102)) rfl rfl
     refine WO.k1 trivial rfl rfl rfl rfl (rn_ld Try.isAgg25 rfl rfl (hvE (f148.ld 0 rfl rfl))) ?_
     refine WO.pn 1 rfl ?_
     refine WO.bl (κ := K101) (E := (Ep.own (Ep.int .i64) 2)) 15 [14] (parts := [(0, .tmp 74)]) (cells := [.slice las6_1 s6.2.length lus6_1]) (xs := ([s6.2] : List (List Int))) rfl rfl rfl rfl rfl rfl Try.underlying25 Tryinfo24 rfl rfl rfl rfl rfl rfl rfl rfl rfl rfl ⟨[.slice las6_1 s6.2.length lus6_1], [], Zl K101 w100 [14], Zl K101 w100 [], rfl, Zl.sp (l1 := [14]) (l2 := []) rfl, Zl.sr (l1 := [14]) (l2 := []), ⟨_, _, rfl, f104⟩, rfl⟩ fun a75 u75 w149 K150 S151 f152 => ⟨trivial, ?_⟩
     obtain ⟨x76, hx76, h⟩ := Option.bind_eq_some_iff.mp h
     have f153 := f80.stp (S88.tr (S90.tr (S102.tr S151))) rfl rfl
     refine WO.app (κ := K150) (E := (Ep.own (Ep.int .i64) 2)) 12 [15] rfl rfl rfl rfl rfl rfl rfl rfl rfl Try.underlying25 Tryinfo24 rfl rfl rfl rfl f153 f152.src (sy_one rfl) hx76 rfl fun a76 u76 w154 K155 S156 f157 => ⟨trivial, ?_⟩
     refine WO.k2 rfl rfl rfl rfl (rn_fieldAddr Try.runUnderlying84 rfl Try.sizeOf25 rfl rfl) ?_
     have f158 := f148.stp (S151.tr S156) rfl rfl
     refine WO.stB (κ := K155) 11 (off := 0) (vc := [.slice a76 x76.length u76]) (cs' := [.slice a76 x76.length u76, .slice las1_2 s1.2.2.2.length lus1_2]) rfl rfl rfl rfl rfl rfl rfl Try.sizeOf25 rfl rfl f158 rfl rfl fun w159 S160 f161 => ⟨trivial, ?_⟩
     refine WO.fin ?_
     refine DN.seq ?_
     refine WC.rx (κ := K155) 15 (some 13) [(0, 2), (3, 2), (5, 2), (6, 2), (7, 2), (1, 0), (4, 0), (8, 0), (9, 2), (10, 0), (2, 1), (11, 1), (12, 1)] [(13, 1), (14, 2), (15, 1)] (by kernel_rfl) (by kernel_rfl) fun w163 S162 => ?_
     refine WO.k2 rfl rfl rfl rfl (rn_fieldAddr Try.runUnderlying84 rfl Try.sizeOf25 rfl rfl) ?_
     refine WO.k2 rfl rfl rfl rfl (rn_fieldAddr Try.runUnderlying84 rfl Try.sizeOf25 rfl rfl) ?_
     refine WO.pn 2 rfl ?_
     obtain ⟨x85, hx85, h⟩ := Option.bind_eq_some_iff.mp h
     refine WO.k2 rfl rfl rfl rfl (rn_index f103.rdc hx85 Try.runUnderlying24 Try.sizeOf2 rfl rfl rfl rfl) ?_
     have f164 := f161.stp S162 rfl rfl
     refine WO.k0 rfl rfl rfl rfl (rn_ld Try.isAgg25 rfl rfl (hvC (f164.ld 1 rfl rfl) rfl)) ?_
     have f165 := f92.stp (S102.tr (S151.tr (S156.tr (S160.tr S162)))) rfl rfl
     refine WO.k0 rfl rfl rfl rfl (rn_ld Try.isAgg25 rfl rfl (hvC (f165.ld 1 rfl rfl) rfl)) ?_
     have f166 := f103.stp (S151.tr (S156.tr (S160.tr S162))) rfl rfl
     refine WO.k0 rfl rfl rfl rfl (rn_ld Try.isAgg2 rfl rfl (hvC (f166.rdc.gInt hx85) rfl)) ?_
     obtain ⟨x87, hx87, h⟩ := Option.bind_eq_some_iff.mp h
     refine WO.k2 rfl rfl rfl rfl (rn_index f45 hx87 Try.runUnderlying25 Try.sizeOf24 rfl rfl rfl rfl) ?_
     have f167 := f45.stp (S51.tr (S57.tr (S61.tr (S64.tr (S78.tr (S88.tr (S90.tr (S102.tr (S151.tr (S156.tr (S160.tr S162))))))))))) rfl rfl
     obtain ⟨ax87, ux87, f168, hl169⟩ := f167.gSl hx87
     refine WO.k0 rfl rfl rfl rfl (rn_ld Try.isAgg24 rfl rfl (hvC hl169 rfl)) ?_
     refine WO.bl0 (κ := K155) (E := (Ep.int .i64)) 16 rfl rfl rfl rfl rfl Try.underlying24 Tryinfo2 rfl fun a80 u80 w170 K171 S172 f173 => ⟨(S172.cl rfl), ?_⟩
     obtain ⟨x89, hx89, h⟩ := Option.bind_eq_some_iff.mp h
     have f174 := f168.stp S172 rfl rfl
     refine WO.app (κ := K171) (E := (Ep.int .i64)) 16 [] rfl rfl rfl rfl rfl rfl rfl rfl rfl Try.underlying24 Tryinfo2 rfl rfl rfl rfl f173 (Sl.srcP (pu_int _) f174) sy_false hx89 rfl fun a89 u89 w175 K176 S177 f178 => ⟨((S172.tr S177).cl rfl), ?_⟩
     refine WO.bl (κ := K176) (E := (Ep.own (Ep.int .i64) 2)) 17 [16] (parts := [(0, .tmp 89)]) (cells := [.slice a89 x89.length u89]) (xs := ([x89] : List (List Int))) rfl rfl rfl rfl rfl rfl Try.underlying25 Tryinfo24 rfl rfl rfl rfl rfl rfl rfl rfl rfl rfl ⟨[.slice a89 x89.length u89], [], Zl K176 w175 [16], Zl K176 w175 [], rfl, Zl.sp (l1 := [16]) (l2 := []) rfl, Zl.sr (l1 := [16]) (l2 := []), ⟨_, _, rfl, f178⟩, rfl⟩ fun a90 u90 w179 K180 S181 f182 => ⟨((S172.tr (S177.tr S181)).cl rfl), ?_⟩
     refine WO.nx ?_
     obtain ⟨x91, hx91, h⟩ := Option.bind_eq_some_iff.mp h
     have f183 := f81.stp (S88.tr (S90.tr (S102.tr (S151.tr (S156.tr (S160.tr (S162.tr (S172.tr (S177.tr S181))))))))) rfl rfl
     refine WO.app (κ := K180) (E := (Ep.own (Ep.int .i64) 2)) 13 [17] rfl rfl rfl rfl rfl rfl rfl rfl rfl Try.underlying25 Tryinfo24 rfl rfl rfl rfl f183 f182.src (sy_one rfl) hx91 rfl fun a91 u91 w184 K185 S186 f187 => ⟨trivial, ?_⟩
     refine WO.k2 rfl rfl rfl rfl (rn_fieldAddr Try.runUnderlying84 rfl Try.sizeOf25 rfl rfl) ?_
     have f188 := f164.stp (S172.tr (S177.tr (S181.tr S186))) rfl rfl
     refine WO.stB (κ := K185) 11 (off := 1) (vc := [.slice a91 x91.length u91]) (cs' := [.slice a76 x76.length u76, .slice a91 x91.length u91]) rfl rfl rfl rfl rfl rfl rfl Try.sizeOf25 rfl rfl f188 rfl rfl fun w189 S190 f191 => ⟨trivial, ?_⟩
     refine WO.fin ?_
     refine DN.block ?_
     refine DN.seq ?_
     refine WC.rs [(0, 2), (1, 2), (2, 2)] rfl ?_
     refine WO.pn 3 rfl ?_
     refine WO.fin ?_
     have f192 := f166.stp (S172.tr (S177.tr (S181.tr (S186.tr S190)))) rfl rfl
     have f193 := f157.stp (S160.tr (S162.tr (S172.tr (S177.tr (S181.tr (S186.tr S190)))))) rfl rfl
     have f194 := f187.stp S190 rfl rfl
     obtain rfl := Option.some.inj h
     refine DN.round fun a ha => ?_
     exact ⟨k, _, Nat.lt_succ_self _, ⟨K185, ((s6.1 : (List Int)), ((IntKind.i64.wrap (s1.2.1 + 1)) : Int), (x76 : (List (List Int))), (x91 : (List (List Int)))), las6_0, lus6_0, a76, u76, a91, u91, rfl, (S78.tr (S88.tr (S90.tr (S102.tr (S151.tr (S156.tr (S160.tr (S162.tr (S172.tr (S177.tr (S181.tr (S186.tr S190)))))))))))).wk rfl, f192, f193, f194, f191, hk84⟩, (ha.more (ha.more (ha.more (ha.more (ha.more (ha.more ha.nil rfl) rfl) rfl) rfl) rfl) rfl)⟩
    | false =>
     intro h; replace h := cF h
     refine WC.cf rfl ?_
     refine WC.exit ?_
     refine DN.exitThen ?_
     refine DN.exitThen ?_
     obtain rfl := Option.some.inj h
     have h := hk84
     refine DN.hit ?_
     obtain rfl := Option.some.inj h
     exact DN.meet _ ⟨K77, ((s1.1 : (List Int)), (s1.2.1 : Int), (s1.2.2.1 : (List (List Int))), (s1.2.2.2 : (List (List Int)))), las1_0, lus1_0, las1_1, lus1_1, las1_2, lus1_2, rfl, S78.wk rfl, f79, f80, f81, f82, rfl⟩ fun a ha => (ha.more (ha.more ha.nil rfl) rfl)
  rintro _ w69 ⟨K70, s3, las3_0, lus3_0, las3_1, lus3_1, las3_2, lus3_2, rfl, S71, f72, f73, f74, f75, rfl⟩
  have h := hK67
  dsimp only [aft] at h
  refine DN.seq ?_
  refine WC.seq ?_
  refine WC.rs [(0, 1), (1, 1)] rfl ?_
  refine WO.k1 trivial rfl rfl rfl rfl (rn_la (cs := [.slice las3_1 s3.2.2.1.length lus3_1, .slice las3_2 s3.2.2.2.length lus3_2]) Try.isAgg84 Try.sizeOf84 rfl rfl rfl (haE f75.cells)) ?_
  have f195 := f12.stp (S18.tr (S36.tr (S51.tr (S57.tr (S61.tr (S64.tr S71)))))) rfl rfl
  refine WO.stB0 (κ := K70) 4 (vc := [.slice las3_1 s3.2.2.1.length lus3_1, .slice las3_2 s3.2.2.2.length lus3_2]) rfl rfl rfl rfl rfl rfl rfl Try.sizeOf84 rfl rfl f195 rfl fun w196 S197 f198 => ⟨trivial, ?_⟩
  refine WO.fin ?_
  refine DN.seq ?_
  refine WC.ret ?_
  have f199 := hE.stp (S3.tr (S7.tr (S11.tr (S18.tr (S36.tr (S51.tr (S57.tr (S61.tr (S64.tr (S71.tr S197)))))))))) rfl rfl
  have f200 := f73.stp S197 rfl rfl
  have f201 := f74.stp S197 rfl rfl
  refine DN.res (l := [.cell 4 84]) Try.results64 (res_cellA rfl f198 Try.isAgg84 Try.sizeOf84 rfl rfl) rfl ?_
  obtain rfl := Option.some.inj h
  exact ⟨(fun b => ren [(12, 2), (13, 3)] (K70 b)), las3_1, lus3_1, las3_2, lus3_2, rfl, (f199.map (ren [(12, 2), (13, 3)]) rfl rfl), (f200.map (ren [(12, 2), (13, 3)]) rfl rfl), (f201.map (ren [(12, 2), (13, 3)]) rfl rfl)⟩

/- loop.example/g00869/impl.isWord -/
theorem i_isWord_ok {w : World} {κ : Col} {a0_0 : Option Addr} {u0_0 : Nat} {a0_1 : Option Addr} {u0_1 : Nat} {p0 : Word} {p1 : Int} (g0_0 : Rd (Rp.int .i64) κ w 0 a0_0 u0_0 p0.Stem) (g0_1 : Rd (Rp.int .i64) κ w 0 a0_1 u0_1 p0.Loop) {r : Bool} (h : i_isWord p0 p1 = some r) : Ret Try.prog 105 [.agg #[.slice a0_0 p0.Stem.length u0_0, .slice a0_1 p0.Loop.length u0_1], .int .i64 p1] w (fun v w' => ∃ (κ' : Col), v = .bool r ∧ Ent κ w κ' w') := by
 unfold i_isWord at h
 refine Ret.enter Try.func105 rfl Try.ntmps105 rfl ?_
 dsimp only [envOf]
 have hE := Ent.refl κ w
 refine WC.seq ?_
 refine WC.rs [(0, 1), (1, 2)] rfl ?_
 refine WO.box (κ := κ) 2 rfl rfl rfl rfl rfl rfl rfl fun b2 w1 K2 S3 f4 => ⟨trivial, ?_⟩
 refine WO.pn 1 rfl ?_
 refine WO.fin ?_
 refine DN.seq ?_
 refine WC.seq ?_
 refine WC.rs [(0, 2), (1, 1), (2, 2), (3, 2), (4, 2), (5, 2), (6, 1), (7, 2), (8, 2), (9, 2), (10, 2), (11, 2), (12, 1), (13, 2), (14, 2), (15, 2), (16, 2), (17, 2), (18, 1), (19, 2), (20, 1), (21, 2), (22, 2), (23, 2), (24, 1), (25, 2), (26, 1), (27, 2), (28, 2)] rfl ?_
 refine WO.k2 rfl rfl rfl rfl (rn_fieldAddr Try.runUnderlying82 rfl Try.sizeOf24 rfl rfl) ?_
 refine WO.k1 trivial rfl rfl rfl rfl (rn_ld Try.isAgg24 rfl rfl (hvE (f4.ld 0 rfl rfl))) ?_
 refine WO.k2 rfl rfl rfl rfl (rn_len Try.runUnderlying24 rfl rfl) ?_
 refine WO.pn 2 rfl ?_
 obtain ⟨p14, h, hK5⟩ := Option.bind_eq_some_iff.mp h
 refine WO.meet [(5, 2), (6, 1), (7, 2), (8, 2), (9, 2)] [(10, 2), (11, 2), (12, 1), (13, 2), (14, 2), (15, 2), (16, 2), (17, 2), (18, 1), (19, 2), (20, 1), (21, 2), (22, 2), (23, 2), (24, 1), (25, 2), (26, 1), (27, 2), (28, 2)] (fun L w' => L = [(1, .int .i64 p1), (2, .pointer (some ⟨b2, 0, none⟩)), (4, .bool false), (14, .bool p14)] ∧ ∃ κ', Stp [] K2 w1 κ' w') trivial ?_ ?_
 ·
  revert h
  cases ht6 : decide ((p0.Stem.length : Int) ≤ 600) with
  | true =>
   intro h; replace h := cT h
   refine WO.k2 rfl rfl rfl rfl (rn_fieldAddr Try.runUnderlying82 rfl Try.sizeOf24 rfl rfl) ?_
   refine WO.k1 trivial rfl rfl rfl rfl (rn_ld Try.isAgg24 rfl rfl (hvE (f4.ld 1 rfl rfl))) ?_
   refine WO.k2 rfl rfl rfl rfl (rn_len Try.runUnderlying24 rfl rfl) ?_
   refine WO.pn 2 rfl ?_
   obtain rfl := Option.some.inj h
   exact WO.met _ trivial ⟨rfl, _, (Stp.refl _ _).wk rfl⟩ fun a ha => (ha.more (ha.more (ha.more (ha.more ha.nil rfl) rfl) rfl) rfl)
  | false =>
   intro h; replace h := cF h
   refine WO.pn 1 rfl ?_
   refine WO.ls rfl rfl rfl rfl ?_
   refine WO.pn 3 rfl ?_
   obtain rfl := Option.some.inj h
   exact WO.met _ trivial ⟨rfl, _, (Stp.refl _ _).wk rfl⟩ fun a ha => (ha.more (ha.more (ha.more (ha.more ha.nil rfl) rfl) rfl) rfl)
 rintro _ w7 _ ⟨rfl, K8, S9⟩
 have h := hK5
 refine WO.pn 1 rfl ?_
 obtain ⟨p20, h, hK10⟩ := Option.bind_eq_some_iff.mp h
 refine WO.meet [(11, 2), (12, 1), (13, 2), (14, 2), (15, 2)] [(16, 2), (17, 2), (18, 1), (19, 2), (20, 1), (21, 2), (22, 2), (23, 2), (24, 1), (25, 2), (26, 1), (27, 2), (28, 2)] (fun L w' => L = [(1, .int .i64 p1), (2, .pointer (some ⟨b2, 0, none⟩)), (4, .bool false), (20, .bool p20)] ∧ ∃ κ', Stp [] K8 w7 κ' w') trivial ?_ ?_
 ·
  revert h
  cases ht11 : p14 with
  | true =>
   intro h; replace h := cT h
   refine WO.k2 rfl rfl rfl rfl (rn_fieldAddr Try.runUnderlying82 rfl Try.sizeOf24 rfl rfl) ?_
   have f12 := f4.stp S9 rfl rfl
   refine WO.k1 trivial rfl rfl rfl rfl (rn_ld Try.isAgg24 rfl rfl (hvE (f12.ld 1 rfl rfl))) ?_
   refine WO.k2 rfl rfl rfl rfl (rn_len Try.runUnderlying24 rfl rfl) ?_
   refine WO.pn 2 rfl ?_
   obtain rfl := Option.some.inj h
   exact WO.met _ trivial ⟨rfl, _, (Stp.refl _ _).wk rfl⟩ fun a ha => (ha.more (ha.more (ha.more (ha.more ha.nil rfl) rfl) rfl) rfl)
  | false =>
   intro h; replace h := cF h
   refine WO.pn 1 rfl ?_
   refine WO.ls rfl rfl rfl rfl ?_
   refine WO.pn 3 rfl ?_
   obtain rfl := Option.some.inj h
   exact WO.met _ trivial ⟨rfl, _, (Stp.refl _ _).wk rfl⟩ fun a ha => (ha.more (ha.more (ha.more (ha.more ha.nil rfl) rfl) rfl) rfl)
 rintro _ w13 _ ⟨rfl, K14, S15⟩
 have h := hK10
 refine WO.pn 1 rfl ?_
 obtain ⟨p26, h, hK16⟩ := Option.bind_eq_some_iff.mp h
 refine WO.meet [(17, 2), (18, 1), (19, 2), (20, 1), (21, 2)] [(22, 2), (23, 2), (24, 1), (25, 2), (26, 1), (27, 2), (28, 2)] (fun L w' => L = [(1, .int .i64 p1), (2, .pointer (some ⟨b2, 0, none⟩)), (4, .bool false), (26, .bool p26)] ∧ ∃ κ', Stp [] K14 w13 κ' w') trivial ?_ ?_
 ·
  revert h
  cases ht17 : p20 with
  | true =>
   intro h; replace h := cT h
   refine WO.k2 rfl rfl rfl rfl (rn_fieldAddr Try.runUnderlying82 rfl Try.sizeOf24 rfl rfl) ?_
   have f18 := f4.stp (S9.tr S15) rfl rfl
   refine WO.k1 trivial rfl rfl rfl rfl (rn_ld Try.isAgg24 rfl rfl (hvE (f18.ld 0 rfl rfl))) ?_
   refine WO.pn 1 rfl ?_
   obtain ⟨x25, hx25, h⟩ := Option.bind_eq_some_iff.mp h
   have f19 := g0_0.stp (S3.tr (S9.tr S15)) rfl rfl
   refine WO.call rfl rfl rfl rfl rfl rfl Try.call80 (i_areLetters_ok (κ := fun b => mp [] 0 (K14 b)) (Sl.map f19 (mp [] 0) rfl rfl) hx25) ?_
   rintro _ w20 ⟨k21, rfl, e22⟩
   obtain ⟨K23, S24, m25⟩ := Ent.mixed (l := []) (κ := K14) e22 3 rfl
   refine ⟨trivial, ?_⟩
   refine WO.pn 1 rfl ?_
   obtain rfl := Option.some.inj h
   exact WO.met _ trivial ⟨rfl, _, S24.wk rfl⟩ fun a ha => (ha.more (ha.more (ha.more (ha.more ha.nil rfl) rfl) rfl) rfl)
  | false =>
   intro h; replace h := cF h
   refine WO.pn 1 rfl ?_
   refine WO.ls rfl rfl rfl rfl ?_
   refine WO.pn 1 rfl ?_
   refine WO.ls rfl rfl rfl rfl ?_
   refine WO.pn 1 rfl ?_
   obtain rfl := Option.some.inj h
   exact WO.met _ trivial ⟨rfl, _, (Stp.refl _ _).wk rfl⟩ fun a ha => (ha.more (ha.more (ha.more (ha.more ha.nil rfl) rfl) rfl) rfl)
 rintro _ w27 _ ⟨rfl, K28, S29⟩
 have h := hK16
 refine WO.pn 1 rfl ?_
 obtain ⟨p32, h, hK30⟩ := Option.bind_eq_some_iff.mp h
 refine WO.meet [(23, 2), (24, 1), (25, 2), (26, 1), (27, 2)] [(28, 2)] (fun L w' => L = [(4, .bool false), (32, .bool p32)] ∧ ∃ κ', Stp [] K28 w27 κ' w') trivial ?_ ?_
 ·
  revert h
  cases ht31 : p26 with
  | true =>
   intro h; replace h := cT h
   refine WO.k2 rfl rfl rfl rfl (rn_fieldAddr Try.runUnderlying82 rfl Try.sizeOf24 rfl rfl) ?_
   have f32 := f4.stp (S9.tr (S15.tr S29)) rfl rfl
   refine WO.k1 trivial rfl rfl rfl rfl (rn_ld Try.isAgg24 rfl rfl (hvE (f32.ld 1 rfl rfl))) ?_
   refine WO.pn 1 rfl ?_
   obtain ⟨x31, hx31, h⟩ := Option.bind_eq_some_iff.mp h
   have f33 := g0_1.stp (S3.tr (S9.tr (S15.tr S29))) rfl rfl
   refine WO.call rfl rfl rfl rfl rfl rfl Try.call80 (i_areLetters_ok (κ := fun b => mp [] 0 (K28 b)) (Sl.map f33 (mp [] 0) rfl rfl) hx31) ?_
   rintro _ w34 ⟨k35, rfl, e36⟩
   obtain ⟨K37, S38, m39⟩ := Ent.mixed (l := []) (κ := K28) e36 3 rfl
   refine ⟨trivial, ?_⟩
   refine WO.pn 1 rfl ?_
   obtain rfl := Option.some.inj h
   exact WO.met _ trivial ⟨rfl, _, S38.wk rfl⟩ fun a ha => (ha.more (ha.more ha.nil rfl) rfl)
  | false =>
   intro h; replace h := cF h
   refine WO.pn 1 rfl ?_
   refine WO.ls rfl rfl rfl rfl ?_
   refine WO.pn 1 rfl ?_
   refine WO.ls rfl rfl rfl rfl ?_
   refine WO.pn 1 rfl ?_
   obtain rfl := Option.some.inj h
   exact WO.met _ trivial ⟨rfl, _, (Stp.refl _ _).wk rfl⟩ fun a ha => (ha.more (ha.more ha.nil rfl) rfl)
 rintro _ w41 _ ⟨rfl, K42, S43⟩
 have h := hK30
 refine WO.pn 1 rfl ?_
 refine WO.fin ?_
 refine DN.seq ?_
 refine WC.ret ?_
 have f44 := hE.stp (S3.tr (S9.tr (S15.tr (S29.tr S43)))) rfl rfl
 refine DN.res (l := [.tmp 4]) Try.results105 (res_tmp rfl rfl) rfl ?_
 obtain rfl := Option.some.inj h
 exact ⟨K42, rfl, f44⟩

end Go.Proofs.Ytgniipbjjkodaaa
