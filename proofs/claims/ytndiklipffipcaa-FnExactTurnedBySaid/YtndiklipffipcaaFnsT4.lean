/- The walks, part 4. By program. -/
import Derived.Test.YtndiklipffipcaaSort
import Derived.Test.YtndiklipffipcaaShelf
import Derived.Test.YtndiklipffipcaaFnsT2
import Derived.Test.YtndiklipffipcaaFnsT3
set_option linter.unusedVariables false
set_option linter.unusedSimpArgs false
namespace Go.Proofs.Ytndiklipffipcaa
open Go Go.Wk Go.Proofs
set_option maxRecDepth 100000
set_option maxHeartbeats 1000000

/- loop.example/g00869/spec.l7Attract -/
theorem s_l7Attract_ok {w : World} {κ : Col} {a0_0 : Option Addr} {u0_0 : Nat} {a0_1 : Option Addr} {u0_1 : Nat} {a0_2 : Option Addr} {u0_2 : Nat} {a0_3 : Option Addr} {u0_3 : Nat} {a0_4 : Option Addr} {u0_4 : Nat} {p0 : l7Game} {a1 : Option Addr} {u1 : Nat} {p1 : (List Bool)} {p2 : Int} {a3 : Option Addr} {u3 : Nat} {p3 : (List Bool)} (g0_0 : Rd (Rp.int .i64) κ w 0 a0_0 u0_0 p0.owner) (g0_1 : Rd (Rp.int .i64) κ w 0 a0_1 u0_1 p0.prio) (g0_2 : Rd (Rp.sl (Rp.int .i64)) κ w 0 a0_2 u0_2 p0.next) (g0_3 : Rd (Rp.sl (Rp.int .i64)) κ w 0 a0_3 u0_3 p0.prev) (g0_4 : Rd (Rp.int .i64) κ w 0 a0_4 u0_4 p0.pick) (g1 : Rd Rp.bool κ w 0 a1 u1 p1) (g3 : Rd Rp.bool κ w 0 a3 u3 p3) {r : (List Bool)} (h : s_l7Attract p0 p1 p2 p3 = some r) : Ret Try.prog 118 [.agg #[.slice a0_0 p0.owner.length u0_0, .slice a0_1 p0.prio.length u0_1, .slice a0_2 p0.next.length u0_2, .slice a0_3 p0.prev.length u0_3, .slice a0_4 p0.pick.length u0_4], .slice a1 p1.length u1, .int .i64 p2, .slice a3 p3.length u3] w (fun v w' => ∃ (κ' : Col) (ra0 : Option Addr) (ru0 : Nat), v = .slice ra0 r.length ru0 ∧ Ent κ w κ' w' ∧ Oc Ep.bool 4 κ' w' 2 ra0 ru0 r) := by
 unfold s_l7Attract at h
 refine Ret.enter Try.func118 rfl Try.ntmps118 rfl ?_
 dsimp only [envOf]
 have hE := Ent.refl κ w
 refine WC.seq ?_
 refine WC.rs [(0, 1), (1, 2)] rfl ?_
 refine WO.box (κ := κ) 2 rfl rfl rfl rfl rfl rfl rfl fun b4 w1 K2 S3 f4 => ⟨trivial, ?_⟩
 refine WO.pn 1 rfl ?_
 refine WO.fin ?_
 refine DN.seq ?_
 refine WC.seq ?_
 refine WC.rs [(0, 2), (1, 2), (2, 1), (3, 2)] rfl ?_
 refine WO.pn 1 rfl ?_
 refine WO.k2 rfl rfl rfl rfl (rn_len Try.runUnderlying118 rfl rfl) ?_
 obtain ⟨x19, hx19, h⟩ := Option.bind_eq_some_iff.mp h
 refine WO.mk (κ := K2) (E := Ep.bool) (z := (false : Bool)) 3 rfl rfl rfl rfl rfl rfl rfl Try.underlying118 Tryinfo4 rfl rfl rfl rfl rfl (fun _ _ _ => rfl) (mkS_C hx19) fun a19 u19 w5 K6 S7 f8 => ⟨trivial, ?_⟩
 refine WO.pn 1 rfl ?_
 refine WO.fin ?_
 refine DN.seq ?_
 refine WC.seq ?_
 refine WC.rs [(0, 2), (1, 2), (2, 1), (3, 2)] rfl ?_
 refine WO.pn 1 rfl ?_
 refine WO.k2 rfl rfl rfl rfl (rn_len Try.runUnderlying118 rfl rfl) ?_
 obtain ⟨x22, hx22, h⟩ := Option.bind_eq_some_iff.mp h
 refine WO.mk (κ := K6) (E := (Ep.int .i64)) (z := (0 : Int)) 4 rfl rfl rfl rfl rfl rfl rfl Try.underlying22 Tryinfo2 rfl rfl rfl rfl rfl (fun _ _ _ => rfl) (mkS_C hx22) fun a22 u22 w9 K10 S11 f12 => ⟨trivial, ?_⟩
 refine WO.pn 1 rfl ?_
 refine WO.fin ?_
 refine DN.seq ?_
 refine WC.seq ?_
 refine WC.rs [(0, 1), (1, 2)] rfl ?_
 refine WO.bl0 (κ := K10) (E := (Ep.int .i64)) 5 rfl rfl rfl rfl rfl Try.underlying22 Tryinfo2 rfl fun a23 u23 w13 K14 S15 f16 => ⟨trivial, ?_⟩
 refine WO.pn 1 rfl ?_
 refine WO.fin ?_
 refine DN.seq ?_
 refine WC.seq ?_
 refine WC.seq ?_
 refine WC.rs [(0, 2)] rfl ?_
 refine WO.pn 1 rfl ?_
 refine WO.fin ?_
 refine DN.seq ?_
 have hN17 : (p1.length : Int) ≤ 9223372036854775807 := g1.len_le
 obtain ⟨q2, hq19, hK18⟩ := Option.bind_eq_some_iff.mp h
 clear h
 refine WC.meet (fun L w' => ∃ (κ' : Col) (s3 : (List Int) × (List Bool) × (List Int)) (las3_0 : Option Addr) (lus3_0 : Nat), L = [(1, .slice a1 p1.length u1), (2, .int .i64 p2), (4, .pointer (some ⟨b4, 0, none⟩)), (9, .slice a19 x19.length u19), (10, .slice a22 x22.length u22), (11, .slice las3_0 s3.1.length lus3_0)] ∧ Stp [3, 4, 5] K14 w13 κ' w' ∧ Oc (Ep.int .i64) 2 κ' w' 5 las3_0 lus3_0 s3.1 ∧ Oc Ep.bool 4 κ' w' 3 a19 u19 s3.2.1 ∧ x19.length = s3.2.1.length ∧ Oc (Ep.int .i64) 2 κ' w' 4 a22 u22 s3.2.2 ∧ x22.length = s3.2.2.length ∧ q2 = Sum.inr s3) ?_ ?_
 ·
  refine WC.block ?_
  have f36 := f8.stp (S11.tr S15) rfl rfl
  have f37 := f12.stp S15 rfl rfl
  refine WC.loop (fun k L w' => ∃ (κ' : Col) (v12 : Int) (s1 : (List Int) × (List Bool) × (List Int)) (las1_0 : Option Addr) (lus1_0 : Nat), L = [(1, .slice a1 p1.length u1), (2, .int .i64 p2), (3, .slice a3 p3.length u3), (4, .pointer (some ⟨b4, 0, none⟩)), (9, .slice a19 x19.length u19), (10, .slice a22 x22.length u22), (11, .slice las1_0 s1.1.length lus1_0), (12, .int .i64 v12)] ∧ Stp [3, 4, 5] K14 w13 κ' w' ∧ Oc (Ep.int .i64) 2 κ' w' 5 las1_0 lus1_0 s1.1 ∧ Oc Ep.bool 4 κ' w' 3 a19 u19 s1.2.1 ∧ x19.length = s1.2.1.length ∧ Oc (Ep.int .i64) 2 κ' w' 4 a22 u22 s1.2.2 ∧ x22.length = s1.2.2.length ∧ 0 ≤ v12 ∧ Int.toNat ((p1.length : Int) - v12) = k ∧ cntM (s_l7Attract_b0 p0 p1 p3) k v12 s1 = some q2) ⟨_, _, ⟨K14, 0, ((([] : List Int) : (List Int)), (x19 : (List Bool)), (x22 : (List Int))), a23, u23, rfl, (Stp.refl _ _).wk rfl, f16, f36, rfl, f37, rfl, (by decide), (by simp), hq19⟩, fun a ha => (ha.more (ha.more (ha.more (ha.more (ha.more (ha.more (ha.more (ha.more ha.nil rfl) rfl) rfl) rfl) rfl) rfl) rfl) rfl)⟩ ?_
  rintro k _ w28 ⟨K29, v12, s1, las1_0, lus1_0, rfl, S30, f31, f32, hn33, f34, hn35, hj17, hJ17, h⟩
  rcases k with _ | k
  ·
   have hk38 := h; obtain ⟨o17, h⟩ := ex_eq (Sum.inr (Sum.inl s1) : (List Bool) ⊕ (((List Int) × (List Bool) × (List Int)) ⊕ ((List Int) × (List Bool) × (List Int))))
   have hc17 : decide (v12 < (p1.length : Int)) = false := decide_eq_false (by omega)
   refine WC.seq ?_
   refine WC.seq ?_
   refine WC.rs [(0, 2), (1, 2), (2, 2), (3, 2)] rfl ?_
   refine WO.pn 2 rfl ?_
   refine WO.k2 rfl rfl rfl rfl (rn_len Try.runUnderlying118 rfl rfl) ?_
   refine WO.pn 1 rfl ?_
   refine WO.fin ?_
   refine DN.seq ?_
   refine WC.cf' rfl hc17 ?_
   refine WC.exit ?_
   refine DN.exitThen ?_
   refine DN.exitThen ?_
   obtain rfl := Option.some.inj h
   have h := hk38
   refine DN.hit ?_
   obtain rfl := Option.some.inj h
   exact DN.meet _ ⟨K29, ((s1.1 : (List Int)), (s1.2.1 : (List Bool)), (s1.2.2 : (List Int))), las1_0, lus1_0, rfl, S30.wk rfl, f31, f32, hn33, f34, hn35, rfl⟩ fun a ha => (ha.more (ha.more (ha.more (ha.more (ha.more (ha.more ha.nil rfl) rfl) rfl) rfl) rfl) rfl)
  ·
   obtain ⟨o17, h, hk38⟩ := Option.bind_eq_some_iff.mp h; unfold s_l7Attract_b0 at h
   have hc17 : decide (v12 < (p1.length : Int)) = true := decide_eq_true (by omega)
   refine WC.seq ?_
   refine WC.seq ?_
   refine WC.rs [(0, 2), (1, 2), (2, 2), (3, 2)] rfl ?_
   refine WO.pn 2 rfl ?_
   refine WO.k2 rfl rfl rfl rfl (rn_len Try.runUnderlying118 rfl rfl) ?_
   refine WO.pn 1 rfl ?_
   refine WO.fin ?_
   refine DN.seq ?_
   refine WC.ct' rfl hc17 ?_
   refine WC.skip ?_
   refine DN.seq ?_
   refine WC.seq ?_
   refine WC.block ?_
   refine WC.seq ?_
   refine WC.seq ?_
   refine WC.rs [(0, 2), (1, 2), (2, 2), (3, 1)] rfl ?_
   refine WO.pn 2 rfl ?_
   obtain ⟨x32, hx32, h⟩ := Option.bind_eq_some_iff.mp h
   refine WO.k2 rfl rfl rfl rfl (rn_index g1 hx32 Try.runUnderlying118 Try.sizeOf4 rfl rfl rfl rfl) ?_
   have f39 := g1.stp (S3.tr (S7.tr (S11.tr (S15.tr S30)))) rfl rfl
   refine WO.k1 trivial rfl rfl rfl rfl (rn_ld Try.isAgg4 rfl rfl (hvE (f39.gBool hx32))) ?_
   refine WO.fin ?_
   refine DN.seq ?_
   obtain ⟨q4, h, hK40⟩ := Option.bind_eq_some_iff.mp h
   refine WC.meet (fun L w' => ∃ (κ' : Col), L = [(1, .slice a1 p1.length u1), (2, .int .i64 p2), (3, .slice a3 p3.length u3), (4, .pointer (some ⟨b4, 0, none⟩)), (9, .slice a19 x19.length u19), (10, .slice a22 x22.length u22), (11, .slice las1_0 s1.1.length lus1_0), (12, .int .i64 v12)] ∧ Stp [4] K29 w28 κ' w' ∧ Oc (Ep.int .i64) 2 κ' w' 4 a22 u22 q4 ∧ x22.length = q4.length) ?_ ?_
   ·
    revert h
    cases ht46 : x32 with
    | true =>
     intro h; replace h := cT h
     refine WC.ct rfl ?_
     refine WC.rs [(0, 2), (1, 2), (2, 1), (3, 2), (4, 2), (5, 1), (6, 2), (7, 1)] rfl ?_
     refine WO.pn 2 rfl ?_
     have f47 := f4.stp (S7.tr (S11.tr (S15.tr S30))) rfl rfl
     refine WO.k1 trivial rfl rfl rfl rfl (rn_la (cs := [.slice a0_0 p0.owner.length u0_0, .slice a0_1 p0.prio.length u0_1, .slice a0_2 p0.next.length u0_2, .slice a0_3 p0.prev.length u0_3, .slice a0_4 p0.pick.length u0_4]) Try.isAgg121 Try.sizeOf121 rfl rfl rfl (haE f47.cells)) ?_
     refine WO.pn 2 rfl ?_
     obtain ⟨x39, hx39, h⟩ := Option.bind_eq_some_iff.mp h
     have f48 := g0_0.stp (S3.tr (S7.tr (S11.tr (S15.tr S30)))) rfl rfl
     have f49 := g0_1.stp (S3.tr (S7.tr (S11.tr (S15.tr S30)))) rfl rfl
     have f50 := g0_2.stp (S3.tr (S7.tr (S11.tr (S15.tr S30)))) rfl rfl
     have f51 := g0_3.stp (S3.tr (S7.tr (S11.tr (S15.tr S30)))) rfl rfl
     have f52 := g0_4.stp (S3.tr (S7.tr (S11.tr (S15.tr S30)))) rfl rfl
     refine WO.call rfl rfl rfl rfl rfl rfl Try.call151 (s_l7Degree_ok (κ := fun b => mp [] 0 (K29 b)) (p0 := p0) (Sl.map f48 (mp [] 0) rfl rfl) (Sl.map f49 (mp [] 0) rfl rfl) (Sl.map f50 (mp [] 0) rfl rfl) (Sl.map f51 (mp [] 0) rfl rfl) (Sl.map f52 (mp [] 0) rfl rfl) (Sl.map f39 (mp [] 0) rfl rfl) hx39) ?_
     rintro _ w53 ⟨k54, rfl, e55⟩
     obtain ⟨K56, S57, m58⟩ := Ent.mixed (l := []) (κ := K29) e55 6 rfl
     refine ⟨trivial, ?_⟩
     obtain ⟨x40, hx40, h⟩ := Option.bind_eq_some_iff.mp h
     refine WO.k2 rfl rfl rfl rfl (rn_index f34.rdc hx40 Try.runUnderlying22 Try.sizeOf2 rfl rfl hn35 rfl) ?_
     have f60 := f34.stp S57 rfl rfl
     obtain ⟨y18, hy18, h⟩ := Option.bind_eq_some_iff.mp h
     refine WO.stI (κ := K56) (E := (Ep.int .i64)) 4 [] rfl rfl rfl rfl rfl rfl rfl rfl Try.sizeOf2 rfl rfl rfl rfl f60 hy18 fun w61 K62 S63 f64 => ⟨trivial, ?_⟩
     have hn65 : x22.length = y18.length := hn35.trans (setI_ok hy18).2.2.2.symm
     refine WO.fin ?_
     obtain rfl := Option.some.inj h
     exact DN.meet _ ⟨K62, rfl, (S57.tr S63).wk rfl, f64, hn65⟩ fun a ha => (ha.more (ha.more (ha.more (ha.more (ha.more (ha.more (ha.more (ha.more ha.nil rfl) rfl) rfl) rfl) rfl) rfl) rfl) rfl)
    | false =>
     intro h; replace h := cF h
     refine WC.cf rfl ?_
     refine WC.skip ?_
     obtain rfl := Option.some.inj h
     exact DN.meet _ ⟨K29, rfl, (Stp.refl _ _).wk rfl, f34, hn35⟩ fun a ha => (ha.more (ha.more (ha.more (ha.more (ha.more (ha.more (ha.more (ha.more ha.nil rfl) rfl) rfl) rfl) rfl) rfl) rfl) rfl)
   rintro _ w41 ⟨K42, rfl, S43, f44, hn45⟩
   have h := hK40
   refine DN.seq ?_
   refine WC.seq ?_
   refine WC.rs [(0, 2), (1, 2), (2, 2), (3, 1), (4, 2), (5, 2), (6, 2), (7, 2), (8, 1), (9, 2)] rfl ?_
   refine WO.pn 2 rfl ?_
   obtain ⟨x43, hx43, h⟩ := Option.bind_eq_some_iff.mp h
   refine WO.k2 rfl rfl rfl rfl (rn_index f39 hx43 Try.runUnderlying118 Try.sizeOf4 rfl rfl rfl rfl) ?_
   have f66 := f39.stp S43 rfl rfl
   refine WO.k1 trivial rfl rfl rfl rfl (rn_ld Try.isAgg4 rfl rfl (hvE (f66.gBool hx43))) ?_
   refine WO.pn 1 rfl ?_
   obtain ⟨p50, h, hK67⟩ := Option.bind_eq_some_iff.mp h
   refine WO.meet [(5, 2), (6, 2), (7, 2), (8, 1), (9, 2)] [] (fun L w' => L = [(1, .slice a1 p1.length u1), (2, .int .i64 p2), (3, .slice a3 p3.length u3), (4, .pointer (some ⟨b4, 0, none⟩)), (9, .slice a19 x19.length u19), (10, .slice a22 x22.length u22), (11, .slice las1_0 s1.1.length lus1_0), (12, .int .i64 v12), (50, .bool p50)] ∧ ∃ κ', Stp [] K42 w41 κ' w') trivial ?_ ?_
   ·
    revert h
    cases ht68 : x43 with
    | true =>
     intro h; replace h := cT h
     refine WO.pn 2 rfl ?_
     obtain ⟨x48, hx48, h⟩ := Option.bind_eq_some_iff.mp h
     refine WO.k2 rfl rfl rfl rfl (rn_index g3 hx48 Try.runUnderlying118 Try.sizeOf4 rfl rfl rfl rfl) ?_
     have f69 := g3.stp (S3.tr (S7.tr (S11.tr (S15.tr (S30.tr S43))))) rfl rfl
     refine WO.k1 trivial rfl rfl rfl rfl (rn_ld Try.isAgg4 rfl rfl (hvE (f69.gBool hx48))) ?_
     refine WO.pn 1 rfl ?_
     obtain rfl := Option.some.inj h
     exact WO.met _ trivial ⟨rfl, _, (Stp.refl _ _).wk rfl⟩ fun a ha => (ha.more (ha.more (ha.more (ha.more (ha.more (ha.more (ha.more (ha.more (ha.more ha.nil rfl) rfl) rfl) rfl) rfl) rfl) rfl) rfl) rfl)
    | false =>
     intro h; replace h := cF h
     refine WO.pn 3 rfl ?_
     refine WO.ls rfl rfl rfl rfl ?_
     refine WO.pn 1 rfl ?_
     obtain rfl := Option.some.inj h
     exact WO.met _ trivial ⟨rfl, _, (Stp.refl _ _).wk rfl⟩ fun a ha => (ha.more (ha.more (ha.more (ha.more (ha.more (ha.more (ha.more (ha.more (ha.more ha.nil rfl) rfl) rfl) rfl) rfl) rfl) rfl) rfl) rfl)
   rintro _ w70 _ ⟨rfl, K71, S72⟩
   have h := hK67
   refine WO.fin ?_
   refine DN.seq ?_
   obtain ⟨q5, h, hK73⟩ := Option.bind_eq_some_iff.mp h
   refine WC.meet (fun L w' => ∃ (κ' : Col) (laq5_0 : Option Addr) (luq5_0 : Nat), L = [(1, .slice a1 p1.length u1), (2, .int .i64 p2), (3, .slice a3 p3.length u3), (4, .pointer (some ⟨b4, 0, none⟩)), (9, .slice a19 x19.length u19), (10, .slice a22 x22.length u22), (11, .slice laq5_0 q5.1.length luq5_0), (12, .int .i64 v12)] ∧ Stp [3, 5] K71 w70 κ' w' ∧ Oc (Ep.int .i64) 2 κ' w' 5 laq5_0 luq5_0 q5.1 ∧ Oc Ep.bool 4 κ' w' 3 a19 u19 q5.2 ∧ x19.length = q5.2.length) ?_ ?_
   ·
    revert h
    cases ht80 : p50 with
    | true =>
     intro h; replace h := cT h
     refine WC.ct rfl ?_
     refine WC.seq ?_
     refine WC.rs [(0, 2), (1, 2), (2, 2), (3, 1)] rfl ?_
     refine WO.pn 2 rfl ?_
     obtain ⟨x53, hx53, h⟩ := Option.bind_eq_some_iff.mp h
     refine WO.k2 rfl rfl rfl rfl (rn_index f32.rdc hx53 Try.runUnderlying118 Try.sizeOf4 rfl rfl hn33 rfl) ?_
     have f81 := f32.stp (S43.tr S72) rfl rfl
     obtain ⟨y19, hy19, h⟩ := Option.bind_eq_some_iff.mp h
     refine WO.stI (κ := K71) (E := Ep.bool) 3 [] rfl rfl rfl rfl rfl rfl rfl rfl Try.sizeOf4 rfl rfl rfl rfl f81 hy19 fun w82 K83 S84 f85 => ⟨trivial, ?_⟩
     have hn86 : x19.length = y19.length := hn33.trans (setI_ok hy19).2.2.2.symm
     refine WO.fin ?_
     refine DN.seq ?_
     refine WC.rs [(0, 2), (1, 2), (2, 1), (3, 1), (4, 2)] rfl ?_
     refine WO.pn 2 rfl ?_
     refine WO.bl (κ := K83) (E := (Ep.int .i64)) 6 [] (parts := [(0, .tmp 55)]) (cells := [.int .i64 v12]) (xs := ([v12] : List Int)) rfl rfl rfl rfl rfl rfl Try.underlying22 Tryinfo2 rfl rfl rfl rfl rfl rfl rfl rfl rfl rfl ⟨[.int .i64 v12], [], Zl K83 w82 [], Zl K83 w82 [], rfl, Zl.sp (l1 := []) (l2 := []) rfl, Zl.sr (l1 := []) (l2 := []), rfl, rfl⟩ fun a56 u56 w87 K88 S89 f90 => ⟨trivial, ?_⟩
     obtain ⟨x57, hx57, h⟩ := Option.bind_eq_some_iff.mp h
     have f91 := f31.stp (S43.tr (S72.tr (S84.tr S89))) rfl rfl
     refine WO.app (κ := K88) (E := (Ep.int .i64)) 5 [] rfl rfl rfl rfl rfl rfl rfl rfl rfl Try.underlying22 Tryinfo2 rfl rfl rfl rfl f91 (Sl.srcP (pu_int _) f90.rdc) sy_false hx57 rfl fun a57 u57 w92 K93 S94 f95 => ⟨trivial, ?_⟩
     refine WO.pn 1 rfl ?_
     refine WO.fin ?_
     have f96 := f85.stp (S89.tr S94) rfl rfl
     obtain rfl := Option.some.inj h
     exact DN.meet _ ⟨K93, a57, u57, rfl, (S84.tr (S89.tr S94)).wk rfl, f95, f96, hn86⟩ fun a ha => (ha.more (ha.more (ha.more (ha.more (ha.more (ha.more (ha.more (ha.more ha.nil rfl) rfl) rfl) rfl) rfl) rfl) rfl) rfl)
    | false =>
     intro h; replace h := cF h
     refine WC.cf rfl ?_
     refine WC.skip ?_
     have f97 := f31.stp (S43.tr S72) rfl rfl
     have f98 := f32.stp (S43.tr S72) rfl rfl
     obtain rfl := Option.some.inj h
     exact DN.meet _ ⟨K71, las1_0, lus1_0, rfl, (Stp.refl _ _).wk rfl, f97, f98, hn33⟩ fun a ha => (ha.more (ha.more (ha.more (ha.more (ha.more (ha.more (ha.more (ha.more ha.nil rfl) rfl) rfl) rfl) rfl) rfl) rfl) rfl)
   rintro _ w74 ⟨K75, laq5_0, luq5_0, rfl, S76, f77, f78, hn79⟩
   have h := hK73
   refine DN.block ?_
   refine DN.seq ?_
   refine WC.rs [(0, 2), (1, 2), (2, 2)] rfl ?_
   refine WO.pn 3 rfl ?_
   refine WO.fin ?_
   have hw17 : IntKind.wrap .i64 (v12 + 1) = v12 + 1 := wr1 hj17 (of_decide_eq_true hc17) hN17
   rw [hw17]
   have hc17 := of_decide_eq_true hc17
   have f99 := f44.stp (S72.tr S76) rfl rfl
   obtain rfl := Option.some.inj h
   refine DN.round fun a ha => ?_
   exact ⟨k, _, Nat.lt_succ_self _, ⟨K75, v12 + 1, ((q5.1 : (List Int)), (q5.2 : (List Bool)), (q4 : (List Int))), laq5_0, luq5_0, rfl, (S30.tr (S43.tr (S72.tr S76))).wk rfl, f77, f78, hn79, f99, hn45, by omega, by omega, hk38⟩, (ha.more (ha.more (ha.more (ha.more (ha.more (ha.more (ha.more (ha.more ha.nil rfl) rfl) rfl) rfl) rfl) rfl) rfl) rfl)⟩
 rintro _ w20 ⟨K21, s3, las3_0, lus3_0, rfl, S22, f23, f24, hn25, f26, hn27, rfl⟩
 have h := hK18
 dsimp only [aft] at h
 refine DN.seq ?_
 refine WC.seq ?_
 refine WC.seq ?_
 refine WC.rs [(0, 2)] rfl ?_
 refine WO.pn 1 rfl ?_
 refine WO.fin ?_
 refine DN.seq ?_
 obtain ⟨q7, hq102, hK101⟩ := Option.bind_eq_some_iff.mp h
 clear h
 refine WC.meet (fun L w' => ∃ (κ' : Col) (s8 : (List Int) × Int × (List Bool) × (List Int)) (las8_0 : Option Addr) (lus8_0 : Nat), L = [(9, .slice a19 x19.length u19)] ∧ Stp [3, 4, 5] K21 w20 κ' w' ∧ Oc (Ep.int .i64) 2 κ' w' 5 las8_0 lus8_0 s8.1 ∧ Oc Ep.bool 4 κ' w' 3 a19 u19 s8.2.2.1 ∧ x19.length = s8.2.2.1.length ∧ Oc (Ep.int .i64) 2 κ' w' 4 a22 u22 s8.2.2.2 ∧ x22.length = s8.2.2.2.length ∧ q7 = Sum.inr s8) ?_ ?_
 ·
  refine WC.block ?_
  refine WC.loop (fun k L w' => ∃ (κ' : Col) (s6 : (List Int) × Int × (List Bool) × (List Int)) (las6_0 : Option Addr) (lus6_0 : Nat), L = [(1, .slice a1 p1.length u1), (2, .int .i64 p2), (4, .pointer (some ⟨b4, 0, none⟩)), (9, .slice a19 x19.length u19), (10, .slice a22 x22.length u22), (11, .slice las6_0 s6.1.length lus6_0), (13, .int .i64 s6.2.1)] ∧ Stp [3, 4, 5] K21 w20 κ' w' ∧ Oc (Ep.int .i64) 2 κ' w' 5 las6_0 lus6_0 s6.1 ∧ Oc Ep.bool 4 κ' w' 3 a19 u19 s6.2.2.1 ∧ x19.length = s6.2.2.1.length ∧ Oc (Ep.int .i64) 2 κ' w' 4 a22 u22 s6.2.2.2 ∧ x22.length = s6.2.2.2.length ∧ whileM (s_l7Attract_b2 p0 p1 p2) k s6 = some q7) ⟨_, _, ⟨K21, ((s3.1 : (List Int)), (0 : Int), (s3.2.1 : (List Bool)), (s3.2.2 : (List Int))), las3_0, lus3_0, rfl, (Stp.refl _ _).wk rfl, f23, f24, hn25, f26, hn27, hq102⟩, fun a ha => (ha.more (ha.more (ha.more (ha.more (ha.more (ha.more (ha.more ha.nil rfl) rfl) rfl) rfl) rfl) rfl) rfl)⟩ ?_
  rintro k _ w111 ⟨K112, s6, las6_0, lus6_0, rfl, S113, f114, f115, hn116, f117, hn118, h⟩
  rcases k with _ | k
  ·
   cases h
  ·
   obtain ⟨o100, h, hk119⟩ := Option.bind_eq_some_iff.mp h; unfold s_l7Attract_b2 at h
   refine WC.seq ?_
   refine WC.seq ?_
   refine WC.rs [(0, 2), (1, 2), (2, 2), (3, 2)] rfl ?_
   refine WO.pn 2 rfl ?_
   refine WO.k2 rfl rfl rfl rfl (rn_len Try.runUnderlying22 rfl rfl) ?_
   refine WO.pn 1 rfl ?_
   refine WO.fin ?_
   refine DN.seq ?_
   revert h
   cases ht120 : decide (s6.2.1 < (s6.1.length : Int)) with
   | true =>
    intro h; replace h := cT h
    refine WC.ct rfl ?_
    refine WC.skip ?_
    refine DN.seq ?_
    refine WC.seq ?_
    refine WC.block ?_
    refine WC.seq ?_
    refine WC.rs [(0, 2), (1, 2), (2, 2), (3, 1), (4, 2)] rfl ?_
    refine WO.pn 2 rfl ?_
    obtain ⟨x66, hx66, h⟩ := Option.bind_eq_some_iff.mp h
    refine WO.k2 rfl rfl rfl rfl (rn_index f114.rdc hx66 Try.runUnderlying22 Try.sizeOf2 rfl rfl rfl rfl) ?_
    refine WO.k1 trivial rfl rfl rfl rfl (rn_ld Try.isAgg2 rfl rfl (hvE (f114.rdc.gInt hx66))) ?_
    refine WO.pn 1 rfl ?_
    refine WO.fin ?_
    refine DN.seq ?_
    refine WC.seq ?_
    refine WC.rs [(0, 2)] rfl ?_
    refine WO.pn 1 rfl ?_
    refine WO.fin ?_
    refine DN.seq ?_
    obtain ⟨q10, hq123, hK122⟩ := Option.bind_eq_some_iff.mp h
    clear h
    refine WC.meet (fun L w' => ∃ (κ' : Col) (s11 : (List Int) × Int × (List Bool) × (List Int)) (las11_0 : Option Addr) (lus11_0 : Nat), L = [(1, .slice a1 p1.length u1), (2, .int .i64 p2), (4, .pointer (some ⟨b4, 0, none⟩)), (9, .slice a19 x19.length u19), (10, .slice a22 x22.length u22), (11, .slice las11_0 s11.1.length lus11_0), (13, .int .i64 s6.2.1)] ∧ Stp [3, 4, 5] K112 w111 κ' w' ∧ Oc (Ep.int .i64) 2 κ' w' 5 las11_0 lus11_0 s11.1 ∧ Oc Ep.bool 4 κ' w' 3 a19 u19 s11.2.2.1 ∧ x19.length = s11.2.2.1.length ∧ Oc (Ep.int .i64) 2 κ' w' 4 a22 u22 s11.2.2.2 ∧ x22.length = s11.2.2.2.length ∧ q10 = Sum.inr s11) ?_ ?_
    ·
     refine WC.block ?_
     refine WC.loop (fun k L w' => ∃ (κ' : Col) (s9 : (List Int) × Int × (List Bool) × (List Int)) (las9_0 : Option Addr) (lus9_0 : Nat), L = [(1, .slice a1 p1.length u1), (2, .int .i64 p2), (4, .pointer (some ⟨b4, 0, none⟩)), (9, .slice a19 x19.length u19), (10, .slice a22 x22.length u22), (11, .slice las9_0 s9.1.length lus9_0), (13, .int .i64 s6.2.1), (14, .int .i64 x66), (15, .int .i64 s9.2.1)] ∧ Stp [3, 4, 5] K112 w111 κ' w' ∧ Oc (Ep.int .i64) 2 κ' w' 5 las9_0 lus9_0 s9.1 ∧ Oc Ep.bool 4 κ' w' 3 a19 u19 s9.2.2.1 ∧ x19.length = s9.2.2.1.length ∧ Oc (Ep.int .i64) 2 κ' w' 4 a22 u22 s9.2.2.2 ∧ x22.length = s9.2.2.2.length ∧ whileM (s_l7Attract_b4 p0 p1 p2 x66) k s9 = some q10) ⟨_, _, ⟨K112, ((s6.1 : (List Int)), (0 : Int), (s6.2.2.1 : (List Bool)), (s6.2.2.2 : (List Int))), las6_0, lus6_0, rfl, (Stp.refl _ _).wk rfl, f114, f115, hn116, f117, hn118, hq123⟩, fun a ha => (ha.more (ha.more (ha.more (ha.more (ha.more (ha.more (ha.more (ha.more (ha.more ha.nil rfl) rfl) rfl) rfl) rfl) rfl) rfl) rfl) rfl)⟩ ?_
     rintro k _ w132 ⟨K133, s9, las9_0, lus9_0, rfl, S134, f135, f136, hn137, f138, hn139, h⟩
     rcases k with _ | k
     ·
      cases h
     ·
      obtain ⟨o121, h, hk140⟩ := Option.bind_eq_some_iff.mp h; unfold s_l7Attract_b4 at h
      refine WC.seq ?_
      refine WC.seq ?_
      refine WC.rs [(0, 2), (1, 2), (2, 1), (3, 2), (4, 2), (5, 1), (6, 2), (7, 2)] rfl ?_
      refine WO.pn 1 rfl ?_
      refine WO.k2 rfl rfl rfl rfl (rn_fieldAddr Try.runUnderlying121 rfl Try.sizeOf23 rfl rfl) ?_
      have f141 := f4.stp (S7.tr (S11.tr (S15.tr (S22.tr (S113.tr S134))))) rfl rfl
      refine WO.k1 trivial rfl rfl rfl rfl (rn_ld Try.isAgg23 rfl rfl (hvE (f141.ld 3 rfl rfl))) ?_
      refine WO.pn 1 rfl ?_
      obtain ⟨x72, hx72, h⟩ := Option.bind_eq_some_iff.mp h
      refine WO.k2 rfl rfl rfl rfl (rn_index g0_3 hx72 Try.runUnderlying23 Try.sizeOf22 rfl rfl rfl rfl) ?_
      have f142 := g0_3.stp (S3.tr (S7.tr (S11.tr (S15.tr (S22.tr (S113.tr S134)))))) rfl rfl
      obtain ⟨ax72, ux72, f143, hl144⟩ := f142.gSl hx72
      refine WO.k1 trivial rfl rfl rfl rfl (rn_ld Try.isAgg22 rfl rfl (hvE hl144)) ?_
      refine WO.k2 rfl rfl rfl rfl (rn_len Try.runUnderlying22 rfl rfl) ?_
      refine WO.pn 1 rfl ?_
      refine WO.fin ?_
      refine DN.seq ?_
      revert h
      cases ht145 : decide (s9.2.1 < (x72.length : Int)) with
      | true =>
       intro h; replace h := cT h
       refine WC.ct rfl ?_
       refine WC.skip ?_
       refine DN.seq ?_
       refine WC.seq ?_
       refine WC.block ?_
       refine WC.seq ?_
       refine WC.rs [(0, 2), (1, 1), (2, 2), (3, 2), (4, 1), (5, 2), (6, 2), (7, 1), (8, 2)] rfl ?_
       refine WO.k2 rfl rfl rfl rfl (rn_fieldAddr Try.runUnderlying121 rfl Try.sizeOf23 rfl rfl) ?_
       refine WO.k1 trivial rfl rfl rfl rfl (rn_ld Try.isAgg23 rfl rfl (hvE (f141.ld 3 rfl rfl))) ?_
       refine WO.pn 1 rfl ?_
       obtain ⟨x81, hx81, h⟩ := Option.bind_eq_some_iff.mp h
       refine WO.k2 rfl rfl rfl rfl (rn_index f142 hx81 Try.runUnderlying23 Try.sizeOf22 rfl rfl rfl rfl) ?_
       obtain ⟨ax81, ux81, f146, hl147⟩ := f142.gSl hx81
       refine WO.k1 trivial rfl rfl rfl rfl (rn_ld Try.isAgg22 rfl rfl (hvE hl147)) ?_
       refine WO.pn 1 rfl ?_
       obtain ⟨x84, hx84, h⟩ := Option.bind_eq_some_iff.mp h
       refine WO.k2 rfl rfl rfl rfl (rn_index f146 hx84 Try.runUnderlying22 Try.sizeOf2 rfl rfl rfl rfl) ?_
       refine WO.k1 trivial rfl rfl rfl rfl (rn_ld Try.isAgg2 rfl rfl (hvE (f146.gInt hx84))) ?_
       refine WO.pn 1 rfl ?_
       refine WO.fin ?_
       refine DN.seq ?_
       refine WC.seq ?_
       refine WC.seq ?_
       refine WC.rs [(0, 2), (1, 2), (2, 2), (3, 1), (4, 2), (5, 2), (6, 2), (7, 2), (8, 2), (9, 1), (10, 2), (11, 2), (12, 1), (13, 2), (14, 2), (15, 1), (16, 2), (17, 2)] rfl ?_
       refine WO.pn 2 rfl ?_
       obtain ⟨x88, hx88, h⟩ := Option.bind_eq_some_iff.mp h
       refine WO.k2 rfl rfl rfl rfl (rn_index g1 hx88 Try.runUnderlying118 Try.sizeOf4 rfl rfl rfl rfl) ?_
       have f148 := g1.stp (S3.tr (S7.tr (S11.tr (S15.tr (S22.tr (S113.tr S134)))))) rfl rfl
       refine WO.k1 trivial rfl rfl rfl rfl (rn_ld Try.isAgg4 rfl rfl (hvE (f148.gBool hx88))) ?_
       refine WO.pn 2 rfl ?_
       obtain ⟨p96, h, hK149⟩ := Option.bind_eq_some_iff.mp h
       refine WO.meet [(6, 2), (7, 2), (8, 2), (9, 1), (10, 2)] [(11, 2), (12, 1), (13, 2), (14, 2), (15, 1), (16, 2), (17, 2)] (fun L w' => L = [(1, .slice a1 p1.length u1), (2, .int .i64 p2), (4, .pointer (some ⟨b4, 0, none⟩)), (9, .slice a19 x19.length u19), (10, .slice a22 x22.length u22), (11, .slice las9_0 s9.1.length lus9_0), (13, .int .i64 s6.2.1), (14, .int .i64 x66), (15, .int .i64 s9.2.1), (16, .int .i64 x84), (96, .bool p96)] ∧ ∃ κ', Stp [] K133 w132 κ' w') trivial ?_ ?_
       ·
        revert h
        cases ht150 : (!x88) with
        | true =>
         intro h; replace h := cT h
         refine WO.pn 3 rfl ?_
         refine WO.ls rfl rfl rfl rfl ?_
         refine WO.pn 1 rfl ?_
         obtain rfl := Option.some.inj h
         exact WO.met _ trivial ⟨rfl, _, (Stp.refl _ _).wk rfl⟩ fun a ha => (ha.more (ha.more (ha.more (ha.more (ha.more (ha.more (ha.more (ha.more (ha.more (ha.more (ha.more ha.nil rfl) rfl) rfl) rfl) rfl) rfl) rfl) rfl) rfl) rfl) rfl)
        | false =>
         intro h; replace h := cF h
         refine WO.pn 2 rfl ?_
         obtain ⟨x94, hx94, h⟩ := Option.bind_eq_some_iff.mp h
         refine WO.k2 rfl rfl rfl rfl (rn_index f136.rdc hx94 Try.runUnderlying118 Try.sizeOf4 rfl rfl hn137 rfl) ?_
         refine WO.k1 trivial rfl rfl rfl rfl (rn_ld Try.isAgg4 rfl rfl (hvE (f136.rdc.gBool hx94))) ?_
         refine WO.pn 1 rfl ?_
         obtain rfl := Option.some.inj h
         exact WO.met _ trivial ⟨rfl, _, (Stp.refl _ _).wk rfl⟩ fun a ha => (ha.more (ha.more (ha.more (ha.more (ha.more (ha.more (ha.more (ha.more (ha.more (ha.more (ha.more ha.nil rfl) rfl) rfl) rfl) rfl) rfl) rfl) rfl) rfl) rfl) rfl)
       rintro _ w151 _ ⟨rfl, K152, S153⟩
       have h := hK149
       refine WO.pn 1 rfl ?_
       obtain ⟨p103, h, hK154⟩ := Option.bind_eq_some_iff.mp h
       refine WO.meet [(12, 1), (13, 2), (14, 2), (15, 1), (16, 2), (17, 2)] [] (fun L w' => L = [(1, .slice a1 p1.length u1), (2, .int .i64 p2), (4, .pointer (some ⟨b4, 0, none⟩)), (9, .slice a19 x19.length u19), (10, .slice a22 x22.length u22), (11, .slice las9_0 s9.1.length lus9_0), (13, .int .i64 s6.2.1), (14, .int .i64 x66), (15, .int .i64 s9.2.1), (16, .int .i64 x84), (103, .bool p103)] ∧ ∃ κ', Stp [] K152 w151 κ' w') trivial ?_ ?_
       ·
        revert h
        cases ht155 : p96 with
        | true =>
         intro h; replace h := cT h
         refine WO.ls rfl rfl rfl rfl ?_
         refine WO.pn 2 rfl ?_
         refine WO.ls rfl rfl rfl rfl ?_
         refine WO.pn 2 rfl ?_
         obtain rfl := Option.some.inj h
         exact WO.met _ trivial ⟨rfl, _, (Stp.refl _ _).wk rfl⟩ fun a ha => (ha.more (ha.more (ha.more (ha.more (ha.more (ha.more (ha.more (ha.more (ha.more (ha.more (ha.more ha.nil rfl) rfl) rfl) rfl) rfl) rfl) rfl) rfl) rfl) rfl) rfl)
        | false =>
         intro h; replace h := cF h
         have f156 := f141.stp S153 rfl rfl
         refine WO.k1 trivial rfl rfl rfl rfl (rn_la (cs := [.slice a0_0 p0.owner.length u0_0, .slice a0_1 p0.prio.length u0_1, .slice a0_2 p0.next.length u0_2, .slice a0_3 p0.prev.length u0_3, .slice a0_4 p0.pick.length u0_4]) Try.isAgg121 Try.sizeOf121 rfl rfl rfl (haE f156.cells)) ?_
         refine WO.pn 2 rfl ?_
         obtain ⟨x101, hx101, h⟩ := Option.bind_eq_some_iff.mp h
         have f157 := g0_0.stp (S3.tr (S7.tr (S11.tr (S15.tr (S22.tr (S113.tr (S134.tr S153))))))) rfl rfl
         have f158 := g0_1.stp (S3.tr (S7.tr (S11.tr (S15.tr (S22.tr (S113.tr (S134.tr S153))))))) rfl rfl
         have f159 := g0_2.stp (S3.tr (S7.tr (S11.tr (S15.tr (S22.tr (S113.tr (S134.tr S153))))))) rfl rfl
         have f160 := f142.stp S153 rfl rfl
         have f161 := g0_4.stp (S3.tr (S7.tr (S11.tr (S15.tr (S22.tr (S113.tr (S134.tr S153))))))) rfl rfl
         refine WO.call rfl rfl rfl rfl rfl rfl Try.call152 (s_l7Edge_ok (κ := fun b => mp [] 0 (K152 b)) (p0 := p0) (Sl.map f157 (mp [] 0) rfl rfl) (Sl.map f158 (mp [] 0) rfl rfl) (Sl.map f159 (mp [] 0) rfl rfl) (Sl.map f160 (mp [] 0) rfl rfl) (Sl.map f161 (mp [] 0) rfl rfl) hx101) ?_
         rintro _ w162 ⟨k163, rfl, e164⟩
         obtain ⟨K165, S166, m167⟩ := Ent.mixed (l := []) (κ := K152) e164 6 rfl
         refine ⟨trivial, ?_⟩
         refine WO.pn 2 rfl ?_
         obtain rfl := Option.some.inj h
         exact WO.met _ trivial ⟨rfl, _, S166.wk rfl⟩ fun a ha => (ha.more (ha.more (ha.more (ha.more (ha.more (ha.more (ha.more (ha.more (ha.more (ha.more (ha.more ha.nil rfl) rfl) rfl) rfl) rfl) rfl) rfl) rfl) rfl) rfl) rfl)
       rintro _ w169 _ ⟨rfl, K170, S171⟩
       have h := hK154
       refine WO.fin ?_
       refine DN.seq ?_
       revert h
       cases ht172 : p103 with
       | true =>
        intro h; replace h := cT h
        refine WC.ct rfl ?_
        refine WC.exit ?_
        refine DN.exitThen ?_
        refine DN.hit ?_
        refine DN.seq ?_
        refine WC.rs [(0, 2), (1, 2), (2, 2)] rfl ?_
        refine WO.pn 3 rfl ?_
        refine WO.fin ?_
        have f173 := f135.stp (S153.tr S171) rfl rfl
        have f174 := f136.stp (S153.tr S171) rfl rfl
        have f175 := f138.stp (S153.tr S171) rfl rfl
        obtain rfl := Option.some.inj h
        refine DN.round fun a ha => ?_
        exact ⟨k, _, Nat.lt_succ_self _, ⟨K170, ((s9.1 : (List Int)), ((IntKind.i64.wrap (s9.2.1 + 1)) : Int), (s9.2.2.1 : (List Bool)), (s9.2.2.2 : (List Int))), las9_0, lus9_0, rfl, (S134.tr (S153.tr S171)).wk rfl, f173, f174, hn137, f175, hn139, hk140⟩, (ha.more (ha.more (ha.more (ha.more (ha.more (ha.more (ha.more (ha.more (ha.more ha.nil rfl) rfl) rfl) rfl) rfl) rfl) rfl) rfl) rfl)⟩
       | false =>
        intro h; replace h := cF h
        refine WC.cf rfl ?_
        refine WC.skip ?_
        refine DN.seq ?_
        refine WC.seq ?_
        refine WC.rs [(0, 2), (1, 2), (2, 2), (3, 1), (4, 2), (5, 2), (6, 1)] rfl ?_
        refine WO.pn 2 rfl ?_
        obtain ⟨x106, hx106, h⟩ := Option.bind_eq_some_iff.mp h
        refine WO.k2 rfl rfl rfl rfl (rn_index f138.rdc hx106 Try.runUnderlying22 Try.sizeOf2 rfl rfl hn139 rfl) ?_
        have f176 := f138.stp (S153.tr S171) rfl rfl
        refine WO.k1 trivial rfl rfl rfl rfl (rn_ld Try.isAgg2 rfl rfl (hvE (f176.rdc.gInt hx106))) ?_
        refine WO.pn 1 rfl ?_
        obtain ⟨x109, hx109, h⟩ := Option.bind_eq_some_iff.mp h
        refine WO.k2 rfl rfl rfl rfl (rn_index f176.rdc hx109 Try.runUnderlying22 Try.sizeOf2 rfl rfl hn139 rfl) ?_
        obtain ⟨y21, hy21, h⟩ := Option.bind_eq_some_iff.mp h
        refine WO.stI (κ := K170) (E := (Ep.int .i64)) 4 [] rfl rfl rfl rfl rfl rfl rfl rfl Try.sizeOf2 rfl rfl rfl rfl f176 hy21 fun w177 K178 S179 f180 => ⟨trivial, ?_⟩
        have hn181 : x22.length = y21.length := hn139.trans (setI_ok hy21).2.2.2.symm
        refine WO.fin ?_
        refine DN.seq ?_
        refine WC.seq ?_
        refine WC.rs [(0, 2), (1, 1), (2, 2), (3, 2), (4, 1), (5, 2), (6, 2), (7, 2), (8, 2), (9, 2), (10, 2), (11, 1), (12, 2), (13, 2)] rfl ?_
        refine WO.k2 rfl rfl rfl rfl (rn_fieldAddr Try.runUnderlying121 rfl Try.sizeOf22 rfl rfl) ?_
        have f182 := f141.stp (S153.tr (S171.tr S179)) rfl rfl
        refine WO.k1 trivial rfl rfl rfl rfl (rn_ld Try.isAgg22 rfl rfl (hvE (f182.ld 0 rfl rfl))) ?_
        refine WO.pn 1 rfl ?_
        obtain ⟨x113, hx113, h⟩ := Option.bind_eq_some_iff.mp h
        refine WO.k2 rfl rfl rfl rfl (rn_index g0_0 hx113 Try.runUnderlying22 Try.sizeOf2 rfl rfl rfl rfl) ?_
        have f183 := g0_0.stp (S3.tr (S7.tr (S11.tr (S15.tr (S22.tr (S113.tr (S134.tr (S153.tr (S171.tr S179))))))))) rfl rfl
        refine WO.k1 trivial rfl rfl rfl rfl (rn_ld Try.isAgg2 rfl rfl (hvE (f183.gInt hx113))) ?_
        refine WO.pn 3 rfl ?_
        obtain ⟨p123, h, hK184⟩ := Option.bind_eq_some_iff.mp h
        refine WO.meet [(8, 2), (9, 2), (10, 2), (11, 1), (12, 2), (13, 2)] [] (fun L w' => L = [(1, .slice a1 p1.length u1), (2, .int .i64 p2), (4, .pointer (some ⟨b4, 0, none⟩)), (9, .slice a19 x19.length u19), (10, .slice a22 x22.length u22), (11, .slice las9_0 s9.1.length lus9_0), (13, .int .i64 s6.2.1), (14, .int .i64 x66), (15, .int .i64 s9.2.1), (16, .int .i64 x84), (123, .bool p123)] ∧ ∃ κ', Stp [] K178 w177 κ' w') trivial ?_ ?_
        ·
         revert h
         cases ht185 : (x113 == p2) with
         | true =>
          intro h; replace h := cT h
          refine WO.pn 3 rfl ?_
          refine WO.ls rfl rfl rfl rfl ?_
          refine WO.pn 2 rfl ?_
          obtain rfl := Option.some.inj h
          exact WO.met _ trivial ⟨rfl, _, (Stp.refl _ _).wk rfl⟩ fun a ha => (ha.more (ha.more (ha.more (ha.more (ha.more (ha.more (ha.more (ha.more (ha.more (ha.more (ha.more ha.nil rfl) rfl) rfl) rfl) rfl) rfl) rfl) rfl) rfl) rfl) rfl)
         | false =>
          intro h; replace h := cF h
          refine WO.pn 2 rfl ?_
          obtain ⟨x120, hx120, h⟩ := Option.bind_eq_some_iff.mp h
          refine WO.k2 rfl rfl rfl rfl (rn_index f180.rdc hx120 Try.runUnderlying22 Try.sizeOf2 rfl rfl hn181 rfl) ?_
          refine WO.k1 trivial rfl rfl rfl rfl (rn_ld Try.isAgg2 rfl rfl (hvE (f180.rdc.gInt hx120))) ?_
          refine WO.pn 2 rfl ?_
          obtain rfl := Option.some.inj h
          exact WO.met _ trivial ⟨rfl, _, (Stp.refl _ _).wk rfl⟩ fun a ha => (ha.more (ha.more (ha.more (ha.more (ha.more (ha.more (ha.more (ha.more (ha.more (ha.more (ha.more ha.nil rfl) rfl) rfl) rfl) rfl) rfl) rfl) rfl) rfl) rfl) rfl)
        rintro _ w186 _ ⟨rfl, K187, S188⟩
        have h := hK184
        refine WO.fin ?_
        refine DN.seq ?_
        obtain ⟨q12, h, hK189⟩ := Option.bind_eq_some_iff.mp h
        refine WC.meet (fun L w' => ∃ (κ' : Col) (laq12_0 : Option Addr) (luq12_0 : Nat), L = [(1, .slice a1 p1.length u1), (2, .int .i64 p2), (4, .pointer (some ⟨b4, 0, none⟩)), (9, .slice a19 x19.length u19), (10, .slice a22 x22.length u22), (11, .slice laq12_0 q12.1.length luq12_0), (13, .int .i64 s6.2.1), (14, .int .i64 x66), (15, .int .i64 s9.2.1)] ∧ Stp [3, 5] K187 w186 κ' w' ∧ Oc (Ep.int .i64) 2 κ' w' 5 laq12_0 luq12_0 q12.1 ∧ Oc Ep.bool 4 κ' w' 3 a19 u19 q12.2 ∧ x19.length = q12.2.length) ?_ ?_
        ·
         revert h
         cases ht196 : p123 with
         | true =>
          intro h; replace h := cT h
          refine WC.ct rfl ?_
          refine WC.seq ?_
          refine WC.rs [(0, 2), (1, 2), (2, 2), (3, 1)] rfl ?_
          refine WO.pn 2 rfl ?_
          obtain ⟨x126, hx126, h⟩ := Option.bind_eq_some_iff.mp h
          refine WO.k2 rfl rfl rfl rfl (rn_index f136.rdc hx126 Try.runUnderlying118 Try.sizeOf4 rfl rfl hn137 rfl) ?_
          have f197 := f136.stp (S153.tr (S171.tr (S179.tr S188))) rfl rfl
          obtain ⟨y22, hy22, h⟩ := Option.bind_eq_some_iff.mp h
          refine WO.stI (κ := K187) (E := Ep.bool) 3 [] rfl rfl rfl rfl rfl rfl rfl rfl Try.sizeOf4 rfl rfl rfl rfl f197 hy22 fun w198 K199 S200 f201 => ⟨trivial, ?_⟩
          have hn202 : x19.length = y22.length := hn137.trans (setI_ok hy22).2.2.2.symm
          refine WO.fin ?_
          refine DN.seq ?_
          refine WC.rs [(0, 2), (1, 2), (2, 1), (3, 1), (4, 2)] rfl ?_
          refine WO.pn 2 rfl ?_
          refine WO.bl (κ := K199) (E := (Ep.int .i64)) 6 [] (parts := [(0, .tmp 128)]) (cells := [.int .i64 x84]) (xs := ([x84] : List Int)) rfl rfl rfl rfl rfl rfl Try.underlying22 Tryinfo2 rfl rfl rfl rfl rfl rfl rfl rfl rfl rfl ⟨[.int .i64 x84], [], Zl K199 w198 [], Zl K199 w198 [], rfl, Zl.sp (l1 := []) (l2 := []) rfl, Zl.sr (l1 := []) (l2 := []), rfl, rfl⟩ fun a129 u129 w203 K204 S205 f206 => ⟨trivial, ?_⟩
          obtain ⟨x130, hx130, h⟩ := Option.bind_eq_some_iff.mp h
          have f207 := f135.stp (S153.tr (S171.tr (S179.tr (S188.tr (S200.tr S205))))) rfl rfl
          refine WO.app (κ := K204) (E := (Ep.int .i64)) 5 [] rfl rfl rfl rfl rfl rfl rfl rfl rfl Try.underlying22 Tryinfo2 rfl rfl rfl rfl f207 (Sl.srcP (pu_int _) f206.rdc) sy_false hx130 rfl fun a130 u130 w208 K209 S210 f211 => ⟨trivial, ?_⟩
          refine WO.pn 1 rfl ?_
          refine WO.fin ?_
          have f212 := f201.stp (S205.tr S210) rfl rfl
          obtain rfl := Option.some.inj h
          exact DN.meet _ ⟨K209, a130, u130, rfl, (S200.tr (S205.tr S210)).wk rfl, f211, f212, hn202⟩ fun a ha => (ha.more (ha.more (ha.more (ha.more (ha.more (ha.more (ha.more (ha.more (ha.more ha.nil rfl) rfl) rfl) rfl) rfl) rfl) rfl) rfl) rfl)
         | false =>
          intro h; replace h := cF h
          refine WC.cf rfl ?_
          refine WC.skip ?_
          have f213 := f135.stp (S153.tr (S171.tr (S179.tr S188))) rfl rfl
          have f214 := f136.stp (S153.tr (S171.tr (S179.tr S188))) rfl rfl
          obtain rfl := Option.some.inj h
          exact DN.meet _ ⟨K187, las9_0, lus9_0, rfl, (Stp.refl _ _).wk rfl, f213, f214, hn137⟩ fun a ha => (ha.more (ha.more (ha.more (ha.more (ha.more (ha.more (ha.more (ha.more (ha.more ha.nil rfl) rfl) rfl) rfl) rfl) rfl) rfl) rfl) rfl)
        rintro _ w190 ⟨K191, laq12_0, luq12_0, rfl, S192, f193, f194, hn195⟩
        have h := hK189
        refine DN.block ?_
        refine DN.seq ?_
        refine WC.rs [(0, 2), (1, 2), (2, 2)] rfl ?_
        refine WO.pn 3 rfl ?_
        refine WO.fin ?_
        have f215 := f180.stp (S188.tr S192) rfl rfl
        obtain rfl := Option.some.inj h
        refine DN.round fun a ha => ?_
        exact ⟨k, _, Nat.lt_succ_self _, ⟨K191, ((q12.1 : (List Int)), ((IntKind.i64.wrap (s9.2.1 + 1)) : Int), (q12.2 : (List Bool)), (y21 : (List Int))), laq12_0, luq12_0, rfl, (S134.tr (S153.tr (S171.tr (S179.tr (S188.tr S192))))).wk rfl, f193, f194, hn195, f215, hn181, hk140⟩, (ha.more (ha.more (ha.more (ha.more (ha.more (ha.more (ha.more (ha.more (ha.more ha.nil rfl) rfl) rfl) rfl) rfl) rfl) rfl) rfl) rfl)⟩
      | false =>
       intro h; replace h := cF h
       refine WC.cf rfl ?_
       refine WC.exit ?_
       refine DN.exitThen ?_
       refine DN.exitThen ?_
       obtain rfl := Option.some.inj h
       have h := hk140
       refine DN.hit ?_
       obtain rfl := Option.some.inj h
       exact DN.meet _ ⟨K133, ((s9.1 : (List Int)), (s9.2.1 : Int), (s9.2.2.1 : (List Bool)), (s9.2.2.2 : (List Int))), las9_0, lus9_0, rfl, S134.wk rfl, f135, f136, hn137, f138, hn139, rfl⟩ fun a ha => (ha.more (ha.more (ha.more (ha.more (ha.more (ha.more (ha.more ha.nil rfl) rfl) rfl) rfl) rfl) rfl) rfl)
    rintro _ w124 ⟨K125, s11, las11_0, lus11_0, rfl, S126, f127, f128, hn129, f130, hn131, rfl⟩
    have h := hK122
    dsimp only [aft] at h
    refine DN.block ?_
    refine DN.seq ?_
    refine WC.rs [(0, 2), (1, 2), (2, 2)] rfl ?_
    refine WO.pn 3 rfl ?_
    refine WO.fin ?_
    obtain rfl := Option.some.inj h
    refine DN.round fun a ha => ?_
    exact ⟨k, _, Nat.lt_succ_self _, ⟨K125, ((s11.1 : (List Int)), ((IntKind.i64.wrap (s6.2.1 + 1)) : Int), (s11.2.2.1 : (List Bool)), (s11.2.2.2 : (List Int))), las11_0, lus11_0, rfl, (S113.tr S126).wk rfl, f127, f128, hn129, f130, hn131, hk119⟩, (ha.more (ha.more (ha.more (ha.more (ha.more (ha.more (ha.more ha.nil rfl) rfl) rfl) rfl) rfl) rfl) rfl)⟩
   | false =>
    intro h; replace h := cF h
    refine WC.cf rfl ?_
    refine WC.exit ?_
    refine DN.exitThen ?_
    refine DN.exitThen ?_
    obtain rfl := Option.some.inj h
    have h := hk119
    refine DN.hit ?_
    obtain rfl := Option.some.inj h
    exact DN.meet _ ⟨K112, ((s6.1 : (List Int)), (s6.2.1 : Int), (s6.2.2.1 : (List Bool)), (s6.2.2.2 : (List Int))), las6_0, lus6_0, rfl, S113.wk rfl, f114, f115, hn116, f117, hn118, rfl⟩ fun a ha => (ha.more ha.nil rfl)
 rintro _ w103 ⟨K104, s8, las8_0, lus8_0, rfl, S105, f106, f107, hn108, f109, hn110, rfl⟩
 have h := hK101
 dsimp only [aft] at h
 refine DN.seq ?_
 refine WC.seq ?_
 refine WC.rs [(0, 2), (1, 2)] rfl ?_
 refine WO.pn 2 rfl ?_
 refine WO.fin ?_
 refine DN.seq ?_
 refine WC.ret ?_
 have f216 := hE.stp (S3.tr (S7.tr (S11.tr (S15.tr (S22.tr S105))))) rfl rfl
 refine DN.res (l := [.tmp 8]) Try.results118 (res_tmp rfl rfl) rfl ?_
 obtain rfl := Option.some.inj h
 exact ⟨(fun b => ren [(3, 2)] (K104 b)), a19, u19, (by simp only [hn108]), (f216.map (ren [(3, 2)]) rfl rfl), (f107.map (ren [(3, 2)]) rfl rfl)⟩

/- loop.example/g00869/spec.l4Copy -/
theorem s_l4Copy_ok {w : World} {κ : Col} {a0_0_0 : Option Addr} {u0_0_0 : Nat} {a0_0_1 : Option Addr} {u0_0_1 : Nat} {a0_1 : Option Addr} {u0_1 : Nat} {p0 : Parity} (g0_0_0 : Rd (Rp.int .i64) κ w 0 a0_0_0 u0_0_0 p0.Arena.Owner) (g0_0_1 : Rd (Rp.sl (Rp.int .i64)) κ w 0 a0_0_1 u0_0_1 p0.Arena.Next) (g0_1 : Rd (Rp.int .i64) κ w 0 a0_1 u0_1 p0.Prio) {r : Parity} (h : s_l4Copy p0 = some r) : Ret Try.prog 81 [.agg #[.slice a0_0_0 p0.Arena.Owner.length u0_0_0, .slice a0_0_1 p0.Arena.Next.length u0_0_1, .slice a0_1 p0.Prio.length u0_1]] w (fun v w' => ∃ (κ' : Col) (ra0 : Option Addr) (ru0 : Nat) (ra1 : Option Addr) (ru1 : Nat) (ra2 : Option Addr) (ru2 : Nat), v = .agg #[.slice ra0 r.Arena.Owner.length ru0, .slice ra1 r.Arena.Next.length ru1, .slice ra2 r.Prio.length ru2] ∧ Ent κ w κ' w' ∧ Oc (Ep.int .i64) 2 κ' w' 2 ra0 ru0 r.Arena.Owner ∧ Oc (Ep.fz (Rp.sl (Rp.int .i64))) 22 κ' w' 3 ra1 ru1 r.Arena.Next ∧ Oc (Ep.int .i64) 2 κ' w' 4 ra2 ru2 r.Prio) := by
 unfold s_l4Copy at h
 refine Ret.enter Try.func81 rfl Try.ntmps81 rfl ?_
 dsimp only [envOf]
 have hE := Ent.refl κ w
 refine WC.seq ?_
 refine WC.rs [(0, 1), (1, 1)] rfl ?_
 refine WO.box (κ := κ) 2 rfl rfl rfl rfl rfl rfl rfl fun b1 w1 K2 S3 f4 => ⟨trivial, ?_⟩
 refine WO.alloc (κ := K2) 3 rfl rfl rfl rfl rfl Try.zeroValue34 rfl fun b2 w5 K6 S7 f8 => ⟨trivial, ?_⟩
 refine WO.fin ?_
 refine DN.seq ?_
 refine WC.seq ?_
 refine WC.rx (κ := K6) [2] none [(0, 2), (3, 2), (1, 0), (4, 0), (2, 1), (5, 1), (6, 2), (7, 1)] [] (by kernel_rfl) (by kernel_rfl) fun w10 S9 => ?_
 refine WO.k2 rfl rfl rfl rfl (rn_fieldAddr Try.runUnderlying34 rfl Try.sizeOf32 rfl rfl) ?_
 refine WO.k2 rfl rfl rfl rfl (rn_fieldAddr Try.runUnderlying34 rfl Try.sizeOf22 rfl rfl) ?_
 have f11 := f4.stp (S7.tr S9) rfl rfl
 refine WO.k0 rfl rfl rfl rfl (rn_la (cs := [.slice a0_0_0 p0.Arena.Owner.length u0_0_0, .slice a0_0_1 p0.Arena.Next.length u0_0_1]) Try.isAgg32 Try.sizeOf32 rfl rfl rfl (haC (f11.lds 0 2 rfl) rfl)) ?_
 refine WO.k0 rfl rfl rfl rfl (rn_ld Try.isAgg22 rfl rfl (hvC (f11.ld 2 rfl rfl) rfl)) ?_
 obtain ⟨x5, hx5, h⟩ := Option.bind_eq_some_iff.mp h
 have f12 := g0_0_0.stp (S3.tr (S7.tr S9)) rfl rfl
 have f13 := g0_0_1.stp (S3.tr (S7.tr S9)) rfl rfl
 refine WO.call rfl rfl rfl rfl rfl rfl Try.call119 (s_l1CopyArena_ok (κ := fun b => mp [] 1 (K6 b)) (p0 := p0.Arena) (Sl.map f12 (mp [] 1) rfl rfl) (Sl.map f13 (mp [] 1) rfl rfl) hx5) ?_
 rintro _ w14 ⟨k15, a5_0, u5_0, a5_1, u5_1, rfl, e16, f17, f18⟩
 obtain ⟨K19, S20, m21, z22⟩ := Ent.mixed0 (l := []) (κ := K6) e16 4 rfl
 refine ⟨(S20.cl rfl), ?_⟩
 have f23 := f17.mx (no_int _) m21 rfl (rfl : 4 + 2 = 6)
 have f24 := f18.mxz z22 m21 rfl (rfl : 4 + 3 = 7)
 obtain ⟨x8, hx8, h⟩ := Option.bind_eq_some_iff.mp h
 have f25 := g0_1.stp (S3.tr (S7.tr (S9.tr S20))) rfl rfl
 refine WO.call rfl rfl rfl rfl rfl rfl Try.call120 (s_l1Copy_ok (κ := fun b => mp [] 0 (K19 b)) (Sl.map f25 (mp [] 0) rfl rfl) hx8) ?_
 rintro _ w26 ⟨k27, a8_0, u8_0, rfl, e28, f29⟩
 obtain ⟨K30, S31, m32⟩ := Ent.mixed (l := []) (κ := K19) e28 8 rfl
 refine ⟨((S20.tr S31).cl rfl), ?_⟩
 have f34 := f29.mx (no_int _) m32 rfl (rfl : 8 + 2 = 10)
 refine WO.k2 rfl rfl rfl rfl (rn_build (parts := [(0, .tmp 5), (1, .tmp 8)]) (cells := [.slice a5_0 x5.Owner.length u5_0, .slice a5_1 x5.Next.length u5_1, .slice a8_0 x8.length u8_0]) rfl rfl (by kernel_rfl)) ?_
 have f35 := f8.stp (S9.tr (S20.tr S31)) rfl rfl
 refine WO.stB0 (κ := K30) 3 (vc := [.slice a5_0 x5.Owner.length u5_0, .slice a5_1 x5.Next.length u5_1, .slice a8_0 x8.length u8_0]) rfl rfl rfl rfl rfl rfl rfl Try.sizeOf34 rfl rfl f35 rfl fun w36 S37 f38 => ⟨((S20.tr (S31.tr S37)).cl rfl), ?_⟩
 refine WO.nx ?_
 refine WO.fin ?_
 refine DN.seq ?_
 refine WC.ret ?_
 have f39 := hE.stp (S3.tr (S7.tr (S9.tr (S20.tr (S31.tr S37))))) rfl rfl
 have f40 := f23.stp (S31.tr S37) rfl rfl
 have f41 := f24.stp (S31.tr S37) rfl rfl
 have f42 := f34.stp S37 rfl rfl
 refine DN.res (l := [.cell 2 34]) Try.results81 (res_cellA rfl f38 Try.isAgg34 Try.sizeOf34 rfl rfl) rfl ?_
 obtain rfl := Option.some.inj h
 exact ⟨(fun b => ren [(6, 2), (7, 3), (10, 4)] (K30 b)), a5_0, u5_0, a5_1, u5_1, a8_0, u8_0, rfl, (f39.map (ren [(6, 2), (7, 3), (10, 4)]) rfl rfl), (f40.map (ren [(6, 2), (7, 3), (10, 4)]) rfl rfl), (f41.map (ren [(6, 2), (7, 3), (10, 4)]) rfl rfl), (f42.map (ren [(6, 2), (7, 3), (10, 4)]) rfl rfl)⟩

/- loop.example/g00869/impl.ParityOk -/
theorem i_ParityOk_ok {w : World} {κ : Col} {a0_0_0 : Option Addr} {u0_0_0 : Nat} {a0_0_1 : Option Addr} {u0_0_1 : Nat} {a0_1 : Option Addr} {u0_1 : Nat} {p0 : Parity} (g0_0_0 : Rd (Rp.int .i64) κ w 0 a0_0_0 u0_0_0 p0.Arena.Owner) (g0_0_1 : Rd (Rp.sl (Rp.int .i64)) κ w 0 a0_0_1 u0_0_1 p0.Arena.Next) (g0_1 : Rd (Rp.int .i64) κ w 0 a0_1 u0_1 p0.Prio) {r : Bool} (h : i_ParityOk p0 = some r) : Ret Try.prog 42 [.agg #[.slice a0_0_0 p0.Arena.Owner.length u0_0_0, .slice a0_0_1 p0.Arena.Next.length u0_0_1, .slice a0_1 p0.Prio.length u0_1]] w (fun v w' => ∃ (κ' : Col), v = .bool r ∧ Ent κ w κ' w') := by
 unfold i_ParityOk at h
 refine Ret.enter Try.func42 rfl Try.ntmps42 rfl ?_
 dsimp only [envOf]
 have hE := Ent.refl κ w
 refine WC.seq ?_
 refine WC.rs [(0, 1), (1, 2)] rfl ?_
 refine WO.box (κ := κ) 2 rfl rfl rfl rfl rfl rfl rfl fun b1 w1 K2 S3 f4 => ⟨trivial, ?_⟩
 refine WO.pn 1 rfl ?_
 refine WO.fin ?_
 refine DN.seq ?_
 refine WC.seq ?_
 refine WC.seq ?_
 refine WC.rs [(0, 2), (1, 1), (2, 1), (3, 2), (4, 2), (5, 2), (6, 1), (7, 2), (8, 2), (9, 2), (10, 1), (11, 2), (12, 2), (13, 2)] rfl ?_
 refine WO.k2 rfl rfl rfl rfl (rn_fieldAddr Try.runUnderlying34 rfl Try.sizeOf32 rfl rfl) ?_
 refine WO.k1 trivial rfl rfl rfl rfl (rn_la (cs := [.slice a0_0_0 p0.Arena.Owner.length u0_0_0, .slice a0_0_1 p0.Arena.Next.length u0_0_1]) Try.isAgg32 Try.sizeOf32 rfl rfl rfl (haE (f4.lds 0 2 rfl))) ?_
 obtain ⟨x7, hx7, h⟩ := Option.bind_eq_some_iff.mp h
 have f5 := g0_0_0.stp S3 rfl rfl
 have f6 := g0_0_1.stp S3 rfl rfl
 refine WO.call rfl rfl rfl rfl rfl rfl Try.call83 (i_ArenaOk_ok (κ := fun b => mp [] 0 (K2 b)) (p0 := p0.Arena) (Sl.map f5 (mp [] 0) rfl rfl) (Sl.map f6 (mp [] 0) rfl rfl) hx7) ?_
 rintro _ w7 ⟨k8, rfl, e9⟩
 obtain ⟨K10, S11, m12⟩ := Ent.mixed (l := []) (κ := K2) e9 3 rfl
 refine ⟨trivial, ?_⟩
 refine WO.pn 2 rfl ?_
 obtain ⟨p18, h, hK14⟩ := Option.bind_eq_some_iff.mp h
 refine WO.meet [(5, 2), (6, 1), (7, 2), (8, 2), (9, 2), (10, 1), (11, 2), (12, 2), (13, 2)] [] (fun L w' => L = [(1, .pointer (some ⟨b1, 0, none⟩)), (18, .bool p18)] ∧ ∃ κ', Stp [] K10 w7 κ' w') trivial ?_ ?_
 ·
  revert h
  cases ht15 : (!x7) with
  | true =>
   intro h; replace h := cT h
   refine WO.pn 1 rfl ?_
   refine WO.ls rfl rfl rfl rfl ?_
   refine WO.pn 3 rfl ?_
   refine WO.ls rfl rfl rfl rfl ?_
   refine WO.pn 3 rfl ?_
   obtain rfl := Option.some.inj h
   exact WO.met _ trivial ⟨rfl, _, (Stp.refl _ _).wk rfl⟩ fun a ha => (ha.more (ha.more ha.nil rfl) rfl)
  | false =>
   intro h; replace h := cF h
   refine WO.k2 rfl rfl rfl rfl (rn_fieldAddr Try.runUnderlying34 rfl Try.sizeOf22 rfl rfl) ?_
   have f16 := f4.stp S11 rfl rfl
   refine WO.k1 trivial rfl rfl rfl rfl (rn_ld Try.isAgg22 rfl rfl (hvE (f16.ld 2 rfl rfl))) ?_
   refine WO.k2 rfl rfl rfl rfl (rn_len Try.runUnderlying22 rfl rfl) ?_
   refine WO.k2 rfl rfl rfl rfl (rn_fieldAddr Try.runUnderlying34 rfl Try.sizeOf32 rfl rfl) ?_
   refine WO.k2 rfl rfl rfl rfl (rn_fieldAddr Try.runUnderlying32 rfl Try.sizeOf22 rfl rfl) ?_
   refine WO.k1 trivial rfl rfl rfl rfl (rn_ld Try.isAgg22 rfl rfl (hvE (f16.ld 0 rfl rfl))) ?_
   refine WO.k2 rfl rfl rfl rfl (rn_len Try.runUnderlying22 rfl rfl) ?_
   refine WO.pn 2 rfl ?_
   obtain rfl := Option.some.inj h
   exact WO.met _ trivial ⟨rfl, _, (Stp.refl _ _).wk rfl⟩ fun a ha => (ha.more (ha.more ha.nil rfl) rfl)
 rintro _ w17 _ ⟨rfl, K18, S19⟩
 have h := hK14
 refine WO.fin ?_
 refine DN.seq ?_
 revert h
 cases ht20 : p18 with
 | true =>
  intro h; replace h := cT h
  refine WC.ct rfl ?_
  refine WC.seq ?_
  refine WC.rs [(0, 2)] rfl ?_
  refine WO.pn 1 rfl ?_
  refine WO.fin ?_
  refine DN.seq ?_
  refine WC.ret ?_
  refine DN.retThen ?_
  have f21 := hE.stp (S3.tr (S11.tr S19)) rfl rfl
  refine DN.res (l := [.tmp 2]) Try.results42 (res_tmp rfl rfl) rfl ?_
  obtain rfl := Option.some.inj h
  exact ⟨K18, rfl, f21⟩
 | false =>
  intro h; replace h := cF h
  refine WC.cf rfl ?_
  refine WC.skip ?_
  refine DN.seq ?_
  refine WC.seq ?_
  refine WC.seq ?_
  refine WC.rs [(0, 2), (1, 1), (2, 2), (3, 2)] rfl ?_
  refine WO.k2 rfl rfl rfl rfl (rn_fieldAddr Try.runUnderlying34 rfl Try.sizeOf22 rfl rfl) ?_
  have f22 := f4.stp (S11.tr S19) rfl rfl
  refine WO.k1 trivial rfl rfl rfl rfl (rn_ld Try.isAgg22 rfl rfl (hvE (f22.ld 2 rfl rfl))) ?_
  refine WO.k2 rfl rfl rfl rfl (rn_len Try.runUnderlying22 rfl rfl) ?_
  refine WO.pn 1 rfl ?_
  refine WO.fin ?_
  refine DN.seq ?_
  have hN23 : (p0.Prio.length : Int) ≤ 9223372036854775807 := g0_1.len_le
  obtain ⟨q2, hq25, hK24⟩ := Option.bind_eq_some_iff.mp h
  clear h
  refine WC.meet (fun L w' => ∃ (κ' : Col), L = [] ∧ Stp [] K18 w17 κ' w' ∧ q2 = Sum.inr ()) ?_ ?_
  ·
   refine WC.block ?_
   refine WC.loop (fun k L w' => ∃ (κ' : Col) (v22 : Int), L = [(20, .slice a0_1 p0.Prio.length u0_1), (21, .int .i64 (p0.Prio.length : Int)), (22, .int .i64 v22)] ∧ Stp [] K18 w17 κ' w' ∧ 0 ≤ v22 ∧ Int.toNat ((p0.Prio.length : Int) - v22) = k ∧ cntM (i_ParityOk_b0 p0) k v22 () = some q2) ⟨_, _, ⟨K18, 0, rfl, (Stp.refl _ _).wk rfl, (by decide), (by simp), hq25⟩, fun a ha => (ha.more (ha.more (ha.more ha.nil rfl) rfl) rfl)⟩ ?_
   rintro k _ w29 ⟨K30, v22, rfl, S31, hj23, hJ23, h⟩
   rcases k with _ | k
   ·
    have hk32 := h; obtain ⟨o23, h⟩ := ex_eq (Sum.inr (Sum.inl ()) : Bool ⊕ ((Unit) ⊕ (Unit)))
    have hc23 : decide (v22 < (p0.Prio.length : Int)) = false := decide_eq_false (by omega)
    refine WC.seq ?_
    refine WC.rs [(0, 2)] rfl ?_
    refine WO.pn 1 rfl ?_
    refine WO.fin ?_
    refine DN.seq ?_
    refine WC.seq ?_
    refine WC.cf' rfl hc23 ?_
    refine WC.exit ?_
    refine DN.exitThen ?_
    refine DN.exitThen ?_
    obtain rfl := Option.some.inj h
    have h := hk32
    refine DN.hit ?_
    obtain rfl := Option.some.inj h
    exact DN.meet _ ⟨K30, rfl, S31.wk rfl, rfl⟩ fun a ha => ha.nil
   ·
    obtain ⟨o23, h, hk32⟩ := Option.bind_eq_some_iff.mp h; unfold i_ParityOk_b0 at h
    have hc23 : decide (v22 < (p0.Prio.length : Int)) = true := decide_eq_true (by omega)
    refine WC.seq ?_
    refine WC.rs [(0, 2)] rfl ?_
    refine WO.pn 1 rfl ?_
    refine WO.fin ?_
    refine DN.seq ?_
    refine WC.seq ?_
    refine WC.ct' rfl hc23 ?_
    refine WC.skip ?_
    refine DN.seq ?_
    refine WC.seq ?_
    refine WC.block ?_
    refine WC.seq ?_
    refine WC.rs [(0, 2), (1, 1), (2, 2)] rfl ?_
    obtain ⟨x24, hx24, h⟩ := Option.bind_eq_some_iff.mp h
    refine WO.k2 rfl rfl rfl rfl (rn_index g0_1 hx24 Try.runUnderlying22 Try.sizeOf2 rfl rfl rfl rfl) ?_
    have f33 := g0_1.stp (S3.tr (S11.tr (S19.tr S31))) rfl rfl
    refine WO.k1 trivial rfl rfl rfl rfl (rn_ld Try.isAgg2 rfl rfl (hvE (f33.gInt hx24))) ?_
    refine WO.pn 1 rfl ?_
    refine WO.fin ?_
    refine DN.seq ?_
    refine WC.seq ?_
    refine WC.rs [(0, 2), (1, 2), (2, 2), (3, 2), (4, 2), (5, 2)] rfl ?_
    refine WO.pn 3 rfl ?_
    obtain ⟨p31, h, hK34⟩ := Option.bind_eq_some_iff.mp h
    refine WO.meet [(3, 2), (4, 2), (5, 2)] [] (fun L w' => L = [(20, .slice a0_1 p0.Prio.length u0_1), (21, .int .i64 (p0.Prio.length : Int)), (22, .int .i64 v22), (31, .bool p31)] ∧ ∃ κ', Stp [] K30 w29 κ' w') trivial ?_ ?_
    ·
     revert h
     cases ht35 : decide (x24 < 0) with
     | true =>
      intro h; replace h := cT h
      refine WO.pn 3 rfl ?_
      obtain rfl := Option.some.inj h
      exact WO.met _ trivial ⟨rfl, _, (Stp.refl _ _).wk rfl⟩ fun a ha => (ha.more (ha.more (ha.more (ha.more ha.nil rfl) rfl) rfl) rfl)
     | false =>
      intro h; replace h := cF h
      refine WO.pn 3 rfl ?_
      obtain rfl := Option.some.inj h
      exact WO.met _ trivial ⟨rfl, _, (Stp.refl _ _).wk rfl⟩ fun a ha => (ha.more (ha.more (ha.more (ha.more ha.nil rfl) rfl) rfl) rfl)
    rintro _ w36 _ ⟨rfl, K37, S38⟩
    have h := hK34
    refine WO.fin ?_
    refine DN.seq ?_
    revert h
    cases ht39 : p31 with
    | true =>
     intro h; replace h := cT h
     refine WC.ct rfl ?_
     refine WC.seq ?_
     refine WC.rs [(0, 2)] rfl ?_
     refine WO.pn 1 rfl ?_
     refine WO.fin ?_
     refine DN.seq ?_
     refine WC.ret ?_
     refine DN.retBlock ?_
     refine DN.retThen ?_
     refine DN.retThen ?_
     obtain rfl := Option.some.inj h
     obtain rfl := Option.some.inj hk32
     have h := hK24
     dsimp only [aft] at h
     refine DN.retBlock ?_
     refine DN.retMeet ?_
     refine DN.retThen ?_
     have f40 := hE.stp (S3.tr (S11.tr (S19.tr (S31.tr S38)))) rfl rfl
     refine DN.res (l := [.tmp 2]) Try.results42 (res_tmp rfl rfl) rfl ?_
     obtain rfl := Option.some.inj h
     exact ⟨K37, rfl, f40⟩
    | false =>
     intro h; replace h := cF h
     refine WC.cf rfl ?_
     refine WC.skip ?_
     refine DN.block ?_
     refine DN.seq ?_
     refine WC.rs [(0, 2), (1, 2)] rfl ?_
     refine WO.pn 2 rfl ?_
     refine WO.fin ?_
     have hw23 : IntKind.wrap .i64 (v22 + 1) = v22 + 1 := wr1 hj23 (of_decide_eq_true hc23) hN23
     rw [hw23]
     have hc23 := of_decide_eq_true hc23
     obtain rfl := Option.some.inj h
     refine DN.round fun a ha => ?_
     exact ⟨k, _, Nat.lt_succ_self _, ⟨K37, v22 + 1, rfl, (S31.tr S38).wk rfl, by omega, by omega, hk32⟩, (ha.more (ha.more (ha.more ha.nil rfl) rfl) rfl)⟩
  rintro _ w26 ⟨K27, rfl, S28, rfl⟩
  have h := hK24
  dsimp only [aft] at h
  refine DN.seq ?_
  refine WC.seq ?_
  refine WC.rs [(0, 2)] rfl ?_
  refine WO.pn 1 rfl ?_
  refine WO.fin ?_
  refine DN.seq ?_
  refine WC.ret ?_
  have f41 := hE.stp (S3.tr (S11.tr (S19.tr S28))) rfl rfl
  refine DN.res (l := [.tmp 2]) Try.results42 (res_tmp rfl rfl) rfl ?_
  obtain rfl := Option.some.inj h
  exact ⟨K27, rfl, f41⟩

/- loop.example/g00869/impl.copyParity -/
theorem i_copyParity_ok {w : World} {κ : Col} {a0_0_0 : Option Addr} {u0_0_0 : Nat} {a0_0_1 : Option Addr} {u0_0_1 : Nat} {a0_1 : Option Addr} {u0_1 : Nat} {p0 : Parity} (g0_0_0 : Rd (Rp.int .i64) κ w 0 a0_0_0 u0_0_0 p0.Arena.Owner) (g0_0_1 : Rd (Rp.sl (Rp.int .i64)) κ w 0 a0_0_1 u0_0_1 p0.Arena.Next) (g0_1 : Rd (Rp.int .i64) κ w 0 a0_1 u0_1 p0.Prio) {r : Parity} (h : i_copyParity p0 = some r) : Ret Try.prog 89 [.agg #[.slice a0_0_0 p0.Arena.Owner.length u0_0_0, .slice a0_0_1 p0.Arena.Next.length u0_0_1, .slice a0_1 p0.Prio.length u0_1]] w (fun v w' => ∃ (κ' : Col) (ra0 : Option Addr) (ru0 : Nat) (ra1 : Option Addr) (ru1 : Nat) (ra2 : Option Addr) (ru2 : Nat), v = .agg #[.slice ra0 r.Arena.Owner.length ru0, .slice ra1 r.Arena.Next.length ru1, .slice ra2 r.Prio.length ru2] ∧ Ent κ w κ' w' ∧ Oc (Ep.int .i64) 2 κ' w' 2 ra0 ru0 r.Arena.Owner ∧ Oc (Ep.own (Ep.int .i64) 2) 22 κ' w' 3 ra1 ru1 r.Arena.Next ∧ Oc (Ep.int .i64) 2 κ' w' 4 ra2 ru2 r.Prio) := by
 unfold i_copyParity at h
 refine Ret.enter Try.func89 rfl Try.ntmps89 rfl ?_
 dsimp only [envOf]
 have hE := Ent.refl κ w
 refine WC.seq ?_
 refine WC.rs [(0, 1), (1, 1)] rfl ?_
 refine WO.box (κ := κ) 2 rfl rfl rfl rfl rfl rfl rfl fun b1 w1 K2 S3 f4 => ⟨trivial, ?_⟩
 refine WO.alloc (κ := K2) 3 rfl rfl rfl rfl rfl Try.zeroValue34 rfl fun b2 w5 K6 S7 f8 => ⟨trivial, ?_⟩
 refine WO.fin ?_
 refine DN.seq ?_
 refine WC.seq ?_
 obtain ⟨x5, hx5, h⟩ := Option.bind_eq_some_iff.mp h
 obtain ⟨x9, hx9, h⟩ := Option.bind_eq_some_iff.mp h
 refine WC.meet (fun L w' => ∃ (κ' : Col) (lar12_0 : Option Addr) (lur12_0 : Nat) (lar12_1 : Option Addr) (lur12_1 : Nat) (lar12_2 : Option Addr) (lur12_2 : Nat), L = [(2, .pointer (some ⟨b2, 0, none⟩))] ∧ Stp [3, 4, 6, 7, 8] K6 w5 κ' w' ∧ Oc (Ep.int .i64) 2 κ' w' 4 lar12_0 lur12_0 x5.Owner ∧ Oc (Ep.own (Ep.int .i64) 2) 22 κ' w' 5 lar12_1 lur12_1 x5.Next ∧ Oc (Ep.int .i64) 2 κ' w' 6 lar12_2 lur12_2 x9 ∧ Bc κ' w' 3 b2 34 [.slice lar12_0 x5.Owner.length lur12_0, .slice lar12_1 x5.Next.length lur12_1, .slice lar12_2 x9.length lur12_2]) ?_ ?_
 ·
  refine WC.rxt (κ := K6) [2] none (by kernel_rfl) fun w17 S18 => ?_
  refine WA.seg (fuel := 5) [(0, 2), (4, 2), (1, 0), (5, 0)] (by kernel_rfl) (by kernel_rfl) rfl ?_
  refine WO.k2 rfl rfl rfl rfl (rn_fieldAddr Try.runUnderlying34 rfl Try.sizeOf32 rfl rfl) ?_
  refine WO.k2 rfl rfl rfl rfl (rn_fieldAddr Try.runUnderlying34 rfl Try.sizeOf22 rfl rfl) ?_
  have f19 := f4.stp (S7.tr S18) rfl rfl
  refine WO.k0 rfl rfl rfl rfl (rn_la (cs := [.slice a0_0_0 p0.Arena.Owner.length u0_0_0, .slice a0_0_1 p0.Arena.Next.length u0_0_1]) Try.isAgg32 Try.sizeOf32 rfl rfl rfl (haC (f19.lds 0 2 rfl) rfl)) ?_
  refine WO.k0 rfl rfl rfl rfl (rn_ld Try.isAgg22 rfl rfl (hvC (f19.ld 2 rfl rfl) rfl)) ?_
  refine WO.wa ?_
  refine WA.fork2 (fuel := 4) 2 3 (by kernel_rfl) rfl ?_ ?_
  ·
   have f20 := g0_0_0.stp (S3.tr (S7.tr S18)) rfl rfl
   have f21 := g0_0_1.stp (S3.tr (S7.tr S18)) rfl rfl
   refine WO.call rfl rfl rfl rfl rfl rfl Try.call129 (i_copyArena_ok (κ := fun b => mp [] 0 (K6 b)) (p0 := p0.Arena) (Sl.map f20 (mp [] 0) rfl rfl) (Sl.map f21 (mp [] 0) rfl rfl) hx5) ?_
   rintro _ w22 ⟨k23, a5_0, u5_0, a5_1, u5_1, rfl, e24, f25, f26⟩
   obtain ⟨K27, S28, m29⟩ := Ent.mixed (l := []) (κ := K6) e24 4 rfl
   refine ⟨(S28.cl rfl), ?_⟩
   have f31 := f25.mx (no_int _) m29 rfl (rfl : 4 + 2 = 6)
   have f32 := f26.mx (no_own (no_int _) _) m29 rfl (rfl : 4 + 3 = 7)
   refine WO.wa ?_
   refine WA.seg (fuel := 0) [(3, 1), (6, 1), (7, 2), (8, 1)] (by kernel_rfl) (by kernel_rfl) rfl ?_
   refine WO.bl0 (κ := K27) (E := (Ep.int .i64)) 8 rfl rfl rfl rfl rfl Try.underlying22 Tryinfo2 rfl fun a6 u6 w33 K34 S35 f36 => ⟨((S28.tr S35).cl rfl), ?_⟩
   have f37 := g0_1.stp (S3.tr (S7.tr (S18.tr (S28.tr S35)))) rfl rfl
   refine WO.app (κ := K34) (E := (Ep.int .i64)) 8 [] rfl rfl rfl rfl rfl rfl rfl rfl rfl Try.underlying22 Tryinfo2 rfl rfl rfl rfl f36 (Sl.srcP (pu_int _) f37) sy_false hx9 rfl fun a9 u9 w38 K39 S40 f41 => ⟨((S28.tr (S35.tr S40)).cl rfl), ?_⟩
   refine WO.k2 rfl rfl rfl rfl (rn_build (parts := [(0, .tmp 5), (1, .tmp 9)]) (cells := [.slice a5_0 x5.Owner.length u5_0, .slice a5_1 x5.Next.length u5_1, .slice a9 x9.length u9]) rfl rfl (by kernel_rfl)) ?_
   have f42 := f8.stp (S18.tr (S28.tr (S35.tr S40))) rfl rfl
   refine WO.stB0 (κ := K39) 3 (vc := [.slice a5_0 x5.Owner.length u5_0, .slice a5_1 x5.Next.length u5_1, .slice a9 x9.length u9]) rfl rfl rfl rfl rfl rfl rfl Try.sizeOf34 rfl rfl f42 rfl fun w43 S44 f45 => ⟨((S28.tr (S35.tr (S40.tr S44))).cl rfl), ?_⟩
   refine WO.wa ?_
   refine WA.last [] (by kernel_rfl) (by kernel_rfl) rfl ?_
   refine WO.fin ?_
   have f46 := f31.stp (S35.tr (S40.tr S44)) rfl rfl
   have f47 := f32.stp (S35.tr (S40.tr S44)) rfl rfl
   have f48 := f41.stp S44 rfl rfl
   exact DN.meet _ ⟨(fun b => ren [(6, 4), (7, 5), (8, 6)] (K39 b)), a5_0, u5_0, a5_1, u5_1, a9, u9, rfl, (Stp.ren ((S18.tr (S28.tr (S35.tr (S40.tr S44)))).wk rfl) [(6, 4), (7, 5), (8, 6)] rfl), (f46.map (ren [(6, 4), (7, 5), (8, 6)]) rfl rfl), (f47.map (ren [(6, 4), (7, 5), (8, 6)]) rfl rfl), (f48.map (ren [(6, 4), (7, 5), (8, 6)]) rfl rfl), (f45.map (ren [(6, 4), (7, 5), (8, 6)]) rfl rfl)⟩ fun a ha => (ha.more ha.nil rfl)
  ·
   refine WO.bl0 (κ := K6) (E := (Ep.int .i64)) 4 rfl rfl rfl rfl rfl Try.underlying22 Tryinfo2 rfl fun a6 u6 w49 K50 S51 f52 => ⟨(S51.cl rfl), ?_⟩
   refine WO.wa ?_
   refine WA.seg (fuel := 0) [(2, 1), (6, 1), (7, 2), (8, 1)] (by kernel_rfl) (by kernel_rfl) rfl ?_
   have f53 := g0_0_0.stp (S3.tr (S7.tr (S18.tr S51))) rfl rfl
   have f54 := g0_0_1.stp (S3.tr (S7.tr (S18.tr S51))) rfl rfl
   refine WO.call rfl rfl rfl rfl rfl rfl Try.call129 (i_copyArena_ok (κ := fun b => mp [] 0 (K50 b)) (p0 := p0.Arena) (Sl.map f53 (mp [] 0) rfl rfl) (Sl.map f54 (mp [] 0) rfl rfl) hx5) ?_
   rintro _ w55 ⟨k56, a5_0, u5_0, a5_1, u5_1, rfl, e57, f58, f59⟩
   obtain ⟨K60, S61, m62⟩ := Ent.mixed (l := []) (κ := K50) e57 5 rfl
   refine ⟨((S51.tr S61).cl rfl), ?_⟩
   have f64 := f58.mx (no_int _) m62 rfl (rfl : 5 + 2 = 7)
   have f65 := f59.mx (no_own (no_int _) _) m62 rfl (rfl : 5 + 3 = 8)
   have f66 := g0_1.stp (S3.tr (S7.tr (S18.tr (S51.tr S61)))) rfl rfl
   have f67 := f52.stp S61 rfl rfl
   refine WO.app (κ := K60) (E := (Ep.int .i64)) 4 [] rfl rfl rfl rfl rfl rfl rfl rfl rfl Try.underlying22 Tryinfo2 rfl rfl rfl rfl f67 (Sl.srcP (pu_int _) f66) sy_false hx9 rfl fun a9 u9 w68 K69 S70 f71 => ⟨((S51.tr (S61.tr S70)).cl rfl), ?_⟩
   refine WO.k2 rfl rfl rfl rfl (rn_build (parts := [(0, .tmp 5), (1, .tmp 9)]) (cells := [.slice a5_0 x5.Owner.length u5_0, .slice a5_1 x5.Next.length u5_1, .slice a9 x9.length u9]) rfl rfl (by kernel_rfl)) ?_
   have f72 := f8.stp (S18.tr (S51.tr (S61.tr S70))) rfl rfl
   refine WO.stB0 (κ := K69) 3 (vc := [.slice a5_0 x5.Owner.length u5_0, .slice a5_1 x5.Next.length u5_1, .slice a9 x9.length u9]) rfl rfl rfl rfl rfl rfl rfl Try.sizeOf34 rfl rfl f72 rfl fun w73 S74 f75 => ⟨((S51.tr (S61.tr (S70.tr S74))).cl rfl), ?_⟩
   refine WO.wa ?_
   refine WA.last [] (by kernel_rfl) (by kernel_rfl) rfl ?_
   refine WO.fin ?_
   have f76 := f64.stp (S70.tr S74) rfl rfl
   have f77 := f65.stp (S70.tr S74) rfl rfl
   have f78 := f71.stp S74 rfl rfl
   exact DN.meet _ ⟨(fun b => ren [(7, 4), (8, 5), (4, 6)] (K69 b)), a5_0, u5_0, a5_1, u5_1, a9, u9, rfl, (Stp.ren ((S18.tr (S51.tr (S61.tr (S70.tr S74)))).wk rfl) [(7, 4), (8, 5), (4, 6)] rfl), (f76.map (ren [(7, 4), (8, 5), (4, 6)]) rfl rfl), (f77.map (ren [(7, 4), (8, 5), (4, 6)]) rfl rfl), (f78.map (ren [(7, 4), (8, 5), (4, 6)]) rfl rfl), (f75.map (ren [(7, 4), (8, 5), (4, 6)]) rfl rfl)⟩ fun a ha => (ha.more ha.nil rfl)
 rintro _ w9 ⟨K10, lar12_0, lur12_0, lar12_1, lur12_1, lar12_2, lur12_2, rfl, S11, f13, f14, f15, f16⟩
 refine DN.seq ?_
 refine WC.ret ?_
 have f79 := hE.stp (S3.tr (S7.tr S11)) rfl rfl
 refine DN.res (l := [.cell 2 34]) Try.results89 (res_cellA rfl f16 Try.isAgg34 Try.sizeOf34 rfl rfl) rfl ?_
 obtain rfl := Option.some.inj h
 exact ⟨(fun b => ren [(4, 2), (5, 3), (6, 4)] (K10 b)), lar12_0, lur12_0, lar12_1, lur12_1, lar12_2, lur12_2, rfl, (f79.map (ren [(4, 2), (5, 3), (6, 4)]) rfl rfl), (f13.map (ren [(4, 2), (5, 3), (6, 4)]) rfl rfl), (f14.map (ren [(4, 2), (5, 3), (6, 4)]) rfl rfl), (f15.map (ren [(4, 2), (5, 3), (6, 4)]) rfl rfl)⟩

/- loop.example/g00869/laws.markArena -/
theorem l_markArena_ok {w : World} {κ : Col} {a0_0 : Option Addr} {u0_0 : Nat} {a0_1 : Option Addr} {u0_1 : Nat} {p0 : Arena} {p1 : Int} (g0_0 : Oc (Ep.int .i64) 2 κ w 2 a0_0 u0_0 p0.Owner) (g0_1 : Oc (Ep.own (Ep.int .i64) 2) 22 κ w 3 a0_1 u0_1 p0.Next) {r : Int × (List Int) × (List (List Int))} (h : l_markArena p0 p1 = some r) : Ret Try.prog 47 [.agg #[.slice a0_0 p0.Owner.length u0_0, .slice a0_1 p0.Next.length u0_1], .int .i64 p1] w (fun v w' => ∃ (κ' : Col), v = .int .i64 r.1 ∧ Ent κ w κ' w' ∧ Oc (Ep.int .i64) 2 κ' w' 2 a0_0 u0_0 r.2.1 ∧ p0.Owner.length = r.2.1.length ∧ Oc (Ep.own (Ep.int .i64) 2) 22 κ' w' 3 a0_1 u0_1 r.2.2 ∧ p0.Next.length = r.2.2.length) := by
 unfold l_markArena at h
 refine Ret.enter Try.func47 rfl Try.ntmps47 rfl ?_
 dsimp only [envOf]
 have hE := Ent.refl κ w
 refine WC.seq ?_
 refine WC.rs [(0, 1), (1, 2)] rfl ?_
 refine WO.box (κ := κ) 4 rfl rfl rfl rfl rfl rfl rfl fun b2 w1 K2 S3 f4 => ⟨trivial, ?_⟩
 refine WO.pn 1 rfl ?_
 refine WO.fin ?_
 refine DN.seq ?_
 refine WC.seq ?_
 refine WC.rs [(0, 2), (1, 1), (2, 2), (3, 1), (4, 2)] rfl ?_
 refine WO.k2 rfl rfl rfl rfl (rn_fieldAddr Try.runUnderlying32 rfl Try.sizeOf22 rfl rfl) ?_
 refine WO.k1 trivial rfl rfl rfl rfl (rn_ld Try.isAgg22 rfl rfl (hvE (f4.ld 0 rfl rfl))) ?_
 refine WO.pn 1 rfl ?_
 obtain ⟨x8, hx8, h⟩ := Option.bind_eq_some_iff.mp h
 have f5 := g0_0.stp S3 rfl rfl
 refine WO.call rfl rfl rfl rfl rfl rfl Try.call15 (l_markInt64S_ok (κ := fun b => mp [(2, 2)] 0 (K2 b)) (f5.map (mp [(2, 2)] 0) rfl rfl) hx8) ?_
 rintro _ w6 ⟨k7, rfl, e8, f9, hn10⟩
 obtain ⟨K11, S12, m13⟩ := Ent.mixed (l := [(2, 2)]) (κ := K2) e8 5 rfl
 refine ⟨trivial, ?_⟩
 have f15 := f9.mx (no_int _) m13 rfl (rfl : 5 + 2 = 7)
 refine WO.pn 1 rfl ?_
 refine WO.fin ?_
 refine DN.seq ?_
 refine WC.seq ?_
 refine WC.rs [(0, 2), (1, 1), (2, 2), (3, 1), (4, 2)] rfl ?_
 refine WO.k2 rfl rfl rfl rfl (rn_fieldAddr Try.runUnderlying32 rfl Try.sizeOf23 rfl rfl) ?_
 have f16 := f4.stp S12 rfl rfl
 refine WO.k1 trivial rfl rfl rfl rfl (rn_ld Try.isAgg23 rfl rfl (hvE (f16.ld 1 rfl rfl))) ?_
 refine WO.pn 1 rfl ?_
 obtain ⟨x12, hx12, h⟩ := Option.bind_eq_some_iff.mp h
 have f17 := g0_1.stp (S3.tr S12) rfl rfl
 refine WO.call rfl rfl rfl rfl rfl rfl Try.call92 (l_markInt64SS_ok (κ := fun b => mp [(3, 2)] 0 (K11 b)) (f17.map (mp [(3, 2)] 0) rfl rfl) hx12) ?_
 rintro _ w18 ⟨k19, rfl, e20, f21, hn22⟩
 obtain ⟨K23, S24, m25⟩ := Ent.mixed (l := [(3, 2)]) (κ := K11) e20 8 rfl
 refine ⟨trivial, ?_⟩
 have f27 := f21.mx (no_own (no_int _) _) m25 rfl (rfl : 8 + 2 = 10)
 refine WO.pn 1 rfl ?_
 refine WO.fin ?_
 refine DN.seq ?_
 refine WC.seq ?_
 refine WC.rs [(0, 2), (1, 2)] rfl ?_
 refine WO.pn 2 rfl ?_
 refine WO.fin ?_
 refine DN.seq ?_
 refine WC.ret ?_
 have f28 := hE.stp (S3.tr (S12.tr S24)) rfl rfl
 have f29 := f15.stp S24 rfl rfl
 refine DN.res (l := [.tmp 4]) Try.results47 (res_tmp rfl rfl) rfl ?_
 obtain rfl := Option.some.inj h
 exact ⟨(fun b => ren [(7, 2), (10, 3)] (K23 b)), rfl, (f28.map (ren [(7, 2), (10, 3)]) rfl rfl), (f29.map (ren [(7, 2), (10, 3)]) rfl rfl), (hn10), (f27.map (ren [(7, 2), (10, 3)]) rfl rfl), (hn22)⟩

end Go.Proofs.Ytndiklipffipcaa
