/- The walks, part 3. By program. -/
import Derived.Test.YtgniipbjjkodaaaFnsC72
set_option linter.unusedVariables false
set_option linter.unusedSimpArgs false
namespace Go.Proofs.Ytgniipbjjkodaaa
open Go Go.Wk Go.Proofs
set_option maxRecDepth 100000
set_option maxHeartbeats 1000000

/- loop.example/g00869/impl.isCircuit -/
theorem i_isCircuit_ok {w : World} {κ : Col} {a0_2 : Option Addr} {u0_2 : Nat} {a0_3 : Option Addr} {u0_3 : Nat} {a0_4 : Option Addr} {u0_4 : Nat} {p0 : Circuit} (g0_2 : Rd (Rp.int .i64) κ w 0 a0_2 u0_2 p0.Next) (g0_3 : Rd Gate.rp κ w 0 a0_3 u0_3 p0.Gates) (g0_4 : Rd (Rp.int .i64) κ w 0 a0_4 u0_4 p0.Outs) {r : Bool} (h : i_isCircuit p0 = some r) : Ret Try.prog 88 [.agg #[.int .i64 p0.Inputs, .int .i64 p0.Latches, .slice a0_2 p0.Next.length u0_2, .slice a0_3 p0.Gates.length u0_3, .slice a0_4 p0.Outs.length u0_4]] w (fun v w' => ∃ (κ' : Col), v = .bool r ∧ Ent κ w κ' w') := by
 unfold i_isCircuit at h
 refine Ret.enter Try.func88 rfl Try.ntmps88 rfl ?_
 dsimp only [envOf]
 have hE := Ent.refl κ w
 refine WC.seq ?_
 refine WC.rs [(0, 1), (1, 2)] rfl ?_
 refine WO.box (κ := κ) 2 rfl rfl rfl rfl rfl rfl rfl fun b1 w1 K2 S3 f4 => ⟨trivial, ?_⟩
 refine WO.pn 1 rfl ?_
 refine WO.fin ?_
 refine DN.seq ?_
 refine WC.seq ?_
 refine WC.seq ?_
 refine WC.rs [(0, 2), (1, 1), (2, 2), (3, 2), (4, 2), (5, 1), (6, 2), (7, 2), (8, 2), (9, 2), (10, 1), (11, 2), (12, 2), (13, 2), (14, 2), (15, 1), (16, 2), (17, 2), (18, 2), (19, 2), (20, 1), (21, 2), (22, 2), (23, 1), (24, 2), (25, 2), (26, 2), (27, 2), (28, 1), (29, 2), (30, 2), (31, 2), (32, 2), (33, 2), (34, 1), (35, 2), (36, 2), (37, 2)] rfl ?_
 refine WO.k2 rfl rfl rfl rfl (rn_fieldAddr Try.runUnderlying50 rfl Try.sizeOf2 rfl rfl) ?_
 refine WO.k1 trivial rfl rfl rfl rfl (rn_ld Try.isAgg2 rfl rfl (hvE (f4.ld 0 rfl rfl))) ?_
 refine WO.pn 2 rfl ?_
 obtain ⟨p13, h, hK5⟩ := Option.bind_eq_some_iff.mp h
 refine WO.meet [(4, 2), (5, 1), (6, 2), (7, 2)] [(8, 2), (9, 2), (10, 1), (11, 2), (12, 2), (13, 2), (14, 2), (15, 1), (16, 2), (17, 2), (18, 2), (19, 2), (20, 1), (21, 2), (22, 2), (23, 1), (24, 2), (25, 2), (26, 2), (27, 2), (28, 1), (29, 2), (30, 2), (31, 2), (32, 2), (33, 2), (34, 1), (35, 2), (36, 2), (37, 2)] (fun L w' => L = [(1, .pointer (some ⟨b1, 0, none⟩)), (13, .bool p13)] ∧ ∃ κ', Stp [] K2 w1 κ' w') trivial ?_ ?_
 ·
  revert h
  cases ht6 : decide (p0.Inputs < 0) with
  | true =>
   intro h; replace h := cT h
   refine WO.pn 1 rfl ?_
   refine WO.ls rfl rfl rfl rfl ?_
   refine WO.pn 2 rfl ?_
   obtain rfl := Option.some.inj h
   exact WO.met _ trivial ⟨rfl, _, (Stp.refl _ _).wk rfl⟩ fun a ha => (ha.more (ha.more ha.nil rfl) rfl)
  | false =>
   intro h; replace h := cF h
   refine WO.k2 rfl rfl rfl rfl (rn_fieldAddr Try.runUnderlying50 rfl Try.sizeOf2 rfl rfl) ?_
   refine WO.k1 trivial rfl rfl rfl rfl (rn_ld Try.isAgg2 rfl rfl (hvE (f4.ld 0 rfl rfl))) ?_
   refine WO.pn 2 rfl ?_
   obtain rfl := Option.some.inj h
   exact WO.met _ trivial ⟨rfl, _, (Stp.refl _ _).wk rfl⟩ fun a ha => (ha.more (ha.more ha.nil rfl) rfl)
 rintro _ w7 _ ⟨rfl, K8, S9⟩
 have h := hK5
 refine WO.pn 1 rfl ?_
 obtain ⟨p18, h, hK10⟩ := Option.bind_eq_some_iff.mp h
 refine WO.meet [(9, 2), (10, 1), (11, 2), (12, 2)] [(13, 2), (14, 2), (15, 1), (16, 2), (17, 2), (18, 2), (19, 2), (20, 1), (21, 2), (22, 2), (23, 1), (24, 2), (25, 2), (26, 2), (27, 2), (28, 1), (29, 2), (30, 2), (31, 2), (32, 2), (33, 2), (34, 1), (35, 2), (36, 2), (37, 2)] (fun L w' => L = [(1, .pointer (some ⟨b1, 0, none⟩)), (18, .bool p18)] ∧ ∃ κ', Stp [] K8 w7 κ' w') trivial ?_ ?_
 ·
  revert h
  cases ht11 : p13 with
  | true =>
   intro h; replace h := cT h
   refine WO.pn 1 rfl ?_
   refine WO.ls rfl rfl rfl rfl ?_
   refine WO.pn 2 rfl ?_
   obtain rfl := Option.some.inj h
   exact WO.met _ trivial ⟨rfl, _, (Stp.refl _ _).wk rfl⟩ fun a ha => (ha.more (ha.more ha.nil rfl) rfl)
  | false =>
   intro h; replace h := cF h
   refine WO.k2 rfl rfl rfl rfl (rn_fieldAddr Try.runUnderlying50 rfl Try.sizeOf2 rfl rfl) ?_
   have f12 := f4.stp S9 rfl rfl
   refine WO.k1 trivial rfl rfl rfl rfl (rn_ld Try.isAgg2 rfl rfl (hvE (f12.ld 1 rfl rfl))) ?_
   refine WO.pn 2 rfl ?_
   obtain rfl := Option.some.inj h
   exact WO.met _ trivial ⟨rfl, _, (Stp.refl _ _).wk rfl⟩ fun a ha => (ha.more (ha.more ha.nil rfl) rfl)
 rintro _ w13 _ ⟨rfl, K14, S15⟩
 have h := hK10
 refine WO.pn 1 rfl ?_
 obtain ⟨p23, h, hK16⟩ := Option.bind_eq_some_iff.mp h
 refine WO.meet [(14, 2), (15, 1), (16, 2), (17, 2)] [(18, 2), (19, 2), (20, 1), (21, 2), (22, 2), (23, 1), (24, 2), (25, 2), (26, 2), (27, 2), (28, 1), (29, 2), (30, 2), (31, 2), (32, 2), (33, 2), (34, 1), (35, 2), (36, 2), (37, 2)] (fun L w' => L = [(1, .pointer (some ⟨b1, 0, none⟩)), (23, .bool p23)] ∧ ∃ κ', Stp [] K14 w13 κ' w') trivial ?_ ?_
 ·
  revert h
  cases ht17 : p18 with
  | true =>
   intro h; replace h := cT h
   refine WO.pn 1 rfl ?_
   refine WO.ls rfl rfl rfl rfl ?_
   refine WO.pn 2 rfl ?_
   obtain rfl := Option.some.inj h
   exact WO.met _ trivial ⟨rfl, _, (Stp.refl _ _).wk rfl⟩ fun a ha => (ha.more (ha.more ha.nil rfl) rfl)
  | false =>
   intro h; replace h := cF h
   refine WO.k2 rfl rfl rfl rfl (rn_fieldAddr Try.runUnderlying50 rfl Try.sizeOf2 rfl rfl) ?_
   have f18 := f4.stp (S9.tr S15) rfl rfl
   refine WO.k1 trivial rfl rfl rfl rfl (rn_ld Try.isAgg2 rfl rfl (hvE (f18.ld 1 rfl rfl))) ?_
   refine WO.pn 2 rfl ?_
   obtain rfl := Option.some.inj h
   exact WO.met _ trivial ⟨rfl, _, (Stp.refl _ _).wk rfl⟩ fun a ha => (ha.more (ha.more ha.nil rfl) rfl)
 rintro _ w19 _ ⟨rfl, K20, S21⟩
 have h := hK16
 refine WO.pn 1 rfl ?_
 obtain ⟨p31, h, hK22⟩ := Option.bind_eq_some_iff.mp h
 refine WO.meet [(19, 2), (20, 1), (21, 2), (22, 2), (23, 1), (24, 2), (25, 2)] [(26, 2), (27, 2), (28, 1), (29, 2), (30, 2), (31, 2), (32, 2), (33, 2), (34, 1), (35, 2), (36, 2), (37, 2)] (fun L w' => L = [(1, .pointer (some ⟨b1, 0, none⟩)), (31, .bool p31)] ∧ ∃ κ', Stp [] K20 w19 κ' w') trivial ?_ ?_
 ·
  revert h
  cases ht23 : p23 with
  | true =>
   intro h; replace h := cT h
   refine WO.pn 1 rfl ?_
   refine WO.ls rfl rfl rfl rfl ?_
   refine WO.pn 2 rfl ?_
   refine WO.ls rfl rfl rfl rfl ?_
   refine WO.pn 2 rfl ?_
   obtain rfl := Option.some.inj h
   exact WO.met _ trivial ⟨rfl, _, (Stp.refl _ _).wk rfl⟩ fun a ha => (ha.more (ha.more ha.nil rfl) rfl)
  | false =>
   intro h; replace h := cF h
   refine WO.k2 rfl rfl rfl rfl (rn_fieldAddr Try.runUnderlying50 rfl Try.sizeOf24 rfl rfl) ?_
   have f24 := f4.stp (S9.tr (S15.tr S21)) rfl rfl
   refine WO.k1 trivial rfl rfl rfl rfl (rn_ld Try.isAgg24 rfl rfl (hvE (f24.ld 2 rfl rfl))) ?_
   refine WO.k2 rfl rfl rfl rfl (rn_len Try.runUnderlying24 rfl rfl) ?_
   refine WO.k2 rfl rfl rfl rfl (rn_fieldAddr Try.runUnderlying50 rfl Try.sizeOf2 rfl rfl) ?_
   refine WO.k1 trivial rfl rfl rfl rfl (rn_ld Try.isAgg2 rfl rfl (hvE (f24.ld 1 rfl rfl))) ?_
   refine WO.pn 2 rfl ?_
   obtain rfl := Option.some.inj h
   exact WO.met _ trivial ⟨rfl, _, (Stp.refl _ _).wk rfl⟩ fun a ha => (ha.more (ha.more ha.nil rfl) rfl)
 rintro _ w25 _ ⟨rfl, K26, S27⟩
 have h := hK22
 refine WO.pn 1 rfl ?_
 obtain ⟨p37, h, hK28⟩ := Option.bind_eq_some_iff.mp h
 refine WO.meet [(27, 2), (28, 1), (29, 2), (30, 2), (31, 2)] [(32, 2), (33, 2), (34, 1), (35, 2), (36, 2), (37, 2)] (fun L w' => L = [(1, .pointer (some ⟨b1, 0, none⟩)), (37, .bool p37)] ∧ ∃ κ', Stp [] K26 w25 κ' w') trivial ?_ ?_
 ·
  revert h
  cases ht29 : p31 with
  | true =>
   intro h; replace h := cT h
   refine WO.pn 1 rfl ?_
   refine WO.ls rfl rfl rfl rfl ?_
   refine WO.pn 3 rfl ?_
   obtain rfl := Option.some.inj h
   exact WO.met _ trivial ⟨rfl, _, (Stp.refl _ _).wk rfl⟩ fun a ha => (ha.more (ha.more ha.nil rfl) rfl)
  | false =>
   intro h; replace h := cF h
   refine WO.k2 rfl rfl rfl rfl (rn_fieldAddr Try.runUnderlying50 rfl Try.sizeOf48 rfl rfl) ?_
   have f30 := f4.stp (S9.tr (S15.tr (S21.tr S27))) rfl rfl
   refine WO.k1 trivial rfl rfl rfl rfl (rn_ld Try.isAgg48 rfl rfl (hvE (f30.ld 3 rfl rfl))) ?_
   refine WO.k2 rfl rfl rfl rfl (rn_len Try.runUnderlying48 rfl rfl) ?_
   refine WO.pn 2 rfl ?_
   obtain rfl := Option.some.inj h
   exact WO.met _ trivial ⟨rfl, _, (Stp.refl _ _).wk rfl⟩ fun a ha => (ha.more (ha.more ha.nil rfl) rfl)
 rintro _ w31 _ ⟨rfl, K32, S33⟩
 have h := hK28
 refine WO.pn 1 rfl ?_
 obtain ⟨p43, h, hK34⟩ := Option.bind_eq_some_iff.mp h
 refine WO.meet [(33, 2), (34, 1), (35, 2), (36, 2), (37, 2)] [] (fun L w' => L = [(1, .pointer (some ⟨b1, 0, none⟩)), (43, .bool p43)] ∧ ∃ κ', Stp [] K32 w31 κ' w') trivial ?_ ?_
 ·
  revert h
  cases ht35 : p37 with
  | true =>
   intro h; replace h := cT h
   refine WO.pn 1 rfl ?_
   refine WO.ls rfl rfl rfl rfl ?_
   refine WO.pn 3 rfl ?_
   obtain rfl := Option.some.inj h
   exact WO.met _ trivial ⟨rfl, _, (Stp.refl _ _).wk rfl⟩ fun a ha => (ha.more (ha.more ha.nil rfl) rfl)
  | false =>
   intro h; replace h := cF h
   refine WO.k2 rfl rfl rfl rfl (rn_fieldAddr Try.runUnderlying50 rfl Try.sizeOf24 rfl rfl) ?_
   have f36 := f4.stp (S9.tr (S15.tr (S21.tr (S27.tr S33)))) rfl rfl
   refine WO.k1 trivial rfl rfl rfl rfl (rn_ld Try.isAgg24 rfl rfl (hvE (f36.ld 4 rfl rfl))) ?_
   refine WO.k2 rfl rfl rfl rfl (rn_len Try.runUnderlying24 rfl rfl) ?_
   refine WO.pn 2 rfl ?_
   obtain rfl := Option.some.inj h
   exact WO.met _ trivial ⟨rfl, _, (Stp.refl _ _).wk rfl⟩ fun a ha => (ha.more (ha.more ha.nil rfl) rfl)
 rintro _ w37 _ ⟨rfl, K38, S39⟩
 have h := hK34
 refine WO.fin ?_
 refine DN.seq ?_
 revert h
 cases ht40 : p43 with
 | true =>
  intro h; replace h := cT h
  refine WC.ct rfl ?_
  refine WC.seq ?_
  refine WC.rs [(0, 2)] rfl ?_
  refine WO.pn 1 rfl ?_
  refine WO.fin ?_
  refine DN.seq ?_
  refine WC.ret ?_
  refine DN.retThen ?_
  have f41 := hE.stp (S3.tr (S9.tr (S15.tr (S21.tr (S27.tr (S33.tr S39)))))) rfl rfl
  refine DN.res (l := [.tmp 2]) Try.results88 (res_tmp rfl rfl) rfl ?_
  obtain rfl := Option.some.inj h
  exact ⟨K38, rfl, f41⟩
 | false =>
  intro h; replace h := cF h
  refine WC.cf rfl ?_
  refine WC.skip ?_
  refine DN.seq ?_
  refine WC.seq ?_
  refine WC.rs [(0, 2), (1, 1), (2, 2), (3, 2), (4, 1), (5, 2), (6, 2)] rfl ?_
  refine WO.k2 rfl rfl rfl rfl (rn_fieldAddr Try.runUnderlying50 rfl Try.sizeOf2 rfl rfl) ?_
  have f42 := f4.stp (S9.tr (S15.tr (S21.tr (S27.tr (S33.tr S39))))) rfl rfl
  refine WO.k1 trivial rfl rfl rfl rfl (rn_ld Try.isAgg2 rfl rfl (hvE (f42.ld 0 rfl rfl))) ?_
  refine WO.pn 1 rfl ?_
  refine WO.k2 rfl rfl rfl rfl (rn_fieldAddr Try.runUnderlying50 rfl Try.sizeOf2 rfl rfl) ?_
  refine WO.k1 trivial rfl rfl rfl rfl (rn_ld Try.isAgg2 rfl rfl (hvE (f42.ld 1 rfl rfl))) ?_
  refine WO.pn 2 rfl ?_
  refine WO.fin ?_
  refine DN.seq ?_
  refine WC.seq ?_
  refine WC.seq ?_
  refine WC.rs [(0, 2), (1, 1), (2, 2), (3, 2)] rfl ?_
  refine WO.k2 rfl rfl rfl rfl (rn_fieldAddr Try.runUnderlying50 rfl Try.sizeOf48 rfl rfl) ?_
  refine WO.k1 trivial rfl rfl rfl rfl (rn_ld Try.isAgg48 rfl rfl (hvE (f42.ld 3 rfl rfl))) ?_
  refine WO.k2 rfl rfl rfl rfl (rn_len Try.runUnderlying48 rfl rfl) ?_
  refine WO.pn 1 rfl ?_
  refine WO.fin ?_
  refine DN.seq ?_
  have hN43 : (p0.Gates.length : Int) ≤ 9223372036854775807 := g0_3.len_le
  obtain ⟨q2, hq45, hK44⟩ := Option.bind_eq_some_iff.mp h
  clear h
  refine WC.meet (fun L w' => ∃ (κ' : Col), L = [(1, .pointer (some ⟨b1, 0, none⟩))] ∧ Stp [3] K38 w37 κ' w' ∧ q2 = Sum.inr ()) ?_ ?_
  ·
   refine WC.block ?_
   refine WC.loop (fun k L w' => ∃ (κ' : Col) (v53 : Int), L = [(1, .pointer (some ⟨b1, 0, none⟩)), (3, .int .i64 (IntKind.i64.wrap ((IntKind.i64.wrap (1 + p0.Inputs)) + p0.Latches))), (51, .slice a0_3 p0.Gates.length u0_3), (52, .int .i64 (p0.Gates.length : Int)), (53, .int .i64 v53)] ∧ Stp [3] K38 w37 κ' w' ∧ 0 ≤ v53 ∧ Int.toNat ((p0.Gates.length : Int) - v53) = k ∧ cntM (i_isCircuit_b0 p0) k v53 () = some q2) ⟨_, _, ⟨K38, 0, rfl, (Stp.refl _ _).wk rfl, (by decide), (by simp), hq45⟩, fun a ha => (ha.more (ha.more (ha.more (ha.more (ha.more ha.nil rfl) rfl) rfl) rfl) rfl)⟩ ?_
   rintro k _ w49 ⟨K50, v53, rfl, S51, hj43, hJ43, h⟩
   rcases k with _ | k
   ·
    have hk52 := h; obtain ⟨o43, h⟩ := ex_eq (Sum.inr (Sum.inl ()) : Bool ⊕ ((Unit) ⊕ (Unit)))
    have hc43 : decide (v53 < (p0.Gates.length : Int)) = false := decide_eq_false (by omega)
    refine WC.seq ?_
    refine WC.rs [(0, 2)] rfl ?_
    refine WO.pn 1 rfl ?_
    refine WO.fin ?_
    refine DN.seq ?_
    refine WC.seq ?_
    refine WC.cf' rfl hc43 ?_
    refine WC.exit ?_
    refine DN.exitThen ?_
    refine DN.exitThen ?_
    obtain rfl := Option.some.inj h
    have h := hk52
    refine DN.hit ?_
    obtain rfl := Option.some.inj h
    exact DN.meet _ ⟨K50, rfl, S51.wk rfl, rfl⟩ fun a ha => (ha.more ha.nil rfl)
   ·
    obtain ⟨o43, h, hk52⟩ := Option.bind_eq_some_iff.mp h; unfold i_isCircuit_b0 at h
    have hc43 : decide (v53 < (p0.Gates.length : Int)) = true := decide_eq_true (by omega)
    refine WC.seq ?_
    refine WC.rs [(0, 2)] rfl ?_
    refine WO.pn 1 rfl ?_
    refine WO.fin ?_
    refine DN.seq ?_
    refine WC.seq ?_
    refine WC.ct' rfl hc43 ?_
    refine WC.skip ?_
    refine DN.seq ?_
    refine WC.seq ?_
    refine WC.block ?_
    refine WC.seq ?_
    refine WC.rs [(0, 2), (1, 2), (2, 1), (3, 1), (4, 2), (5, 1)] rfl ?_
    refine WO.pn 1 rfl ?_
    obtain ⟨x56, hx56, h⟩ := Option.bind_eq_some_iff.mp h
    refine WO.k2 rfl rfl rfl rfl (rn_index g0_3 hx56 Try.runUnderlying48 Try.sizeOf155 rfl rfl rfl rfl) ?_
    have f53 := g0_3.stp (S3.tr (S9.tr (S15.tr (S21.tr (S27.tr (S33.tr (S39.tr S51))))))) rfl rfl
    obtain ⟨cse54, hre54, hle54⟩ := (f53).gSt hx56
    obtain rfl := Gate.un hre54
    refine WO.k1 trivial rfl rfl rfl rfl (rn_la (cs := [.int .i64 x56.A, .int .i64 x56.B]) Try.isAgg155 Try.sizeOf155 rfl rfl rfl (haE hle54)) ?_
    refine WO.alloc (κ := K50) 3 rfl rfl rfl rfl rfl Try.zeroValue155 rfl fun b5 w55 K56 S57 f58 => ⟨trivial, ?_⟩
    refine WO.pn 1 rfl ?_
    refine WO.stB0 (κ := K56) 3 (vc := [.int .i64 x56.A, .int .i64 x56.B]) rfl rfl rfl rfl rfl rfl rfl Try.sizeOf155 rfl rfl f58 rfl fun w59 S60 f61 => ⟨trivial, ?_⟩
    refine WO.fin ?_
    refine DN.seq ?_
    refine WC.seq ?_
    refine WC.rs [(0, 2), (1, 1), (2, 2), (3, 1), (4, 1), (5, 2), (6, 2), (7, 2), (8, 2), (9, 1), (10, 2)] rfl ?_
    refine WO.k2 rfl rfl rfl rfl (rn_fieldAddr Try.runUnderlying155 rfl Try.sizeOf2 rfl rfl) ?_
    refine WO.k1 trivial rfl rfl rfl rfl (rn_ld Try.isAgg2 rfl rfl (hvE (f61.ld 0 rfl rfl))) ?_
    refine WO.k2 rfl rfl rfl rfl (rn_fieldAddr Try.runUnderlying155 rfl Try.sizeOf2 rfl rfl) ?_
    refine WO.k1 trivial rfl rfl rfl rfl (rn_ld Try.isAgg2 rfl rfl (hvE (f61.ld 1 rfl rfl))) ?_
    refine WO.bl (κ := K56) (E := (Ep.int .i64)) 4 [] (parts := [(0, .tmp 59), (1, .tmp 61)]) (cells := [.int .i64 x56.A, .int .i64 x56.B]) (xs := ([x56.A, x56.B] : List Int)) rfl rfl rfl rfl rfl rfl Try.underlying24 Tryinfo2 rfl rfl rfl rfl rfl rfl rfl rfl rfl rfl ⟨[.int .i64 x56.A], [.int .i64 x56.B], Zl K56 w59 [], Zl K56 w59 [], rfl, Zl.sp (l1 := []) (l2 := []) rfl, Zl.sr (l1 := []) (l2 := []), rfl, ⟨[.int .i64 x56.B], [], Zl K56 w59 [], Zl K56 w59 [], rfl, Zl.sp (l1 := []) (l2 := []) rfl, Zl.sr (l1 := []) (l2 := []), rfl, rfl⟩⟩ fun a62 u62 w62 K63 S64 f65 => ⟨trivial, ?_⟩
    refine WO.pn 4 rfl ?_
    obtain ⟨x67, hx67, h⟩ := Option.bind_eq_some_iff.mp h
    refine WO.call rfl rfl rfl rfl rfl rfl Try.call80 (i_areLetters_ok (κ := fun b => mp [] 0 (K63 b)) (Sl.map f65.rdc (mp [] 0) rfl rfl) hx67) ?_
    rintro _ w66 ⟨k67, rfl, e68⟩
    obtain ⟨K69, S70, m71⟩ := Ent.mixed (l := []) (κ := K63) e68 5 rfl
    refine ⟨trivial, ?_⟩
    refine WO.pn 1 rfl ?_
    refine WO.fin ?_
    refine DN.seq ?_
    revert h
    cases ht73 : (!x67) with
    | true =>
     intro h; replace h := cT h
     refine WC.ct rfl ?_
     refine WC.seq ?_
     refine WC.rs [(0, 2)] rfl ?_
     refine WO.pn 1 rfl ?_
     refine WO.fin ?_
     refine DN.seq ?_
     refine WC.ret ?_
     refine DN.retBlock ?_
     refine DN.retThen ?_
     refine DN.retThen ?_
     obtain rfl := Option.some.inj h
     obtain rfl := Option.some.inj hk52
     have h := hK44
     dsimp only [aft] at h
     refine DN.retBlock ?_
     refine DN.retMeet ?_
     refine DN.retThen ?_
     have f74 := hE.stp (S3.tr (S9.tr (S15.tr (S21.tr (S27.tr (S33.tr (S39.tr (S51.tr (S57.tr (S60.tr (S64.tr S70))))))))))) rfl rfl
     refine DN.res (l := [.tmp 2]) Try.results88 (res_tmp rfl rfl) rfl ?_
     obtain rfl := Option.some.inj h
     exact ⟨K69, rfl, f74⟩
    | false =>
     intro h; replace h := cF h
     refine WC.cf rfl ?_
     refine WC.skip ?_
     refine DN.block ?_
     refine DN.seq ?_
     refine WC.rs [(0, 2), (1, 2)] rfl ?_
     refine WO.pn 2 rfl ?_
     refine WO.fin ?_
     have hw43 : IntKind.wrap .i64 (v53 + 1) = v53 + 1 := wr1 hj43 (of_decide_eq_true hc43) hN43
     rw [hw43]
     have hc43 := of_decide_eq_true hc43
     obtain rfl := Option.some.inj h
     refine DN.round fun a ha => ?_
     exact ⟨k, _, Nat.lt_succ_self _, ⟨K69, v53 + 1, rfl, (S51.tr (S57.tr (S60.tr (S64.tr S70)))).wk rfl, by omega, by omega, hk52⟩, (ha.more (ha.more (ha.more (ha.more (ha.more ha.nil rfl) rfl) rfl) rfl) rfl)⟩
  rintro _ w46 ⟨K47, rfl, S48, rfl⟩
  have h := hK44
  dsimp only [aft] at h
  refine DN.seq ?_
  refine WC.seq ?_
  refine WC.rx (κ := K47) 2 none [(0, 2), (1, 0), (2, 0), (3, 1), (4, 2), (5, 1), (6, 2), (7, 2), (8, 0), (9, 0), (10, 1), (11, 2), (12, 1), (13, 2), (14, 2)] [] (by kernel_rfl) (by kernel_rfl) fun w76 S75 => ?_
  refine WO.k2 rfl rfl rfl rfl (rn_fieldAddr Try.runUnderlying50 rfl Try.sizeOf24 rfl rfl) ?_
  have f77 := f42.stp (S48.tr S75) rfl rfl
  refine WO.k0 rfl rfl rfl rfl (rn_ld Try.isAgg24 rfl rfl (hvC (f77.ld 2 rfl rfl) rfl)) ?_
  refine WO.k0 rfl rfl rfl rfl (rn_la (cs := [.int .i64 p0.Inputs, .int .i64 p0.Latches, .slice a0_2 p0.Next.length u0_2, .slice a0_3 p0.Gates.length u0_3, .slice a0_4 p0.Outs.length u0_4]) Try.isAgg50 Try.sizeOf50 rfl rfl rfl (haC f77.cells rfl)) ?_
  obtain ⟨x73, hx73, h⟩ := Option.bind_eq_some_iff.mp h
  have f78 := g0_2.stp (S3.tr (S9.tr (S15.tr (S21.tr (S27.tr (S33.tr (S39.tr (S48.tr S75)))))))) rfl rfl
  have f79 := g0_3.stp (S3.tr (S9.tr (S15.tr (S21.tr (S27.tr (S33.tr (S39.tr (S48.tr S75)))))))) rfl rfl
  have f80 := g0_4.stp (S3.tr (S9.tr (S15.tr (S21.tr (S27.tr (S33.tr (S39.tr (S48.tr S75)))))))) rfl rfl
  refine WO.call rfl rfl rfl rfl rfl rfl Try.call139 (i_signalsOf_ok (κ := fun b => mp [] 0 (K47 b)) (Sl.map f78 (mp [] 0) rfl rfl) (Sl.map f79 (mp [] 0) rfl rfl) (Sl.map f80 (mp [] 0) rfl rfl) hx73) ?_
  rintro _ w81 ⟨k82, rfl, e83⟩
  obtain ⟨K84, S85, m86⟩ := Ent.mixed (l := []) (κ := K47) e83 3 rfl
  refine ⟨(S85.cl rfl), ?_⟩
  refine WO.pn 1 rfl ?_
  obtain ⟨x75, hx75, h⟩ := Option.bind_eq_some_iff.mp h
  have f88 := f78.stp S85 rfl rfl
  refine WO.call rfl rfl rfl rfl rfl rfl Try.call80 (i_areLetters_ok (κ := fun b => mp [] 0 (K84 b)) (Sl.map f88 (mp [] 0) rfl rfl) hx75) ?_
  rintro _ w89 ⟨k90, rfl, e91⟩
  obtain ⟨K92, S93, m94⟩ := Ent.mixed (l := []) (κ := K84) e91 5 rfl
  refine ⟨((S85.tr S93).cl rfl), ?_⟩
  refine WO.pn 1 rfl ?_
  obtain ⟨p83, h, hK96⟩ := Option.bind_eq_some_iff.mp h
  refine WO.meet [(7, 2), (8, 0), (9, 0), (10, 1), (11, 2), (12, 1), (13, 2)] [(14, 2)] (fun L w' => L = [(83, .bool p83)] ∧ ∃ κ', Stp [] K92 w89 κ' w') ((S85.tr S93).cl rfl) ?_ ?_
  ·
   revert h
   cases ht97 : x75 with
   | true =>
    intro h; replace h := cT h
    refine WO.k2 rfl rfl rfl rfl (rn_fieldAddr Try.runUnderlying50 rfl Try.sizeOf24 rfl rfl) ?_
    refine WO.k0 rfl rfl rfl rfl (rn_ld Try.isAgg24 rfl rfl (hvC (f77.ld 4 rfl rfl) rfl)) ?_
    refine WO.k0 rfl rfl rfl rfl (rn_la (cs := [.int .i64 p0.Inputs, .int .i64 p0.Latches, .slice a0_2 p0.Next.length u0_2, .slice a0_3 p0.Gates.length u0_3, .slice a0_4 p0.Outs.length u0_4]) Try.isAgg50 Try.sizeOf50 rfl rfl rfl (haC f77.cells rfl)) ?_
    obtain ⟨x80, hx80, h⟩ := Option.bind_eq_some_iff.mp h
    have f98 := f88.stp S93 rfl rfl
    have f99 := f79.stp (S85.tr S93) rfl rfl
    have f100 := f80.stp (S85.tr S93) rfl rfl
    refine WO.call rfl rfl rfl rfl rfl rfl Try.call139 (i_signalsOf_ok (κ := fun b => mp [] 0 (K92 b)) (Sl.map f98 (mp [] 0) rfl rfl) (Sl.map f99 (mp [] 0) rfl rfl) (Sl.map f100 (mp [] 0) rfl rfl) hx80) ?_
    rintro _ w101 ⟨k102, rfl, e103⟩
    obtain ⟨K104, S105, m106⟩ := Ent.mixed (l := []) (κ := K92) e103 7 rfl
    refine ⟨((S85.tr (S93.tr S105)).cl rfl), ?_⟩
    refine WO.pn 1 rfl ?_
    obtain ⟨x82, hx82, h⟩ := Option.bind_eq_some_iff.mp h
    have f108 := f100.stp S105 rfl rfl
    refine WO.call rfl rfl rfl rfl rfl rfl Try.call80 (i_areLetters_ok (κ := fun b => mp [] 0 (K104 b)) (Sl.map f108 (mp [] 0) rfl rfl) hx82) ?_
    rintro _ w109 ⟨k110, rfl, e111⟩
    obtain ⟨K112, S113, m114⟩ := Ent.mixed (l := []) (κ := K104) e111 9 rfl
    refine ⟨((S85.tr (S93.tr (S105.tr S113))).cl rfl), ?_⟩
    refine WO.pn 1 rfl ?_
    obtain rfl := Option.some.inj h
    exact WO.met _ ((S85.tr (S93.tr (S105.tr S113))).cl rfl) ⟨rfl, _, (S105.tr S113).wk rfl⟩ fun a ha => (ha.more ha.nil rfl)
   | false =>
    intro h; replace h := cF h
    refine WO.pn 1 rfl ?_
    refine WO.qs rfl rfl rfl rfl ?_
    refine WO.qs rfl rfl rfl rfl ?_
    refine WO.ls rfl rfl rfl rfl ?_
    refine WO.pn 1 rfl ?_
    refine WO.ls rfl rfl rfl rfl ?_
    refine WO.pn 1 rfl ?_
    obtain rfl := Option.some.inj h
    exact WO.met _ ((S85.tr S93).cl rfl) ⟨rfl, _, (Stp.refl _ _).wk rfl⟩ fun a ha => (ha.more ha.nil rfl)
  rintro _ w116 _ ⟨rfl, K117, S118⟩
  have h := hK96
  refine WO.pn 1 rfl ?_
  refine WO.nx ?_
  refine WO.fin ?_
  refine DN.seq ?_
  refine WC.ret ?_
  have f119 := hE.stp (S3.tr (S9.tr (S15.tr (S21.tr (S27.tr (S33.tr (S39.tr (S48.tr (S75.tr (S85.tr (S93.tr S118))))))))))) rfl rfl
  refine DN.res (l := [.tmp 2]) Try.results88 (res_tmp rfl rfl) rfl ?_
  obtain rfl := Option.some.inj h
  exact ⟨K117, rfl, f119⟩

/- loop.example/g00869/impl.OutsOver -/
theorem i_OutsOver_ok {w : World} {κ : Col} {a0_2 : Option Addr} {u0_2 : Nat} {a0_3 : Option Addr} {u0_3 : Nat} {a0_4 : Option Addr} {u0_4 : Nat} {p0 : Circuit} {a1 : Option Addr} {u1 : Nat} {p1 : (List Int)} (g0_2 : Rd (Rp.int .i64) κ w 0 a0_2 u0_2 p0.Next) (g0_3 : Rd Gate.rp κ w 0 a0_3 u0_3 p0.Gates) (g0_4 : Rd (Rp.int .i64) κ w 0 a0_4 u0_4 p0.Outs) (g1 : Rd (Rp.int .i64) κ w 0 a1 u1 p1) {r : (List Int)} (h : i_OutsOver p0 p1 = some r) : Ret Try.prog 40 [.agg #[.int .i64 p0.Inputs, .int .i64 p0.Latches, .slice a0_2 p0.Next.length u0_2, .slice a0_3 p0.Gates.length u0_3, .slice a0_4 p0.Outs.length u0_4], .slice a1 p1.length u1] w (fun v w' => ∃ (κ' : Col) (ra0 : Option Addr) (ru0 : Nat), v = .slice ra0 r.length ru0 ∧ Ent κ w κ' w' ∧ Oc (Ep.int .i64) 2 κ' w' 2 ra0 ru0 r) := by
 unfold i_OutsOver at h
 refine Ret.enter Try.func40 rfl Try.ntmps40 rfl ?_
 dsimp only [envOf]
 have hE := Ent.refl κ w
 refine WC.seq ?_
 refine WC.rs [(0, 1), (1, 2)] rfl ?_
 refine WO.box (κ := κ) 2 rfl rfl rfl rfl rfl rfl rfl fun b2 w1 K2 S3 f4 => ⟨trivial, ?_⟩
 refine WO.pn 1 rfl ?_
 refine WO.fin ?_
 refine DN.seq ?_
 refine WC.seq ?_
 refine WC.seq ?_
 refine WC.rs [(0, 1), (1, 1), (2, 2), (3, 2), (4, 2), (5, 2), (6, 2), (7, 2), (8, 2), (9, 2), (10, 2), (11, 1), (12, 2), (13, 1), (14, 2), (15, 2)] rfl ?_
 refine WO.k1 trivial rfl rfl rfl rfl (rn_la (cs := [.int .i64 p0.Inputs, .int .i64 p0.Latches, .slice a0_2 p0.Next.length u0_2, .slice a0_3 p0.Gates.length u0_3, .slice a0_4 p0.Outs.length u0_4]) Try.isAgg50 Try.sizeOf50 rfl rfl rfl (haE f4.cells)) ?_
 obtain ⟨x12, hx12, h⟩ := Option.bind_eq_some_iff.mp h
 have f5 := g0_2.stp S3 rfl rfl
 have f6 := g0_3.stp S3 rfl rfl
 have f7 := g0_4.stp S3 rfl rfl
 refine WO.call rfl rfl rfl rfl rfl rfl Try.call88 (i_isCircuit_ok (κ := fun b => mp [] 0 (K2 b)) (Sl.map f5 (mp [] 0) rfl rfl) (Sl.map f6 (mp [] 0) rfl rfl) (Sl.map f7 (mp [] 0) rfl rfl) hx12) ?_
 rintro _ w8 ⟨k9, rfl, e10⟩
 obtain ⟨K11, S12, m13⟩ := Ent.mixed (l := []) (κ := K2) e10 3 rfl
 refine ⟨trivial, ?_⟩
 refine WO.pn 2 rfl ?_
 obtain ⟨p18, h, hK15⟩ := Option.bind_eq_some_iff.mp h
 refine WO.meet [(4, 2), (5, 2), (6, 2), (7, 2)] [(8, 2), (9, 2), (10, 2), (11, 1), (12, 2), (13, 1), (14, 2), (15, 2)] (fun L w' => L = [(1, .slice a1 p1.length u1), (2, .pointer (some ⟨b2, 0, none⟩)), (18, .bool p18)] ∧ ∃ κ', Stp [] K11 w8 κ' w') trivial ?_ ?_
 ·
  revert h
  cases ht16 : (!x12) with
  | true =>
   intro h; replace h := cT h
   refine WO.pn 4 rfl ?_
   obtain rfl := Option.some.inj h
   exact WO.met _ trivial ⟨rfl, _, (Stp.refl _ _).wk rfl⟩ fun a ha => (ha.more (ha.more (ha.more ha.nil rfl) rfl) rfl)
  | false =>
   intro h; replace h := cF h
   refine WO.pn 1 rfl ?_
   refine WO.k2 rfl rfl rfl rfl (rn_len Try.runUnderlying24 rfl rfl) ?_
   refine WO.pn 2 rfl ?_
   obtain rfl := Option.some.inj h
   exact WO.met _ trivial ⟨rfl, _, (Stp.refl _ _).wk rfl⟩ fun a ha => (ha.more (ha.more (ha.more ha.nil rfl) rfl) rfl)
 rintro _ w17 _ ⟨rfl, K18, S19⟩
 have h := hK15
 refine WO.pn 1 rfl ?_
 obtain ⟨p26, h, hK20⟩ := Option.bind_eq_some_iff.mp h
 refine WO.meet [(9, 2), (10, 2), (11, 1), (12, 2), (13, 1), (14, 2), (15, 2)] [] (fun L w' => L = [(1, .slice a1 p1.length u1), (2, .pointer (some ⟨b2, 0, none⟩)), (26, .bool p26)] ∧ ∃ κ', Stp [] K18 w17 κ' w') trivial ?_ ?_
 ·
  revert h
  cases ht21 : p18 with
  | true =>
   intro h; replace h := cT h
   refine WO.pn 2 rfl ?_
   refine WO.ls rfl rfl rfl rfl ?_
   refine WO.pn 1 rfl ?_
   refine WO.ls rfl rfl rfl rfl ?_
   refine WO.pn 2 rfl ?_
   obtain rfl := Option.some.inj h
   exact WO.met _ trivial ⟨rfl, _, (Stp.refl _ _).wk rfl⟩ fun a ha => (ha.more (ha.more (ha.more ha.nil rfl) rfl) rfl)
  | false =>
   intro h; replace h := cF h
   refine WO.pn 1 rfl ?_
   refine WO.k2 rfl rfl rfl rfl (rn_fieldAddr Try.runUnderlying50 rfl Try.sizeOf2 rfl rfl) ?_
   have f22 := f4.stp (S12.tr S19) rfl rfl
   refine WO.k1 trivial rfl rfl rfl rfl (rn_ld Try.isAgg2 rfl rfl (hvE (f22.ld 0 rfl rfl))) ?_
   obtain ⟨_z23, hz23, h⟩ := Option.bind_eq_some_iff.mp h
   refine WO.k2 rfl rfl rfl rfl (rn_shl rfl rfl rfl (nn_ok hz23)) ?_
   obtain ⟨x24, hx24, h⟩ := Option.bind_eq_some_iff.mp h
   have f23 := g1.stp (S3.tr (S12.tr S19)) rfl rfl
   refine WO.call rfl rfl rfl rfl rfl rfl Try.call80 (i_areLetters_ok (κ := fun b => mp [] 0 (K18 b)) (Sl.map f23 (mp [] 0) rfl rfl) hx24) ?_
   rintro _ w24 ⟨k25, rfl, e26⟩
   obtain ⟨K27, S28, m29⟩ := Ent.mixed (l := []) (κ := K18) e26 5 rfl
   refine ⟨trivial, ?_⟩
   refine WO.pn 2 rfl ?_
   obtain rfl := Option.some.inj h
   exact WO.met _ trivial ⟨rfl, _, S28.wk rfl⟩ fun a ha => (ha.more (ha.more (ha.more ha.nil rfl) rfl) rfl)
 rintro _ w31 _ ⟨rfl, K32, S33⟩
 have h := hK20
 refine WO.fin ?_
 refine DN.seq ?_
 revert h
 cases ht34 : p26 with
 | true =>
  intro h; replace h := cT h
  refine WC.ct rfl ?_
  refine WC.seq ?_
  refine WC.rs [(0, 2)] rfl ?_
  refine WO.pn 1 rfl ?_
  refine WO.fin ?_
  refine DN.seq ?_
  refine WC.ret ?_
  refine DN.retThen ?_
  have f35 := hE.stp (S3.tr (S12.tr (S19.tr S33))) rfl rfl
  refine DN.res (l := [.tmp 4]) Try.results40 (res_tmp rfl rfl) rfl ?_
  obtain rfl := Option.some.inj h
  exact ⟨K32, none, 0, rfl, f35, Ow.nil⟩
 | false =>
  intro h; replace h := cF h
  refine WC.cf rfl ?_
  refine WC.skip ?_
  refine DN.seq ?_
  refine WC.seq ?_
  refine WC.rs [(0, 1), (1, 2)] rfl ?_
  refine WO.bl0 (κ := K32) (E := (Ep.int .i64)) 5 rfl rfl rfl rfl rfl Try.underlying24 Tryinfo2 rfl fun a27 u27 w36 K37 S38 f39 => ⟨trivial, ?_⟩
  refine WO.pn 1 rfl ?_
  refine WO.fin ?_
  refine DN.seq ?_
  refine WC.seq ?_
  refine WC.rs [(0, 2)] rfl ?_
  refine WO.pn 1 rfl ?_
  refine WO.fin ?_
  refine DN.seq ?_
  refine WC.seq ?_
  refine WC.seq ?_
  refine WC.rs [(0, 2), (1, 2), (2, 2)] rfl ?_
  refine WO.pn 1 rfl ?_
  refine WO.k2 rfl rfl rfl rfl (rn_len Try.runUnderlying24 rfl rfl) ?_
  refine WO.pn 1 rfl ?_
  refine WO.fin ?_
  refine DN.seq ?_
  have hN40 : (p1.length : Int) ≤ 9223372036854775807 := g1.len_le
  obtain ⟨q2, hq42, hK41⟩ := Option.bind_eq_some_iff.mp h
  clear h
  refine WC.meet (fun L w' => ∃ (κ' : Col) (s3 : (List Int) × Int) (las3_0 : Option Addr) (lus3_0 : Nat), L = [(5, .slice las3_0 s3.1.length lus3_0)] ∧ Stp [5] K37 w36 κ' w' ∧ Oc (Ep.int .i64) 2 κ' w' 5 las3_0 lus3_0 s3.1 ∧ q2 = Sum.inr s3) ?_ ?_
  ·
   refine WC.block ?_
   refine WC.loop (fun k L w' => ∃ (κ' : Col) (v30 : Int) (s1 : (List Int) × Int) (las1_0 : Option Addr) (lus1_0 : Nat), L = [(2, .pointer (some ⟨b2, 0, none⟩)), (5, .slice las1_0 s1.1.length lus1_0), (6, .int .i64 s1.2), (28, .slice a1 p1.length u1), (29, .int .i64 (p1.length : Int)), (30, .int .i64 v30)] ∧ Stp [5] K37 w36 κ' w' ∧ Oc (Ep.int .i64) 2 κ' w' 5 las1_0 lus1_0 s1.1 ∧ 0 ≤ v30 ∧ Int.toNat ((p1.length : Int) - v30) = k ∧ cntM (i_OutsOver_b0 p0 p1) k v30 s1 = some q2) ⟨_, _, ⟨K37, 0, ((([] : List Int) : (List Int)), (0 : Int)), a27, u27, rfl, (Stp.refl _ _).wk rfl, f39, (by decide), (by simp), hq42⟩, fun a ha => (ha.more (ha.more (ha.more (ha.more (ha.more (ha.more ha.nil rfl) rfl) rfl) rfl) rfl) rfl)⟩ ?_
   rintro k _ w47 ⟨K48, v30, s1, las1_0, lus1_0, rfl, S49, f50, hj40, hJ40, h⟩
   rcases k with _ | k
   ·
    have hk51 := h; obtain ⟨o40, h⟩ := ex_eq (Sum.inr (Sum.inl s1) : (List Int) ⊕ (((List Int) × Int) ⊕ ((List Int) × Int)))
    have hc40 : decide (v30 < (p1.length : Int)) = false := decide_eq_false (by omega)
    refine WC.seq ?_
    refine WC.rs [(0, 2)] rfl ?_
    refine WO.pn 1 rfl ?_
    refine WO.fin ?_
    refine DN.seq ?_
    refine WC.seq ?_
    refine WC.cf' rfl hc40 ?_
    refine WC.exit ?_
    refine DN.exitThen ?_
    refine DN.exitThen ?_
    obtain rfl := Option.some.inj h
    have h := hk51
    refine DN.hit ?_
    obtain rfl := Option.some.inj h
    exact DN.meet _ ⟨K48, ((s1.1 : (List Int)), (s1.2 : Int)), las1_0, lus1_0, rfl, S49.wk rfl, f50, rfl⟩ fun a ha => (ha.more ha.nil rfl)
   ·
    obtain ⟨o40, h, hk51⟩ := Option.bind_eq_some_iff.mp h; unfold i_OutsOver_b0 at h
    have hc40 : decide (v30 < (p1.length : Int)) = true := decide_eq_true (by omega)
    refine WC.seq ?_
    refine WC.rs [(0, 2)] rfl ?_
    refine WO.pn 1 rfl ?_
    refine WO.fin ?_
    refine DN.seq ?_
    refine WC.seq ?_
    refine WC.ct' rfl hc40 ?_
    refine WC.skip ?_
    refine DN.seq ?_
    refine WC.seq ?_
    refine WC.block ?_
    refine WC.seq ?_
    refine WC.rs [(0, 2), (1, 1), (2, 2)] rfl ?_
    obtain ⟨x32, hx32, h⟩ := Option.bind_eq_some_iff.mp h
    refine WO.k2 rfl rfl rfl rfl (rn_index g1 hx32 Try.runUnderlying24 Try.sizeOf2 rfl rfl rfl rfl) ?_
    have f52 := g1.stp (S3.tr (S12.tr (S19.tr (S33.tr (S38.tr S49))))) rfl rfl
    refine WO.k1 trivial rfl rfl rfl rfl (rn_ld Try.isAgg2 rfl rfl (hvE (f52.gInt hx32))) ?_
    refine WO.pn 1 rfl ?_
    refine WO.fin ?_
    refine DN.seq ?_
    refine WC.seq ?_
    refine WC.rs [(0, 1), (1, 2), (2, 2), (3, 1), (4, 2), (5, 2), (6, 2), (7, 2), (8, 2)] rfl ?_
    have f53 := f4.stp (S12.tr (S19.tr (S33.tr (S38.tr S49)))) rfl rfl
    refine WO.k1 trivial rfl rfl rfl rfl (rn_la (cs := [.int .i64 p0.Inputs, .int .i64 p0.Latches, .slice a0_2 p0.Next.length u0_2, .slice a0_3 p0.Gates.length u0_3, .slice a0_4 p0.Outs.length u0_4]) Try.isAgg50 Try.sizeOf50 rfl rfl rfl (haE f53.cells)) ?_
    refine WO.pn 2 rfl ?_
    obtain ⟨x38, hx38, h⟩ := Option.bind_eq_some_iff.mp h
    have f54 := f5.stp (S12.tr (S19.tr (S33.tr (S38.tr S49)))) rfl rfl
    have f55 := f6.stp (S12.tr (S19.tr (S33.tr (S38.tr S49)))) rfl rfl
    have f56 := f7.stp (S12.tr (S19.tr (S33.tr (S38.tr S49)))) rfl rfl
    refine WO.call rfl rfl rfl rfl rfl rfl Try.call89 (i_stepOf_ok (κ := fun b => mp [] 0 (K48 b)) (Sl.map f54 (mp [] 0) rfl rfl) (Sl.map f55 (mp [] 0) rfl rfl) (Sl.map f56 (mp [] 0) rfl rfl) hx38) ?_
    rintro _ w57 ⟨k58, rfl, e59⟩
    obtain ⟨K60, S61, m62⟩ := Ent.mixed (l := []) (κ := K48) e59 6 rfl
    refine ⟨trivial, ?_⟩
    refine WO.pn 5 rfl ?_
    refine WO.fin ?_
    refine DN.seq ?_
    refine WC.seq ?_
    refine WC.rs [(0, 2), (1, 2), (2, 1), (3, 1), (4, 2)] rfl ?_
    refine WO.pn 2 rfl ?_
    refine WO.bl (κ := K60) (E := (Ep.int .i64)) 8 [] (parts := [(0, .tmp 42)]) (cells := [.int .i64 x38.2]) (xs := ([x38.2] : List Int)) rfl rfl rfl rfl rfl rfl Try.underlying24 Tryinfo2 rfl rfl rfl rfl rfl rfl rfl rfl rfl rfl ⟨[.int .i64 x38.2], [], Zl K60 w57 [], Zl K60 w57 [], rfl, Zl.sp (l1 := []) (l2 := []) rfl, Zl.sr (l1 := []) (l2 := []), rfl, rfl⟩ fun a43 u43 w64 K65 S66 f67 => ⟨trivial, ?_⟩
    obtain ⟨x44, hx44, h⟩ := Option.bind_eq_some_iff.mp h
    have f68 := f50.stp (S61.tr S66) rfl rfl
    refine WO.app (κ := K65) (E := (Ep.int .i64)) 5 [] rfl rfl rfl rfl rfl rfl rfl rfl rfl Try.underlying24 Tryinfo2 rfl rfl rfl rfl f68 (Sl.srcP (pu_int _) f67.rdc) sy_false hx44 rfl fun a44 u44 w69 K70 S71 f72 => ⟨trivial, ?_⟩
    refine WO.pn 1 rfl ?_
    refine WO.fin ?_
    refine DN.seq ?_
    refine WC.rs [(0, 2), (1, 2)] rfl ?_
    refine WO.pn 2 rfl ?_
    refine WO.fin ?_
    refine DN.block ?_
    refine DN.seq ?_
    refine WC.rs [(0, 2), (1, 2)] rfl ?_
    refine WO.pn 2 rfl ?_
    refine WO.fin ?_
    have hw40 : IntKind.wrap .i64 (v30 + 1) = v30 + 1 := wr1 hj40 (of_decide_eq_true hc40) hN40
    rw [hw40]
    have hc40 := of_decide_eq_true hc40
    obtain rfl := Option.some.inj h
    refine DN.round fun a ha => ?_
    exact ⟨k, _, Nat.lt_succ_self _, ⟨K70, v30 + 1, ((x44 : (List Int)), (x38.1 : Int)), a44, u44, rfl, (S49.tr (S61.tr (S66.tr S71))).wk rfl, f72, by omega, by omega, hk51⟩, (ha.more (ha.more (ha.more (ha.more (ha.more (ha.more ha.nil rfl) rfl) rfl) rfl) rfl) rfl)⟩
  rintro _ w43 ⟨K44, s3, las3_0, lus3_0, rfl, S45, f46, rfl⟩
  have h := hK41
  dsimp only [aft] at h
  refine DN.seq ?_
  refine WC.seq ?_
  refine WC.rs [(0, 2), (1, 2)] rfl ?_
  refine WO.pn 2 rfl ?_
  refine WO.fin ?_
  refine DN.seq ?_
  refine WC.ret ?_
  have f73 := hE.stp (S3.tr (S12.tr (S19.tr (S33.tr (S38.tr S45))))) rfl rfl
  refine DN.res (l := [.tmp 4]) Try.results40 (res_tmp rfl rfl) rfl ?_
  obtain rfl := Option.some.inj h
  exact ⟨(fun b => ren [(5, 2)] (K44 b)), las3_0, lus3_0, rfl, (f73.map (ren [(5, 2)]) rfl rfl), (f46.map (ren [(5, 2)]) rfl rfl)⟩

/- loop.example/g00869/laws.FnExactOutsOver -/
theorem l_FnExactOutsOver_ok {w : World} {κ : Col} {a0_2 : Option Addr} {u0_2 : Nat} {a0_3 : Option Addr} {u0_3 : Nat} {a0_4 : Option Addr} {u0_4 : Nat} {p0 : Circuit} {a1 : Option Addr} {u1 : Nat} {p1 : (List Int)} (g0_2 : Rd (Rp.int .i64) κ w 0 a0_2 u0_2 p0.Next) (g0_3 : Rd Gate.rp κ w 0 a0_3 u0_3 p0.Gates) (g0_4 : Rd (Rp.int .i64) κ w 0 a0_4 u0_4 p0.Outs) (g1 : Rd (Rp.int .i64) κ w 0 a1 u1 p1) {r : Bool} (h : l_FnExactOutsOver p0 p1 = some r) : Ret Try.prog 7 [.agg #[.int .i64 p0.Inputs, .int .i64 p0.Latches, .slice a0_2 p0.Next.length u0_2, .slice a0_3 p0.Gates.length u0_3, .slice a0_4 p0.Outs.length u0_4], .slice a1 p1.length u1] w (fun v w' => ∃ (κ' : Col), v = .bool r ∧ Ent κ w κ' w') := by
 unfold l_FnExactOutsOver at h
 refine Ret.enter Try.func7 rfl Try.ntmps7 rfl ?_
 dsimp only [envOf]
 have hE := Ent.refl κ w
 refine WC.seq ?_
 refine WC.rs [(0, 1), (1, 2)] rfl ?_
 refine WO.box (κ := κ) 2 rfl rfl rfl rfl rfl rfl rfl fun b2 w1 K2 S3 f4 => ⟨trivial, ?_⟩
 refine WO.pn 1 rfl ?_
 refine WO.fin ?_
 refine DN.seq ?_
 refine WC.seq ?_
 refine WC.seq ?_
 refine WC.rs [(0, 2), (1, 2), (2, 2)] rfl ?_
 refine WO.pn 1 rfl ?_
 refine WO.k2 rfl rfl rfl rfl (rn_len Try.runUnderlying24 rfl rfl) ?_
 refine WO.pn 1 rfl ?_
 refine WO.fin ?_
 refine DN.seq ?_
 revert h
 cases ht5 : decide (1048576 < (p1.length : Int)) with
 | true =>
  intro h; replace h := cT h
  refine WC.ct rfl ?_
  refine WC.seq ?_
  refine WC.rs [(0, 2)] rfl ?_
  refine WO.pn 1 rfl ?_
  refine WO.fin ?_
  refine DN.seq ?_
  refine WC.ret ?_
  refine DN.retThen ?_
  have f6 := hE.stp S3 rfl rfl
  refine DN.res (l := [.tmp 4]) Try.results7 (res_tmp rfl rfl) rfl ?_
  obtain rfl := Option.some.inj h
  exact ⟨K2, rfl, f6⟩
 | false =>
  intro h; replace h := cF h
  refine WC.cf rfl ?_
  refine WC.skip ?_
  refine DN.seq ?_
  refine WC.seq ?_
  refine WC.rs [(0, 2)] rfl ?_
  refine WO.pn 1 rfl ?_
  refine WO.fin ?_
  refine DN.seq ?_
  refine WC.seq ?_
  refine WC.rs [(0, 1), (1, 2), (2, 1), (3, 2)] rfl ?_
  refine WO.k1 trivial rfl rfl rfl rfl (rn_la (cs := [.int .i64 p0.Inputs, .int .i64 p0.Latches, .slice a0_2 p0.Next.length u0_2, .slice a0_3 p0.Gates.length u0_3, .slice a0_4 p0.Outs.length u0_4]) Try.isAgg44 Try.sizeOf44 rfl rfl rfl (haE f4.cells)) ?_
  refine WO.pn 1 rfl ?_
  obtain ⟨x19, hx19, h⟩ := Option.bind_eq_some_iff.mp h
  have f7 := g0_2.stp S3 rfl rfl
  have f8 := g0_3.stp S3 rfl rfl
  have f9 := g0_4.stp S3 rfl rfl
  refine WO.call rfl rfl rfl rfl rfl rfl Try.call28 (l_szCircuit_ok (κ := fun b => mp [] 0 (K2 b)) (Sl.map f7 (mp [] 0) rfl rfl) (Sl.map f8 (mp [] 0) rfl rfl) (Sl.map f9 (mp [] 0) rfl rfl) hx19) ?_
  rintro _ w10 ⟨k11, rfl, e12⟩
  obtain ⟨K13, S14, m15⟩ := Ent.mixed (l := []) (κ := K2) e12 3 rfl
  refine ⟨trivial, ?_⟩
  refine WO.pn 1 rfl ?_
  refine WO.fin ?_
  refine DN.seq ?_
  refine WC.seq ?_
  refine WC.seq ?_
  refine WC.rs [(0, 2), (1, 2)] rfl ?_
  refine WO.pn 2 rfl ?_
  refine WO.fin ?_
  refine DN.seq ?_
  revert h
  cases ht17 : decide (x19 < 0) with
  | true =>
   intro h; replace h := cT h
   refine WC.ct rfl ?_
   refine WC.seq ?_
   refine WC.rs [(0, 2)] rfl ?_
   refine WO.pn 1 rfl ?_
   refine WO.fin ?_
   refine DN.seq ?_
   refine WC.ret ?_
   refine DN.retThen ?_
   have f18 := hE.stp (S3.tr S14) rfl rfl
   refine DN.res (l := [.tmp 4]) Try.results7 (res_tmp rfl rfl) rfl ?_
   obtain rfl := Option.some.inj h
   exact ⟨K13, rfl, f18⟩
  | false =>
   intro h; replace h := cF h
   refine WC.cf rfl ?_
   refine WC.skip ?_
   refine DN.seq ?_
   refine WC.seq ?_
   refine WC.rs [(0, 1), (1, 1), (2, 2), (3, 1), (4, 1), (5, 2)] rfl ?_
   have f19 := f4.stp S14 rfl rfl
   refine WO.k1 trivial rfl rfl rfl rfl (rn_la (cs := [.int .i64 p0.Inputs, .int .i64 p0.Latches, .slice a0_2 p0.Next.length u0_2, .slice a0_3 p0.Gates.length u0_3, .slice a0_4 p0.Outs.length u0_4]) Try.isAgg44 Try.sizeOf44 rfl rfl rfl (haE f19.cells)) ?_
   obtain ⟨x23, hx23, h⟩ := Option.bind_eq_some_iff.mp h
   have f20 := f7.stp S14 rfl rfl
   have f21 := f8.stp S14 rfl rfl
   have f22 := f9.stp S14 rfl rfl
   refine WO.call rfl rfl rfl rfl rfl rfl Try.call30 (l_toCircuit_ok (κ := fun b => mp [] 0 (K13 b)) (Sl.map f20 (mp [] 0) rfl rfl) (Sl.map f21 (mp [] 0) rfl rfl) (Sl.map f22 (mp [] 0) rfl rfl) hx23) ?_
   rintro _ w23 ⟨k24, a23_0, u23_0, a23_1, u23_1, a23_2, u23_2, rfl, e25, f26, f27, f28⟩
   obtain ⟨K29, S30, m31⟩ := Ent.mixed (l := []) (κ := K13) e25 5 rfl
   refine ⟨trivial, ?_⟩
   have f33 := f26.mx (no_int _) m31 rfl (rfl : 5 + 2 = 7)
   have f34 := f27.mx Gate.no155 m31 rfl (rfl : 5 + 3 = 8)
   have f35 := f28.mx (no_int _) m31 rfl (rfl : 5 + 4 = 9)
   refine WO.pn 1 rfl ?_
   obtain ⟨x25, hx25, h⟩ := Option.bind_eq_some_iff.mp h
   have f36 := g1.stp (S3.tr (S14.tr S30)) rfl rfl
   refine WO.call rfl rfl rfl rfl rfl rfl Try.call22 (l_toInt64S_ok (κ := fun b => mp [] 0 (K29 b)) (Sl.map f36 (mp [] 0) rfl rfl) hx25) ?_
   rintro _ w37 ⟨k38, a25_0, u25_0, rfl, e39, f40⟩
   obtain ⟨K41, S42, m43⟩ := Ent.mixed (l := []) (κ := K29) e39 10 rfl
   refine ⟨trivial, ?_⟩
   have f45 := f40.mx (no_int _) m43 rfl (rfl : 10 + 2 = 12)
   obtain ⟨x26, hx26, h⟩ := Option.bind_eq_some_iff.mp h
   have f46 := f33.stp S42 rfl rfl
   have f47 := f34.stp S42 rfl rfl
   have f48 := f35.stp S42 rfl rfl
   refine WO.call rfl rfl rfl rfl rfl rfl Try.call39 (s_OutsOver_ok (κ := fun b => mp [] 0 (K41 b)) (Sl.map f46.rdc (mp [] 0) rfl rfl) (Sl.map f47.rdc (mp [] 0) rfl rfl) (Sl.map f48.rdc (mp [] 0) rfl rfl) (Sl.map f45.rdc (mp [] 0) rfl rfl) hx26) ?_
   rintro _ w49 ⟨k50, a26_0, u26_0, rfl, e51, f52⟩
   obtain ⟨K53, S54, m55⟩ := Ent.mixed (l := []) (κ := K41) e51 13 rfl
   refine ⟨trivial, ?_⟩
   have f57 := f52.mx (no_int _) m55 rfl (rfl : 13 + 2 = 15)
   refine WO.pn 1 rfl ?_
   refine WO.fin ?_
   refine DN.seq ?_
   refine WC.seq ?_
   refine WC.rs [(0, 1), (1, 1), (2, 1), (3, 1)] rfl ?_
   have f58 := f19.stp (S30.tr (S42.tr S54)) rfl rfl
   refine WO.k1 trivial rfl rfl rfl rfl (rn_la (cs := [.int .i64 p0.Inputs, .int .i64 p0.Latches, .slice a0_2 p0.Next.length u0_2, .slice a0_3 p0.Gates.length u0_3, .slice a0_4 p0.Outs.length u0_4]) Try.isAgg44 Try.sizeOf44 rfl rfl rfl (haE f58.cells)) ?_
   obtain ⟨x28, hx28, h⟩ := Option.bind_eq_some_iff.mp h
   have f59 := f20.stp (S30.tr (S42.tr S54)) rfl rfl
   have f60 := f21.stp (S30.tr (S42.tr S54)) rfl rfl
   have f61 := f22.stp (S30.tr (S42.tr S54)) rfl rfl
   refine WO.call rfl rfl rfl rfl rfl rfl Try.call30 (l_toCircuit_ok (κ := fun b => mp [] 0 (K53 b)) (Sl.map f59 (mp [] 0) rfl rfl) (Sl.map f60 (mp [] 0) rfl rfl) (Sl.map f61 (mp [] 0) rfl rfl) hx28) ?_
   rintro _ w62 ⟨k63, a28_0, u28_0, a28_1, u28_1, a28_2, u28_2, rfl, e64, f65, f66, f67⟩
   obtain ⟨K68, S69, m70⟩ := Ent.mixed (l := []) (κ := K53) e64 16 rfl
   refine ⟨trivial, ?_⟩
   have f72 := f65.mx (no_int _) m70 rfl (rfl : 16 + 2 = 18)
   have f73 := f66.mx Gate.no155 m70 rfl (rfl : 16 + 3 = 19)
   have f74 := f67.mx (no_int _) m70 rfl (rfl : 16 + 4 = 20)
   refine WO.alloc (κ := K68) 21 rfl rfl rfl rfl rfl Try.zeroValue50 rfl fun b7 w75 K76 S77 f78 => ⟨trivial, ?_⟩
   refine WO.stB0 (κ := K76) 21 (vc := [.int .i64 x28.Inputs, .int .i64 x28.Latches, .slice a28_0 x28.Next.length u28_0, .slice a28_1 x28.Gates.length u28_1, .slice a28_2 x28.Outs.length u28_2]) rfl rfl rfl rfl rfl rfl rfl Try.sizeOf50 rfl rfl f78 rfl fun w79 S80 f81 => ⟨trivial, ?_⟩
   refine WO.fin ?_
   refine DN.seq ?_
   refine WC.seq ?_
   refine WC.rs [(0, 2), (1, 1), (2, 2)] rfl ?_
   refine WO.pn 1 rfl ?_
   obtain ⟨x30, hx30, h⟩ := Option.bind_eq_some_iff.mp h
   have f82 := f36.stp (S42.tr (S54.tr (S69.tr (S77.tr S80)))) rfl rfl
   refine WO.call rfl rfl rfl rfl rfl rfl Try.call22 (l_toInt64S_ok (κ := fun b => mp [] 0 (K76 b)) (Sl.map f82 (mp [] 0) rfl rfl) hx30) ?_
   rintro _ w83 ⟨k84, a30_0, u30_0, rfl, e85, f86⟩
   obtain ⟨K87, S88, m89⟩ := Ent.mixed (l := []) (κ := K76) e85 22 rfl
   refine ⟨trivial, ?_⟩
   have f91 := f86.mx (no_int _) m89 rfl (rfl : 22 + 2 = 24)
   refine WO.pn 1 rfl ?_
   refine WO.fin ?_
   refine DN.seq ?_
   refine WC.seq ?_
   refine WC.rs [(0, 1), (1, 2), (2, 1), (3, 2)] rfl ?_
   have f92 := f81.stp S88 rfl rfl
   refine WO.k1 trivial rfl rfl rfl rfl (rn_la (cs := [.int .i64 x28.Inputs, .int .i64 x28.Latches, .slice a28_0 x28.Next.length u28_0, .slice a28_1 x28.Gates.length u28_1, .slice a28_2 x28.Outs.length u28_2]) Try.isAgg50 Try.sizeOf50 rfl rfl rfl (haE f92.cells)) ?_
   refine WO.pn 1 rfl ?_
   obtain ⟨x33, hx33, h⟩ := Option.bind_eq_some_iff.mp h
   have f93 := f72.stp (S77.tr (S80.tr S88)) rfl rfl
   have f94 := f73.stp (S77.tr (S80.tr S88)) rfl rfl
   have f95 := f74.stp (S77.tr (S80.tr S88)) rfl rfl
   refine WO.call rfl rfl rfl rfl rfl rfl Try.call40 (i_OutsOver_ok (κ := fun b => mp [] 0 (K87 b)) (Sl.map f93.rdc (mp [] 0) rfl rfl) (Sl.map f94.rdc (mp [] 0) rfl rfl) (Sl.map f95.rdc (mp [] 0) rfl rfl) (Sl.map f91.rdc (mp [] 0) rfl rfl) hx33) ?_
   rintro _ w96 ⟨k97, a33_0, u33_0, rfl, e98, f99⟩
   obtain ⟨K100, S101, m102⟩ := Ent.mixed (l := []) (κ := K87) e98 25 rfl
   refine ⟨trivial, ?_⟩
   have f104 := f99.mx (no_int _) m102 rfl (rfl : 25 + 2 = 27)
   refine WO.pn 1 rfl ?_
   refine WO.fin ?_
   refine DN.seq ?_
   refine WC.seq ?_
   refine WC.seq ?_
   refine WC.rs [(0, 2), (1, 2), (2, 1), (3, 2)] rfl ?_
   refine WO.pn 2 rfl ?_
   obtain ⟨x36, hx36, h⟩ := Option.bind_eq_some_iff.mp h
   have f105 := f57.stp (S69.tr (S77.tr (S80.tr (S88.tr S101)))) rfl rfl
   refine WO.call rfl rfl rfl rfl rfl rfl Try.call24 (l_eqInt64S_ok (κ := fun b => mp [] 0 (K100 b)) (Sl.map f104.rdc (mp [] 0) rfl rfl) (Sl.map f105.rdc (mp [] 0) rfl rfl) hx36) ?_
   rintro _ w106 ⟨k107, rfl, e108⟩
   obtain ⟨K109, S110, m111⟩ := Ent.mixed (l := []) (κ := K100) e108 28 rfl
   refine ⟨trivial, ?_⟩
   refine WO.pn 1 rfl ?_
   refine WO.fin ?_
   refine DN.seq ?_
   revert h
   cases ht113 : (!x36) with
   | true =>
    intro h; replace h := cT h
    refine WC.ct rfl ?_
    refine WC.seq ?_
    refine WC.rs [(0, 2)] rfl ?_
    refine WO.pn 1 rfl ?_
    refine WO.fin ?_
    refine DN.seq ?_
    refine WC.ret ?_
    refine DN.retThen ?_
    have f114 := hE.stp (S3.tr (S14.tr (S30.tr (S42.tr (S54.tr (S69.tr (S77.tr (S80.tr (S88.tr (S101.tr S110)))))))))) rfl rfl
    refine DN.res (l := [.tmp 4]) Try.results7 (res_tmp rfl rfl) rfl ?_
    obtain rfl := Option.some.inj h
    exact ⟨K109, rfl, f114⟩
   | false =>
    intro h; replace h := cF h
    refine WC.cf rfl ?_
    refine WC.skip ?_
    refine DN.seq ?_
    refine WC.seq ?_
    refine WC.seq ?_
    refine WC.rx (κ := K109) 29 none [(0, 0), (1, 0), (2, 1), (3, 1), (4, 2)] [] (by kernel_rfl) (by kernel_rfl) fun w116 S115 => ?_
    have f117 := f92.stp (S101.tr (S110.tr S115)) rfl rfl
    refine WO.k0 rfl rfl rfl rfl (rn_la (cs := [.int .i64 x28.Inputs, .int .i64 x28.Latches, .slice a28_0 x28.Next.length u28_0, .slice a28_1 x28.Gates.length u28_1, .slice a28_2 x28.Outs.length u28_2]) Try.isAgg50 Try.sizeOf50 rfl rfl rfl (haC f117.cells rfl)) ?_
    have f118 := f58.stp (S69.tr (S77.tr (S80.tr (S88.tr (S101.tr (S110.tr S115)))))) rfl rfl
    refine WO.k0 rfl rfl rfl rfl (rn_la (cs := [.int .i64 p0.Inputs, .int .i64 p0.Latches, .slice a0_2 p0.Next.length u0_2, .slice a0_3 p0.Gates.length u0_3, .slice a0_4 p0.Outs.length u0_4]) Try.isAgg44 Try.sizeOf44 rfl rfl rfl (haC f118.cells rfl)) ?_
    obtain ⟨x40, hx40, h⟩ := Option.bind_eq_some_iff.mp h
    have f119 := f59.stp (S69.tr (S77.tr (S80.tr (S88.tr (S101.tr (S110.tr S115)))))) rfl rfl
    have f120 := f60.stp (S69.tr (S77.tr (S80.tr (S88.tr (S101.tr (S110.tr S115)))))) rfl rfl
    have f121 := f61.stp (S69.tr (S77.tr (S80.tr (S88.tr (S101.tr (S110.tr S115)))))) rfl rfl
    refine WO.call rfl rfl rfl rfl rfl rfl Try.call30 (l_toCircuit_ok (κ := fun b => mp [] 0 (K109 b)) (Sl.map f119 (mp [] 0) rfl rfl) (Sl.map f120 (mp [] 0) rfl rfl) (Sl.map f121 (mp [] 0) rfl rfl) hx40) ?_
    rintro _ w122 ⟨k123, a40_0, u40_0, a40_1, u40_1, a40_2, u40_2, rfl, e124, f125, f126, f127⟩
    obtain ⟨K128, S129, m130⟩ := Ent.mixed (l := []) (κ := K109) e124 30 rfl
    refine ⟨(S129.cl rfl), ?_⟩
    have f132 := f125.mx (no_int _) m130 rfl (rfl : 30 + 2 = 32)
    have f133 := f126.mx Gate.no155 m130 rfl (rfl : 30 + 3 = 33)
    have f134 := f127.mx (no_int _) m130 rfl (rfl : 30 + 4 = 34)
    obtain ⟨x41, hx41, h⟩ := Option.bind_eq_some_iff.mp h
    have f135 := f93.stp (S101.tr (S110.tr (S115.tr S129))) rfl rfl
    have f136 := f94.stp (S101.tr (S110.tr (S115.tr S129))) rfl rfl
    have f137 := f95.stp (S101.tr (S110.tr (S115.tr S129))) rfl rfl
    refine WO.call rfl rfl rfl rfl rfl rfl Try.call32 (l_eqCircuit_ok (κ := fun b => mp [] 0 (K128 b)) (Sl.map f135.rdc (mp [] 0) rfl rfl) (Sl.map f136.rdc (mp [] 0) rfl rfl) (Sl.map f137.rdc (mp [] 0) rfl rfl) (Sl.map f132.rdc (mp [] 0) rfl rfl) (Sl.map f133.rdc (mp [] 0) rfl rfl) (Sl.map f134.rdc (mp [] 0) rfl rfl) hx41) ?_
    rintro _ w138 ⟨k139, rfl, e140⟩
    obtain ⟨K141, S142, m143⟩ := Ent.mixed (l := []) (κ := K128) e140 35 rfl
    refine ⟨((S129.tr S142).cl rfl), ?_⟩
    refine WO.pn 1 rfl ?_
    refine WO.nx ?_
    refine WO.fin ?_
    refine DN.seq ?_
    revert h
    cases ht145 : (!x41) with
    | true =>
     intro h; replace h := cT h
     refine WC.ct rfl ?_
     refine WC.seq ?_
     refine WC.rs [(0, 2)] rfl ?_
     refine WO.pn 1 rfl ?_
     refine WO.fin ?_
     refine DN.seq ?_
     refine WC.ret ?_
     refine DN.retThen ?_
     have f146 := hE.stp (S3.tr (S14.tr (S30.tr (S42.tr (S54.tr (S69.tr (S77.tr (S80.tr (S88.tr (S101.tr (S110.tr (S115.tr (S129.tr S142))))))))))))) rfl rfl
     refine DN.res (l := [.tmp 4]) Try.results7 (res_tmp rfl rfl) rfl ?_
     obtain rfl := Option.some.inj h
     exact ⟨K141, rfl, f146⟩
    | false =>
     intro h; replace h := cF h
     refine WC.cf rfl ?_
     refine WC.skip ?_
     refine DN.seq ?_
     refine WC.seq ?_
     refine WC.seq ?_
     refine WC.rs [(0, 2), (1, 2), (2, 1), (3, 1), (4, 2)] rfl ?_
     refine WO.pn 2 rfl ?_
     obtain ⟨x45, hx45, h⟩ := Option.bind_eq_some_iff.mp h
     have f147 := f82.stp (S88.tr (S101.tr (S110.tr (S115.tr (S129.tr S142))))) rfl rfl
     refine WO.call rfl rfl rfl rfl rfl rfl Try.call22 (l_toInt64S_ok (κ := fun b => mp [] 0 (K141 b)) (Sl.map f147 (mp [] 0) rfl rfl) hx45) ?_
     rintro _ w148 ⟨k149, a45_0, u45_0, rfl, e150, f151⟩
     obtain ⟨K152, S153, m154⟩ := Ent.mixed (l := []) (κ := K141) e150 37 rfl
     refine ⟨trivial, ?_⟩
     have f156 := f151.mx (no_int _) m154 rfl (rfl : 37 + 2 = 39)
     obtain ⟨x46, hx46, h⟩ := Option.bind_eq_some_iff.mp h
     have f157 := f91.stp (S101.tr (S110.tr (S115.tr (S129.tr (S142.tr S153))))) rfl rfl
     refine WO.call rfl rfl rfl rfl rfl rfl Try.call24 (l_eqInt64S_ok (κ := fun b => mp [] 0 (K152 b)) (Sl.map f157.rdc (mp [] 0) rfl rfl) (Sl.map f156.rdc (mp [] 0) rfl rfl) hx46) ?_
     rintro _ w158 ⟨k159, rfl, e160⟩
     obtain ⟨K161, S162, m163⟩ := Ent.mixed (l := []) (κ := K152) e160 40 rfl
     refine ⟨trivial, ?_⟩
     refine WO.pn 1 rfl ?_
     refine WO.fin ?_
     refine DN.seq ?_
     revert h
     cases ht165 : (!x46) with
     | true =>
      intro h; replace h := cT h
      refine WC.ct rfl ?_
      refine WC.seq ?_
      refine WC.rs [(0, 2)] rfl ?_
      refine WO.pn 1 rfl ?_
      refine WO.fin ?_
      refine DN.seq ?_
      refine WC.ret ?_
      refine DN.retThen ?_
      have f166 := hE.stp (S3.tr (S14.tr (S30.tr (S42.tr (S54.tr (S69.tr (S77.tr (S80.tr (S88.tr (S101.tr (S110.tr (S115.tr (S129.tr (S142.tr (S153.tr S162))))))))))))))) rfl rfl
      refine DN.res (l := [.tmp 4]) Try.results7 (res_tmp rfl rfl) rfl ?_
      obtain rfl := Option.some.inj h
      exact ⟨K161, rfl, f166⟩
     | false =>
      intro h; replace h := cF h
      refine WC.cf rfl ?_
      refine WC.skip ?_
      refine DN.seq ?_
      refine WC.seq ?_
      refine WC.rs [(0, 2)] rfl ?_
      refine WO.pn 1 rfl ?_
      refine WO.fin ?_
      refine DN.seq ?_
      refine WC.seq ?_
      refine WC.rs [(0, 1), (1, 2), (2, 1), (3, 2)] rfl ?_
      have f167 := f117.stp (S129.tr (S142.tr (S153.tr S162))) rfl rfl
      refine WO.k1 trivial rfl rfl rfl rfl (rn_la (cs := [.int .i64 x28.Inputs, .int .i64 x28.Latches, .slice a28_0 x28.Next.length u28_0, .slice a28_1 x28.Gates.length u28_1, .slice a28_2 x28.Outs.length u28_2]) Try.isAgg50 Try.sizeOf50 rfl rfl rfl (haE f167.cells)) ?_
      refine WO.pn 1 rfl ?_
      obtain ⟨x50, hx50, h⟩ := Option.bind_eq_some_iff.mp h
      have f168 := f135.stp (S142.tr (S153.tr S162)) rfl rfl
      have f169 := f136.stp (S142.tr (S153.tr S162)) rfl rfl
      have f170 := f137.stp (S142.tr (S153.tr S162)) rfl rfl
      refine WO.call rfl rfl rfl rfl rfl rfl Try.call41 (l_markCircuit_ok (κ := fun b => mp [(18, 2), (19, 3), (20, 4)] 0 (K161 b)) (f168.map (mp [(18, 2), (19, 3), (20, 4)] 0) rfl rfl) (f169.map (mp [(18, 2), (19, 3), (20, 4)] 0) rfl rfl) (f170.map (mp [(18, 2), (19, 3), (20, 4)] 0) rfl rfl) hx50) ?_
      rintro _ w171 ⟨k172, rfl, e173, f174, hn175, f176, hn177, f178, hn179⟩
      obtain ⟨K180, S181, m182⟩ := Ent.mixed (l := [(18, 2), (19, 3), (20, 4)]) (κ := K161) e173 42 rfl
      refine ⟨trivial, ?_⟩
      have f184 := f174.mx (no_int _) m182 rfl (rfl : 42 + 2 = 44)
      have f185 := f176.mx Gate.no155 m182 rfl (rfl : 42 + 3 = 45)
      have f186 := f178.mx (no_int _) m182 rfl (rfl : 42 + 4 = 46)
      refine WO.pn 1 rfl ?_
      refine WO.fin ?_
      refine DN.seq ?_
      refine WC.seq ?_
      refine WC.rs [(0, 2), (1, 2), (2, 1), (3, 2)] rfl ?_
      refine WO.pn 2 rfl ?_
      obtain ⟨x53, hx53, h⟩ := Option.bind_eq_some_iff.mp h
      have f187 := f157.stp (S162.tr S181) rfl rfl
      refine WO.call rfl rfl rfl rfl rfl rfl Try.call26 (l_markInt64S_ok (κ := fun b => mp [(24, 2)] 0 (K180 b)) (f187.map (mp [(24, 2)] 0) rfl rfl) hx53) ?_
      rintro _ w188 ⟨k189, rfl, e190, f191, hn192⟩
      obtain ⟨K193, S194, m195⟩ := Ent.mixed (l := [(24, 2)]) (κ := K180) e190 47 rfl
      refine ⟨trivial, ?_⟩
      have f197 := f191.mx (no_int _) m195 rfl (rfl : 47 + 2 = 49)
      refine WO.pn 1 rfl ?_
      refine WO.fin ?_
      refine DN.seq ?_
      refine WC.seq ?_
      refine WC.seq ?_
      refine WC.rs [(0, 2), (1, 2), (2, 2), (3, 2), (4, 2), (5, 1), (6, 2), (7, 2)] rfl ?_
      refine WO.pn 3 rfl ?_
      obtain ⟨p61, h, hK198⟩ := Option.bind_eq_some_iff.mp h
      refine WO.meet [(3, 2), (4, 2), (5, 1), (6, 2), (7, 2)] [] (fun L w' => L = [(1, .slice a1 p1.length u1), (2, .pointer (some ⟨b2, 0, none⟩)), (6, .slice a26_0 x26.length u26_0), (9, .slice a33_0 x33.length u33_0), (61, .bool p61)] ∧ ∃ κ', Stp [] K193 w188 κ' w') trivial ?_ ?_
      ·
       revert h
       cases ht199 : decide (x53.1 < 0) with
       | true =>
        intro h; replace h := cT h
        refine WO.pn 2 rfl ?_
        refine WO.ls rfl rfl rfl rfl ?_
        refine WO.pn 2 rfl ?_
        obtain rfl := Option.some.inj h
        exact WO.met _ trivial ⟨rfl, _, (Stp.refl _ _).wk rfl⟩ fun a ha => (ha.more (ha.more (ha.more (ha.more (ha.more ha.nil rfl) rfl) rfl) rfl) rfl)
       | false =>
        intro h; replace h := cF h
        refine WO.pn 2 rfl ?_
        obtain ⟨x59, hx59, h⟩ := Option.bind_eq_some_iff.mp h
        have f200 := f104.stp (S110.tr (S115.tr (S129.tr (S142.tr (S153.tr (S162.tr (S181.tr S194))))))) rfl rfl
        have f201 := f105.stp (S110.tr (S115.tr (S129.tr (S142.tr (S153.tr (S162.tr (S181.tr S194))))))) rfl rfl
        refine WO.call rfl rfl rfl rfl rfl rfl Try.call24 (l_eqInt64S_ok (κ := fun b => mp [] 0 (K193 b)) (Sl.map f200.rdc (mp [] 0) rfl rfl) (Sl.map f201.rdc (mp [] 0) rfl rfl) hx59) ?_
        rintro _ w202 ⟨k203, rfl, e204⟩
        obtain ⟨K205, S206, m207⟩ := Ent.mixed (l := []) (κ := K193) e204 50 rfl
        refine ⟨trivial, ?_⟩
        refine WO.pn 2 rfl ?_
        obtain rfl := Option.some.inj h
        exact WO.met _ trivial ⟨rfl, _, S206.wk rfl⟩ fun a ha => (ha.more (ha.more (ha.more (ha.more (ha.more ha.nil rfl) rfl) rfl) rfl) rfl)
      rintro _ w209 _ ⟨rfl, K210, S211⟩
      have h := hK198
      refine WO.fin ?_
      refine DN.seq ?_
      revert h
      cases ht212 : p61 with
      | true =>
       intro h; replace h := cT h
       refine WC.ct rfl ?_
       refine WC.seq ?_
       refine WC.rs [(0, 2)] rfl ?_
       refine WO.pn 1 rfl ?_
       refine WO.fin ?_
       refine DN.seq ?_
       refine WC.ret ?_
       refine DN.retThen ?_
       have f213 := hE.stp (S3.tr (S14.tr (S30.tr (S42.tr (S54.tr (S69.tr (S77.tr (S80.tr (S88.tr (S101.tr (S110.tr (S115.tr (S129.tr (S142.tr (S153.tr (S162.tr (S181.tr (S194.tr S211)))))))))))))))))) rfl rfl
       refine DN.res (l := [.tmp 4]) Try.results7 (res_tmp rfl rfl) rfl ?_
       obtain rfl := Option.some.inj h
       exact ⟨K210, rfl, f213⟩
      | false =>
       intro h; replace h := cF h
       refine WC.cf rfl ?_
       refine WC.skip ?_
       refine DN.seq ?_
       refine WC.seq ?_
       refine WC.rs [(0, 2)] rfl ?_
       refine WO.pn 1 rfl ?_
       refine WO.fin ?_
       refine DN.seq ?_
       refine WC.seq ?_
       refine WC.rs [(0, 2), (1, 2), (2, 1), (3, 2)] rfl ?_
       refine WO.pn 2 rfl ?_
       obtain ⟨x64, hx64, h⟩ := Option.bind_eq_some_iff.mp h
       have f214 := f104.stp (S110.tr (S115.tr (S129.tr (S142.tr (S153.tr (S162.tr (S181.tr (S194.tr S211)))))))) rfl rfl
       refine WO.call rfl rfl rfl rfl rfl rfl Try.call26 (l_markInt64S_ok (κ := fun b => mp [(27, 2)] 0 (K210 b)) (f214.map (mp [(27, 2)] 0) rfl rfl) hx64) ?_
       rintro _ w215 ⟨k216, rfl, e217, f218, hn219⟩
       obtain ⟨K220, S221, m222⟩ := Ent.mixed (l := [(27, 2)]) (κ := K210) e217 50 rfl
       refine ⟨trivial, ?_⟩
       have f224 := f218.mx (no_int _) m222 rfl (rfl : 50 + 2 = 52)
       refine WO.pn 1 rfl ?_
       refine WO.fin ?_
       refine DN.seq ?_
       refine WC.seq ?_
       refine WC.rs [(0, 2)] rfl ?_
       refine WO.pn 1 rfl ?_
       refine WO.fin ?_
       refine DN.seq ?_
       refine WC.seq ?_
       refine WC.rs [(0, 2), (1, 2), (2, 1), (3, 2)] rfl ?_
       refine WO.pn 2 rfl ?_
       obtain ⟨x67, hx67, h⟩ := Option.bind_eq_some_iff.mp h
       refine WO.call rfl rfl rfl rfl rfl rfl Try.call27 (Ret.cast (by simp only [(hn219)]) (l_heldInt64S_ok (κ := fun b => mp [] 0 (K220 b)) (Sl.map f224.rdc (mp [] 0) rfl rfl) hx67)) ?_
       rintro _ w225 ⟨k226, rfl, e227⟩
       obtain ⟨K228, S229, m230⟩ := Ent.mixed (l := []) (κ := K220) e227 53 rfl
       refine ⟨trivial, ?_⟩
       refine WO.pn 1 rfl ?_
       refine WO.fin ?_
       refine DN.seq ?_
       refine WC.seq ?_
       refine WC.seq ?_
       refine WC.rs [(0, 2), (1, 2)] rfl ?_
       refine WO.pn 2 rfl ?_
       refine WO.fin ?_
       refine DN.seq ?_
       revert h
       cases ht232 : decide (x67 < 0) with
       | true =>
        intro h; replace h := cT h
        refine WC.ct rfl ?_
        refine WC.seq ?_
        refine WC.rs [(0, 2)] rfl ?_
        refine WO.pn 1 rfl ?_
        refine WO.fin ?_
        refine DN.seq ?_
        refine WC.ret ?_
        refine DN.retThen ?_
        have f233 := hE.stp (S3.tr (S14.tr (S30.tr (S42.tr (S54.tr (S69.tr (S77.tr (S80.tr (S88.tr (S101.tr (S110.tr (S115.tr (S129.tr (S142.tr (S153.tr (S162.tr (S181.tr (S194.tr (S211.tr (S221.tr S229)))))))))))))))))))) rfl rfl
        refine DN.res (l := [.tmp 4]) Try.results7 (res_tmp rfl rfl) rfl ?_
        obtain rfl := Option.some.inj h
        exact ⟨K228, rfl, f233⟩
       | false =>
        intro h; replace h := cF h
        refine WC.cf rfl ?_
        refine WC.skip ?_
        refine DN.seq ?_
        refine WC.seq ?_
        refine WC.seq ?_
        refine WC.rs [(0, 2), (1, 2), (2, 2)] rfl ?_
        refine WO.pn 3 rfl ?_
        refine WO.fin ?_
        refine DN.seq ?_
        revert h
        cases ht234 : (x67 != x64.1) with
        | true =>
         intro h; replace h := cT h
         refine WC.ct rfl ?_
         refine WC.seq ?_
         refine WC.rs [(0, 2)] rfl ?_
         refine WO.pn 1 rfl ?_
         refine WO.fin ?_
         refine DN.seq ?_
         refine WC.ret ?_
         refine DN.retThen ?_
         have f235 := hE.stp (S3.tr (S14.tr (S30.tr (S42.tr (S54.tr (S69.tr (S77.tr (S80.tr (S88.tr (S101.tr (S110.tr (S115.tr (S129.tr (S142.tr (S153.tr (S162.tr (S181.tr (S194.tr (S211.tr (S221.tr S229)))))))))))))))))))) rfl rfl
         refine DN.res (l := [.tmp 4]) Try.results7 (res_tmp rfl rfl) rfl ?_
         obtain rfl := Option.some.inj h
         exact ⟨K228, rfl, f235⟩
        | false =>
         intro h; replace h := cF h
         refine WC.cf rfl ?_
         refine WC.skip ?_
         refine DN.seq ?_
         refine WC.seq ?_
         refine WC.rs [(0, 1), (1, 1), (2, 2), (3, 1), (4, 1), (5, 2)] rfl ?_
         have f236 := f118.stp (S129.tr (S142.tr (S153.tr (S162.tr (S181.tr (S194.tr (S211.tr (S221.tr S229)))))))) rfl rfl
         refine WO.k1 trivial rfl rfl rfl rfl (rn_la (cs := [.int .i64 p0.Inputs, .int .i64 p0.Latches, .slice a0_2 p0.Next.length u0_2, .slice a0_3 p0.Gates.length u0_3, .slice a0_4 p0.Outs.length u0_4]) Try.isAgg44 Try.sizeOf44 rfl rfl rfl (haE f236.cells)) ?_
         obtain ⟨x74, hx74, h⟩ := Option.bind_eq_some_iff.mp h
         have f237 := f119.stp (S129.tr (S142.tr (S153.tr (S162.tr (S181.tr (S194.tr (S211.tr (S221.tr S229)))))))) rfl rfl
         have f238 := f120.stp (S129.tr (S142.tr (S153.tr (S162.tr (S181.tr (S194.tr (S211.tr (S221.tr S229)))))))) rfl rfl
         have f239 := f121.stp (S129.tr (S142.tr (S153.tr (S162.tr (S181.tr (S194.tr (S211.tr (S221.tr S229)))))))) rfl rfl
         refine WO.call rfl rfl rfl rfl rfl rfl Try.call30 (l_toCircuit_ok (κ := fun b => mp [] 0 (K228 b)) (Sl.map f237 (mp [] 0) rfl rfl) (Sl.map f238 (mp [] 0) rfl rfl) (Sl.map f239 (mp [] 0) rfl rfl) hx74) ?_
         rintro _ w240 ⟨k241, a74_0, u74_0, a74_1, u74_1, a74_2, u74_2, rfl, e242, f243, f244, f245⟩
         obtain ⟨K246, S247, m248⟩ := Ent.mixed (l := []) (κ := K228) e242 55 rfl
         refine ⟨trivial, ?_⟩
         have f250 := f243.mx (no_int _) m248 rfl (rfl : 55 + 2 = 57)
         have f251 := f244.mx Gate.no155 m248 rfl (rfl : 55 + 3 = 58)
         have f252 := f245.mx (no_int _) m248 rfl (rfl : 55 + 4 = 59)
         refine WO.pn 1 rfl ?_
         obtain ⟨x76, hx76, h⟩ := Option.bind_eq_some_iff.mp h
         have f253 := f147.stp (S153.tr (S162.tr (S181.tr (S194.tr (S211.tr (S221.tr (S229.tr S247))))))) rfl rfl
         refine WO.call rfl rfl rfl rfl rfl rfl Try.call22 (l_toInt64S_ok (κ := fun b => mp [] 0 (K246 b)) (Sl.map f253 (mp [] 0) rfl rfl) hx76) ?_
         rintro _ w254 ⟨k255, a76_0, u76_0, rfl, e256, f257⟩
         obtain ⟨K258, S259, m260⟩ := Ent.mixed (l := []) (κ := K246) e256 60 rfl
         refine ⟨trivial, ?_⟩
         have f262 := f257.mx (no_int _) m260 rfl (rfl : 60 + 2 = 62)
         obtain ⟨x77, hx77, h⟩ := Option.bind_eq_some_iff.mp h
         have f263 := f250.stp S259 rfl rfl
         have f264 := f251.stp S259 rfl rfl
         have f265 := f252.stp S259 rfl rfl
         refine WO.call rfl rfl rfl rfl rfl rfl Try.call40 (i_OutsOver_ok (κ := fun b => mp [] 0 (K258 b)) (Sl.map f263.rdc (mp [] 0) rfl rfl) (Sl.map f264.rdc (mp [] 0) rfl rfl) (Sl.map f265.rdc (mp [] 0) rfl rfl) (Sl.map f262.rdc (mp [] 0) rfl rfl) hx77) ?_
         rintro _ w266 ⟨k267, a77_0, u77_0, rfl, e268, f269⟩
         obtain ⟨K270, S271, m272⟩ := Ent.mixed (l := []) (κ := K258) e268 63 rfl
         refine ⟨trivial, ?_⟩
         have f274 := f269.mx (no_int _) m272 rfl (rfl : 63 + 2 = 65)
         refine WO.pn 1 rfl ?_
         refine WO.fin ?_
         refine DN.seq ?_
         refine WC.seq ?_
         refine WC.seq ?_
         refine WC.rs [(0, 2), (1, 2), (2, 1), (3, 2)] rfl ?_
         refine WO.pn 2 rfl ?_
         obtain ⟨x80, hx80, h⟩ := Option.bind_eq_some_iff.mp h
         have f275 := f105.stp (S110.tr (S115.tr (S129.tr (S142.tr (S153.tr (S162.tr (S181.tr (S194.tr (S211.tr (S221.tr (S229.tr (S247.tr (S259.tr S271))))))))))))) rfl rfl
         refine WO.call rfl rfl rfl rfl rfl rfl Try.call24 (l_eqInt64S_ok (κ := fun b => mp [] 0 (K270 b)) (Sl.map f274.rdc (mp [] 0) rfl rfl) (Sl.map f275.rdc (mp [] 0) rfl rfl) hx80) ?_
         rintro _ w276 ⟨k277, rfl, e278⟩
         obtain ⟨K279, S280, m281⟩ := Ent.mixed (l := []) (κ := K270) e278 66 rfl
         refine ⟨trivial, ?_⟩
         refine WO.pn 1 rfl ?_
         refine WO.fin ?_
         refine DN.seq ?_
         revert h
         cases ht283 : (!x80) with
         | true =>
          intro h; replace h := cT h
          refine WC.ct rfl ?_
          refine WC.seq ?_
          refine WC.rs [(0, 2)] rfl ?_
          refine WO.pn 1 rfl ?_
          refine WO.fin ?_
          refine DN.seq ?_
          refine WC.ret ?_
          refine DN.retThen ?_
          have f284 := hE.stp (S3.tr (S14.tr (S30.tr (S42.tr (S54.tr (S69.tr (S77.tr (S80.tr (S88.tr (S101.tr (S110.tr (S115.tr (S129.tr (S142.tr (S153.tr (S162.tr (S181.tr (S194.tr (S211.tr (S221.tr (S229.tr (S247.tr (S259.tr (S271.tr S280)))))))))))))))))))))))) rfl rfl
          refine DN.res (l := [.tmp 4]) Try.results7 (res_tmp rfl rfl) rfl ?_
          obtain rfl := Option.some.inj h
          exact ⟨K279, rfl, f284⟩
         | false =>
          intro h; replace h := cF h
          refine WC.cf rfl ?_
          refine WC.skip ?_
          refine DN.seq ?_
          refine WC.seq ?_
          refine WC.rs [(0, 2)] rfl ?_
          refine WO.pn 1 rfl ?_
          refine WO.fin ?_
          refine DN.seq ?_
          refine WC.seq ?_
          refine WC.rs [(0, 2), (1, 2), (2, 1), (3, 2)] rfl ?_
          refine WO.pn 2 rfl ?_
          obtain ⟨x84, hx84, h⟩ := Option.bind_eq_some_iff.mp h
          have f285 := f224.stp (S229.tr (S247.tr (S259.tr (S271.tr S280)))) rfl rfl
          refine WO.call rfl rfl rfl rfl rfl rfl Try.call27 (Ret.cast (by simp only [(hn219)]) (l_heldInt64S_ok (κ := fun b => mp [] 0 (K279 b)) (Sl.map f285.rdc (mp [] 0) rfl rfl) hx84)) ?_
          rintro _ w286 ⟨k287, rfl, e288⟩
          obtain ⟨K289, S290, m291⟩ := Ent.mixed (l := []) (κ := K279) e288 68 rfl
          refine ⟨trivial, ?_⟩
          refine WO.pn 1 rfl ?_
          refine WO.fin ?_
          refine DN.seq ?_
          refine WC.seq ?_
          refine WC.seq ?_
          refine WC.rs [(0, 2), (1, 2)] rfl ?_
          refine WO.pn 2 rfl ?_
          refine WO.fin ?_
          refine DN.seq ?_
          revert h
          cases ht293 : decide (x84 < 0) with
          | true =>
           intro h; replace h := cT h
           refine WC.ct rfl ?_
           refine WC.seq ?_
           refine WC.rs [(0, 2)] rfl ?_
           refine WO.pn 1 rfl ?_
           refine WO.fin ?_
           refine DN.seq ?_
           refine WC.ret ?_
           refine DN.retThen ?_
           have f294 := hE.stp (S3.tr (S14.tr (S30.tr (S42.tr (S54.tr (S69.tr (S77.tr (S80.tr (S88.tr (S101.tr (S110.tr (S115.tr (S129.tr (S142.tr (S153.tr (S162.tr (S181.tr (S194.tr (S211.tr (S221.tr (S229.tr (S247.tr (S259.tr (S271.tr (S280.tr S290))))))))))))))))))))))))) rfl rfl
           refine DN.res (l := [.tmp 4]) Try.results7 (res_tmp rfl rfl) rfl ?_
           obtain rfl := Option.some.inj h
           exact ⟨K289, rfl, f294⟩
          | false =>
           intro h; replace h := cF h
           refine WC.cf rfl ?_
           refine WC.skip ?_
           refine DN.seq ?_
           refine WC.seq ?_
           refine WC.seq ?_
           refine WC.rs [(0, 2), (1, 2), (2, 2)] rfl ?_
           refine WO.pn 3 rfl ?_
           refine WO.fin ?_
           refine DN.seq ?_
           revert h
           cases ht295 : (x84 != x64.1) with
           | true =>
            intro h; replace h := cT h
            refine WC.ct rfl ?_
            refine WC.seq ?_
            refine WC.rs [(0, 2)] rfl ?_
            refine WO.pn 1 rfl ?_
            refine WO.fin ?_
            refine DN.seq ?_
            refine WC.ret ?_
            refine DN.retThen ?_
            have f296 := hE.stp (S3.tr (S14.tr (S30.tr (S42.tr (S54.tr (S69.tr (S77.tr (S80.tr (S88.tr (S101.tr (S110.tr (S115.tr (S129.tr (S142.tr (S153.tr (S162.tr (S181.tr (S194.tr (S211.tr (S221.tr (S229.tr (S247.tr (S259.tr (S271.tr (S280.tr S290))))))))))))))))))))))))) rfl rfl
            refine DN.res (l := [.tmp 4]) Try.results7 (res_tmp rfl rfl) rfl ?_
            obtain rfl := Option.some.inj h
            exact ⟨K289, rfl, f296⟩
           | false =>
            intro h; replace h := cF h
            refine WC.cf rfl ?_
            refine WC.skip ?_
            refine DN.seq ?_
            refine WC.seq ?_
            refine WC.rs [(0, 2)] rfl ?_
            refine WO.pn 1 rfl ?_
            refine WO.fin ?_
            refine DN.seq ?_
            refine WC.ret ?_
            have f297 := hE.stp (S3.tr (S14.tr (S30.tr (S42.tr (S54.tr (S69.tr (S77.tr (S80.tr (S88.tr (S101.tr (S110.tr (S115.tr (S129.tr (S142.tr (S153.tr (S162.tr (S181.tr (S194.tr (S211.tr (S221.tr (S229.tr (S247.tr (S259.tr (S271.tr (S280.tr S290))))))))))))))))))))))))) rfl rfl
            refine DN.res (l := [.tmp 4]) Try.results7 (res_tmp rfl rfl) rfl ?_
            obtain rfl := Option.some.inj h
            exact ⟨K289, rfl, f297⟩

/- loop.example/g00869/impl.StepOf -/
theorem i_StepOf_ok {w : World} {κ : Col} {a0_2 : Option Addr} {u0_2 : Nat} {a0_3 : Option Addr} {u0_3 : Nat} {a0_4 : Option Addr} {u0_4 : Nat} {p0 : Circuit} {p1 : Int} {p2 : Int} (g0_2 : Rd (Rp.int .i64) κ w 0 a0_2 u0_2 p0.Next) (g0_3 : Rd Gate.rp κ w 0 a0_3 u0_3 p0.Gates) (g0_4 : Rd (Rp.int .i64) κ w 0 a0_4 u0_4 p0.Outs) {r : Int × Int} (h : i_StepOf p0 p1 p2 = some r) : Ret Try.prog 31 [.agg #[.int .i64 p0.Inputs, .int .i64 p0.Latches, .slice a0_2 p0.Next.length u0_2, .slice a0_3 p0.Gates.length u0_3, .slice a0_4 p0.Outs.length u0_4], .int .i64 p1, .int .i64 p2] w (fun v w' => ∃ (κ' : Col), v = .tuple #[.int .i64 r.1, .int .i64 r.2] ∧ Ent κ w κ' w') := by
 unfold i_StepOf at h
 refine Ret.enter Try.func31 rfl Try.ntmps31 rfl ?_
 dsimp only [envOf]
 have hE := Ent.refl κ w
 refine WC.seq ?_
 refine WC.rs [(0, 1), (1, 2), (2, 2)] rfl ?_
 refine WO.box (κ := κ) 2 rfl rfl rfl rfl rfl rfl rfl fun b3 w1 K2 S3 f4 => ⟨trivial, ?_⟩
 refine WO.pn 2 rfl ?_
 refine WO.fin ?_
 refine DN.seq ?_
 refine WC.seq ?_
 refine WC.seq ?_
 refine WC.rs [(0, 1), (1, 1), (2, 2), (3, 2), (4, 2), (5, 2), (6, 2), (7, 2), (8, 2), (9, 2), (10, 1), (11, 2), (12, 2), (13, 2), (14, 2), (15, 2), (16, 2), (17, 2), (18, 2), (19, 2), (20, 2), (21, 1), (22, 2), (23, 2), (24, 2)] rfl ?_
 refine WO.k1 trivial rfl rfl rfl rfl (rn_la (cs := [.int .i64 p0.Inputs, .int .i64 p0.Latches, .slice a0_2 p0.Next.length u0_2, .slice a0_3 p0.Gates.length u0_3, .slice a0_4 p0.Outs.length u0_4]) Try.isAgg50 Try.sizeOf50 rfl rfl rfl (haE f4.cells)) ?_
 obtain ⟨x11, hx11, h⟩ := Option.bind_eq_some_iff.mp h
 have f5 := g0_2.stp S3 rfl rfl
 have f6 := g0_3.stp S3 rfl rfl
 have f7 := g0_4.stp S3 rfl rfl
 refine WO.call rfl rfl rfl rfl rfl rfl Try.call88 (i_isCircuit_ok (κ := fun b => mp [] 0 (K2 b)) (Sl.map f5 (mp [] 0) rfl rfl) (Sl.map f6 (mp [] 0) rfl rfl) (Sl.map f7 (mp [] 0) rfl rfl) hx11) ?_
 rintro _ w8 ⟨k9, rfl, e10⟩
 obtain ⟨K11, S12, m13⟩ := Ent.mixed (l := []) (κ := K2) e10 3 rfl
 refine ⟨trivial, ?_⟩
 refine WO.pn 2 rfl ?_
 obtain ⟨p16, h, hK15⟩ := Option.bind_eq_some_iff.mp h
 refine WO.meet [(4, 2), (5, 2), (6, 2)] [(7, 2), (8, 2), (9, 2), (10, 1), (11, 2), (12, 2), (13, 2), (14, 2), (15, 2), (16, 2), (17, 2), (18, 2), (19, 2), (20, 2), (21, 1), (22, 2), (23, 2), (24, 2)] (fun L w' => L = [(1, .int .i64 p1), (2, .int .i64 p2), (3, .pointer (some ⟨b3, 0, none⟩)), (16, .bool p16)] ∧ ∃ κ', Stp [] K11 w8 κ' w') trivial ?_ ?_
 ·
  revert h
  cases ht16 : (!x11) with
  | true =>
   intro h; replace h := cT h
   refine WO.pn 3 rfl ?_
   obtain rfl := Option.some.inj h
   exact WO.met _ trivial ⟨rfl, _, (Stp.refl _ _).wk rfl⟩ fun a ha => (ha.more (ha.more (ha.more (ha.more ha.nil rfl) rfl) rfl) rfl)
  | false =>
   intro h; replace h := cF h
   refine WO.pn 3 rfl ?_
   obtain rfl := Option.some.inj h
   exact WO.met _ trivial ⟨rfl, _, (Stp.refl _ _).wk rfl⟩ fun a ha => (ha.more (ha.more (ha.more (ha.more ha.nil rfl) rfl) rfl) rfl)
 rintro _ w17 _ ⟨rfl, K18, S19⟩
 have h := hK15
 refine WO.pn 1 rfl ?_
 obtain ⟨p23, h, hK20⟩ := Option.bind_eq_some_iff.mp h
 refine WO.meet [(8, 2), (9, 2), (10, 1), (11, 2), (12, 2), (13, 2)] [(14, 2), (15, 2), (16, 2), (17, 2), (18, 2), (19, 2), (20, 2), (21, 1), (22, 2), (23, 2), (24, 2)] (fun L w' => L = [(1, .int .i64 p1), (2, .int .i64 p2), (3, .pointer (some ⟨b3, 0, none⟩)), (23, .bool p23)] ∧ ∃ κ', Stp [] K18 w17 κ' w') trivial ?_ ?_
 ·
  revert h
  cases ht21 : p16 with
  | true =>
   intro h; replace h := cT h
   refine WO.pn 2 rfl ?_
   refine WO.ls rfl rfl rfl rfl ?_
   refine WO.pn 3 rfl ?_
   obtain rfl := Option.some.inj h
   exact WO.met _ trivial ⟨rfl, _, (Stp.refl _ _).wk rfl⟩ fun a ha => (ha.more (ha.more (ha.more (ha.more ha.nil rfl) rfl) rfl) rfl)
  | false =>
   intro h; replace h := cF h
   refine WO.pn 1 rfl ?_
   refine WO.k2 rfl rfl rfl rfl (rn_fieldAddr Try.runUnderlying50 rfl Try.sizeOf2 rfl rfl) ?_
   have f22 := f4.stp (S12.tr S19) rfl rfl
   refine WO.k1 trivial rfl rfl rfl rfl (rn_ld Try.isAgg2 rfl rfl (hvE (f22.ld 1 rfl rfl))) ?_
   obtain ⟨_z21, hz21, h⟩ := Option.bind_eq_some_iff.mp h
   refine WO.k2 rfl rfl rfl rfl (rn_shl rfl rfl rfl (nn_ok hz21)) ?_
   refine WO.pn 2 rfl ?_
   obtain rfl := Option.some.inj h
   exact WO.met _ trivial ⟨rfl, _, (Stp.refl _ _).wk rfl⟩ fun a ha => (ha.more (ha.more (ha.more (ha.more ha.nil rfl) rfl) rfl) rfl)
 rintro _ w23 _ ⟨rfl, K24, S25⟩
 have h := hK20
 refine WO.pn 1 rfl ?_
 obtain ⟨p27, h, hK26⟩ := Option.bind_eq_some_iff.mp h
 refine WO.meet [(15, 2), (16, 2), (17, 2)] [(18, 2), (19, 2), (20, 2), (21, 1), (22, 2), (23, 2), (24, 2)] (fun L w' => L = [(1, .int .i64 p1), (2, .int .i64 p2), (3, .pointer (some ⟨b3, 0, none⟩)), (27, .bool p27)] ∧ ∃ κ', Stp [] K24 w23 κ' w') trivial ?_ ?_
 ·
  revert h
  cases ht27 : p23 with
  | true =>
   intro h; replace h := cT h
   refine WO.pn 3 rfl ?_
   obtain rfl := Option.some.inj h
   exact WO.met _ trivial ⟨rfl, _, (Stp.refl _ _).wk rfl⟩ fun a ha => (ha.more (ha.more (ha.more (ha.more ha.nil rfl) rfl) rfl) rfl)
  | false =>
   intro h; replace h := cF h
   refine WO.pn 3 rfl ?_
   obtain rfl := Option.some.inj h
   exact WO.met _ trivial ⟨rfl, _, (Stp.refl _ _).wk rfl⟩ fun a ha => (ha.more (ha.more (ha.more (ha.more ha.nil rfl) rfl) rfl) rfl)
 rintro _ w28 _ ⟨rfl, K29, S30⟩
 have h := hK26
 refine WO.pn 1 rfl ?_
 obtain ⟨p34, h, hK31⟩ := Option.bind_eq_some_iff.mp h
 refine WO.meet [(19, 2), (20, 2), (21, 1), (22, 2), (23, 2), (24, 2)] [] (fun L w' => L = [(1, .int .i64 p1), (2, .int .i64 p2), (3, .pointer (some ⟨b3, 0, none⟩)), (34, .bool p34)] ∧ ∃ κ', Stp [] K29 w28 κ' w') trivial ?_ ?_
 ·
  revert h
  cases ht32 : p27 with
  | true =>
   intro h; replace h := cT h
   refine WO.pn 2 rfl ?_
   refine WO.ls rfl rfl rfl rfl ?_
   refine WO.pn 3 rfl ?_
   obtain rfl := Option.some.inj h
   exact WO.met _ trivial ⟨rfl, _, (Stp.refl _ _).wk rfl⟩ fun a ha => (ha.more (ha.more (ha.more (ha.more ha.nil rfl) rfl) rfl) rfl)
  | false =>
   intro h; replace h := cF h
   refine WO.pn 1 rfl ?_
   refine WO.k2 rfl rfl rfl rfl (rn_fieldAddr Try.runUnderlying50 rfl Try.sizeOf2 rfl rfl) ?_
   have f33 := f4.stp (S12.tr (S19.tr (S25.tr S30))) rfl rfl
   refine WO.k1 trivial rfl rfl rfl rfl (rn_ld Try.isAgg2 rfl rfl (hvE (f33.ld 0 rfl rfl))) ?_
   obtain ⟨_z32, hz32, h⟩ := Option.bind_eq_some_iff.mp h
   refine WO.k2 rfl rfl rfl rfl (rn_shl rfl rfl rfl (nn_ok hz32)) ?_
   refine WO.pn 2 rfl ?_
   obtain rfl := Option.some.inj h
   exact WO.met _ trivial ⟨rfl, _, (Stp.refl _ _).wk rfl⟩ fun a ha => (ha.more (ha.more (ha.more (ha.more ha.nil rfl) rfl) rfl) rfl)
 rintro _ w34 _ ⟨rfl, K35, S36⟩
 have h := hK31
 refine WO.fin ?_
 refine DN.seq ?_
 revert h
 cases ht37 : p34 with
 | true =>
  intro h; replace h := cT h
  refine WC.ct rfl ?_
  refine WC.seq ?_
  refine WC.rs [(0, 2), (1, 2)] rfl ?_
  refine WO.pn 2 rfl ?_
  refine WO.fin ?_
  refine DN.seq ?_
  refine WC.ret ?_
  refine DN.retThen ?_
  have f38 := hE.stp (S3.tr (S12.tr (S19.tr (S25.tr (S30.tr S36))))) rfl rfl
  refine DN.res (l := [.tmp 6, .tmp 7]) Try.results31 (res_tmp rfl (res_tmp rfl rfl)) rfl ?_
  obtain rfl := Option.some.inj h
  exact ⟨K35, rfl, f38⟩
 | false =>
  intro h; replace h := cF h
  refine WC.cf rfl ?_
  refine WC.skip ?_
  refine DN.seq ?_
  refine WC.seq ?_
  refine WC.rs [(0, 1), (1, 2), (2, 2), (3, 1), (4, 2), (5, 2), (6, 2), (7, 2), (8, 2)] rfl ?_
  have f39 := f4.stp (S12.tr (S19.tr (S25.tr (S30.tr S36)))) rfl rfl
  refine WO.k1 trivial rfl rfl rfl rfl (rn_la (cs := [.int .i64 p0.Inputs, .int .i64 p0.Latches, .slice a0_2 p0.Next.length u0_2, .slice a0_3 p0.Gates.length u0_3, .slice a0_4 p0.Outs.length u0_4]) Try.isAgg50 Try.sizeOf50 rfl rfl rfl (haE f39.cells)) ?_
  refine WO.pn 2 rfl ?_
  obtain ⟨x39, hx39, h⟩ := Option.bind_eq_some_iff.mp h
  have f40 := f5.stp (S12.tr (S19.tr (S25.tr (S30.tr S36)))) rfl rfl
  have f41 := f6.stp (S12.tr (S19.tr (S25.tr (S30.tr S36)))) rfl rfl
  have f42 := f7.stp (S12.tr (S19.tr (S25.tr (S30.tr S36)))) rfl rfl
  refine WO.call rfl rfl rfl rfl rfl rfl Try.call89 (i_stepOf_ok (κ := fun b => mp [] 0 (K35 b)) (Sl.map f40 (mp [] 0) rfl rfl) (Sl.map f41 (mp [] 0) rfl rfl) (Sl.map f42 (mp [] 0) rfl rfl) hx39) ?_
  rintro _ w43 ⟨k44, rfl, e45⟩
  obtain ⟨K46, S47, m48⟩ := Ent.mixed (l := []) (κ := K35) e45 5 rfl
  refine ⟨trivial, ?_⟩
  refine WO.pn 5 rfl ?_
  refine WO.fin ?_
  refine DN.seq ?_
  refine WC.seq ?_
  refine WC.rs [(0, 2), (1, 2), (2, 2), (3, 2)] rfl ?_
  refine WO.pn 4 rfl ?_
  refine WO.fin ?_
  refine DN.seq ?_
  refine WC.ret ?_
  have f50 := hE.stp (S3.tr (S12.tr (S19.tr (S25.tr (S30.tr (S36.tr S47)))))) rfl rfl
  refine DN.res (l := [.tmp 6, .tmp 7]) Try.results31 (res_tmp rfl (res_tmp rfl rfl)) rfl ?_
  obtain rfl := Option.some.inj h
  exact ⟨K46, rfl, f50⟩

end Go.Proofs.Ytgniipbjjkodaaa
