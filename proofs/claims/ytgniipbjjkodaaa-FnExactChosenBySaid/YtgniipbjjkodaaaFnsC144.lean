/- The walks, part 4. By program. -/
import Derived.Test.YtgniipbjjkodaaaFnsC143
set_option linter.unusedVariables false
set_option linter.unusedSimpArgs false
namespace Go.Proofs.Ytgniipbjjkodaaa
open Go Go.Wk Go.Proofs
set_option maxRecDepth 100000
set_option maxHeartbeats 1000000

/- loop.example/g00869/impl.isCircuit -/
theorem i_isCircuit_ok {w : World} {κ : Col} {a0_2 : Option Addr} {u0_2 : Nat} {a0_3 : Option Addr} {u0_3 : Nat} {a0_4 : Option Addr} {u0_4 : Nat} {p0 : Circuit} (g0_2 : Rd (Rp.int .i64) κ w 0 a0_2 u0_2 p0.Next) (g0_3 : Rd Gate.rp κ w 0 a0_3 u0_3 p0.Gates) (g0_4 : Rd (Rp.int .i64) κ w 0 a0_4 u0_4 p0.Outs) {r : Bool} (h : i_isCircuit p0 = some r) : Ret Try.prog 88 [.agg #[.int .i64 p0.Inputs, .int .i64 p0.Latches, .slice a0_2 p0.Next.length u0_2, .slice a0_3 p0.Gates.length u0_3, .slice a0_4 p0.Outs.length u0_4]] w (fun v w' => ∃ (κ' : Col), v = .bool r ∧ Ent κ w κ' w') := by
 unfold i_isCircuit at h
 refine Ret.enter Try.func88 rfl Try.ntmps88 rfl ?_
 dsimp only [envOf]
 have hE := Ent.refl κ w
 refine WC.seq ?_
 refine WC.rs [(0, 1), (1, 2)] rfl ?_
 refine WO.box (κ := κ) 2 rfl rfl rfl rfl rfl rfl rfl fun b1 w1 K2 S3 f4 => ⟨trivial, ?_⟩
 refine WO.pn 1 rfl ?_
 refine WO.fin ?_
 refine DN.seq ?_
 refine WC.seq ?_
 refine WC.seq ?_
 refine WC.rs [(0, 2), (1, 1), (2, 2), (3, 2), (4, 2), (5, 1), (6, 2), (7, 2), (8, 2), (9, 2), (10, 1), (11, 2), (12, 2), (13, 2), (14, 2), (15, 1), (16, 2), (17, 2), (18, 2), (19, 2), (20, 1), (21, 2), (22, 2), (23, 1), (24, 2), (25, 2), (26, 2), (27, 2), (28, 1), (29, 2), (30, 2), (31, 2), (32, 2), (33, 2), (34, 1), (35, 2), (36, 2), (37, 2)] rfl ?_
 refine WO.k2 rfl rfl rfl rfl (rn_fieldAddr Try.runUnderlying50 rfl Try.sizeOf2 rfl rfl) ?_
 refine WO.k1 trivial rfl rfl rfl rfl (rn_ld Try.isAgg2 rfl rfl (hvE (f4.ld 0 rfl rfl))) ?_
 refine WO.pn 2 rfl ?_
 obtain ⟨p13, h, hK5⟩ := Option.bind_eq_some_iff.mp h
 refine WO.meet [(4, 2), (5, 1), (6, 2), (7, 2)] [(8, 2), (9, 2), (10, 1), (11, 2), (12, 2), (13, 2), (14, 2), (15, 1), (16, 2), (17, 2), (18, 2), (19, 2), (20, 1), (21, 2), (22, 2), (23, 1), (24, 2), (25, 2), (26, 2), (27, 2), (28, 1), (29, 2), (30, 2), (31, 2), (32, 2), (33, 2), (34, 1), (35, 2), (36, 2), (37, 2)] (fun L w' => L = [(1, .pointer (some ⟨b1, 0, none⟩)), (13, .bool p13)] ∧ ∃ κ', Stp [] K2 w1 κ' w') trivial ?_ ?_
 ·
  revert h
  cases ht6 : decide (p0.Inputs < 0) with
  | true =>
   intro h; replace h := cT h
   refine WO.pn 1 rfl ?_
   refine WO.ls rfl rfl rfl rfl ?_
   refine WO.pn 2 rfl ?_
   obtain rfl := Option.some.inj h
   exact WO.met _ trivial ⟨rfl, _, (Stp.refl _ _).wk rfl⟩ fun a ha => (ha.more (ha.more ha.nil rfl) rfl)
  | false =>
   intro h; replace h := cF h
   refine WO.k2 rfl rfl rfl rfl (rn_fieldAddr Try.runUnderlying50 rfl Try.sizeOf2 rfl rfl) ?_
   refine WO.k1 trivial rfl rfl rfl rfl (rn_ld Try.isAgg2 rfl rfl (hvE (f4.ld 0 rfl rfl))) ?_
   refine WO.pn 2 rfl ?_
   obtain rfl := Option.some.inj h
   exact WO.met _ trivial ⟨rfl, _, (Stp.refl _ _).wk rfl⟩ fun a ha => (ha.more (ha.more ha.nil rfl) rfl)
 rintro _ w7 _ ⟨rfl, K8, S9⟩
 have h := hK5
 refine WO.pn 1 rfl ?_
 obtain ⟨p18, h, hK10⟩ := Option.bind_eq_some_iff.mp h
 refine WO.meet [(9, 2), (10, 1), (11, 2), (12, 2)] [(13, 2), (14, 2), (15, 1), (16, 2), (17, 2), (18, 2), (19, 2), (20, 1), (21, 2), (22, 2), (23, 1), (24, 2), (25, 2), (26, 2), (27, 2), (28, 1), (29, 2), (30, 2), (31, 2), (32, 2), (33, 2), (34, 1), (35, 2), (36, 2), (37, 2)] (fun L w' => L = [(1, .pointer (some ⟨b1, 0, none⟩)), (18, .bool p18)] ∧ ∃ κ', Stp [] K8 w7 κ' w') trivial ?_ ?_
 ·
  revert h
  cases ht11 : p13 with
  | true =>
   intro h; replace h := cT h
   refine WO.pn 1 rfl ?_
   refine WO.ls rfl rfl rfl rfl ?_
   refine WO.pn 2 rfl ?_
   obtain rfl := Option.some.inj h
   exact WO.met _ trivial ⟨rfl, _, (Stp.refl _ _).wk rfl⟩ fun a ha => (ha.more (ha.more ha.nil rfl) rfl)
  | false =>
   intro h; replace h := cF h
   refine WO.k2 rfl rfl rfl rfl (rn_fieldAddr Try.runUnderlying50 rfl Try.sizeOf2 rfl rfl) ?_
   have f12 := f4.stp S9 rfl rfl
   refine WO.k1 trivial rfl rfl rfl rfl (rn_ld Try.isAgg2 rfl rfl (hvE (f12.ld 1 rfl rfl))) ?_
   refine WO.pn 2 rfl ?_
   obtain rfl := Option.some.inj h
   exact WO.met _ trivial ⟨rfl, _, (Stp.refl _ _).wk rfl⟩ fun a ha => (ha.more (ha.more ha.nil rfl) rfl)
 rintro _ w13 _ ⟨rfl, K14, S15⟩
 have h := hK10
 refine WO.pn 1 rfl ?_
 obtain ⟨p23, h, hK16⟩ := Option.bind_eq_some_iff.mp h
 refine WO.meet [(14, 2), (15, 1), (16, 2), (17, 2)] [(18, 2), (19, 2), (20, 1), (21, 2), (22, 2), (23, 1), (24, 2), (25, 2), (26, 2), (27, 2), (28, 1), (29, 2), (30, 2), (31, 2), (32, 2), (33, 2), (34, 1), (35, 2), (36, 2), (37, 2)] (fun L w' => L = [(1, .pointer (some ⟨b1, 0, none⟩)), (23, .bool p23)] ∧ ∃ κ', Stp [] K14 w13 κ' w') trivial ?_ ?_
 ·
  revert h
  cases ht17 : p18 with
  | true =>
   intro h; replace h := cT h
   refine WO.pn 1 rfl ?_
   refine WO.ls rfl rfl rfl rfl ?_
   refine WO.pn 2 rfl ?_
   obtain rfl := Option.some.inj h
   exact WO.met _ trivial ⟨rfl, _, (Stp.refl _ _).wk rfl⟩ fun a ha => (ha.more (ha.more ha.nil rfl) rfl)
  | false =>
   intro h; replace h := cF h
   refine WO.k2 rfl rfl rfl rfl (rn_fieldAddr Try.runUnderlying50 rfl Try.sizeOf2 rfl rfl) ?_
   have f18 := f4.stp (S9.tr S15) rfl rfl
   refine WO.k1 trivial rfl rfl rfl rfl (rn_ld Try.isAgg2 rfl rfl (hvE (f18.ld 1 rfl rfl))) ?_
   refine WO.pn 2 rfl ?_
   obtain rfl := Option.some.inj h
   exact WO.met _ trivial ⟨rfl, _, (Stp.refl _ _).wk rfl⟩ fun a ha => (ha.more (ha.more ha.nil rfl) rfl)
 rintro _ w19 _ ⟨rfl, K20, S21⟩
 have h := hK16
 refine WO.pn 1 rfl ?_
 obtain ⟨p31, h, hK22⟩ := Option.bind_eq_some_iff.mp h
 refine WO.meet [(19, 2), (20, 1), (21, 2), (22, 2), (23, 1), (24, 2), (25, 2)] [(26, 2), (27, 2), (28, 1), (29, 2), (30, 2), (31, 2), (32, 2), (33, 2), (34, 1), (35, 2), (36, 2), (37, 2)] (fun L w' => L = [(1, .pointer (some ⟨b1, 0, none⟩)), (31, .bool p31)] ∧ ∃ κ', Stp [] K20 w19 κ' w') trivial ?_ ?_
 ·
  revert h
  cases ht23 : p23 with
  | true =>
   intro h; replace h := cT h
   refine WO.pn 1 rfl ?_
   refine WO.ls rfl rfl rfl rfl ?_
   refine WO.pn 2 rfl ?_
   refine WO.ls rfl rfl rfl rfl ?_
   refine WO.pn 2 rfl ?_
   obtain rfl := Option.some.inj h
   exact WO.met _ trivial ⟨rfl, _, (Stp.refl _ _).wk rfl⟩ fun a ha => (ha.more (ha.more ha.nil rfl) rfl)
  | false =>
   intro h; replace h := cF h
   refine WO.k2 rfl rfl rfl rfl (rn_fieldAddr Try.runUnderlying50 rfl Try.sizeOf24 rfl rfl) ?_
   have f24 := f4.stp (S9.tr (S15.tr S21)) rfl rfl
   refine WO.k1 trivial rfl rfl rfl rfl (rn_ld Try.isAgg24 rfl rfl (hvE (f24.ld 2 rfl rfl))) ?_
   refine WO.k2 rfl rfl rfl rfl (rn_len Try.runUnderlying24 rfl rfl) ?_
   refine WO.k2 rfl rfl rfl rfl (rn_fieldAddr Try.runUnderlying50 rfl Try.sizeOf2 rfl rfl) ?_
   refine WO.k1 trivial rfl rfl rfl rfl (rn_ld Try.isAgg2 rfl rfl (hvE (f24.ld 1 rfl rfl))) ?_
   refine WO.pn 2 rfl ?_
   obtain rfl := Option.some.inj h
   exact WO.met _ trivial ⟨rfl, _, (Stp.refl _ _).wk rfl⟩ fun a ha => (ha.more (ha.more ha.nil rfl) rfl)
 rintro _ w25 _ ⟨rfl, K26, S27⟩
 have h := hK22
 refine WO.pn 1 rfl ?_
 obtain ⟨p37, h, hK28⟩ := Option.bind_eq_some_iff.mp h
 refine WO.meet [(27, 2), (28, 1), (29, 2), (30, 2), (31, 2)] [(32, 2), (33, 2), (34, 1), (35, 2), (36, 2), (37, 2)] (fun L w' => L = [(1, .pointer (some ⟨b1, 0, none⟩)), (37, .bool p37)] ∧ ∃ κ', Stp [] K26 w25 κ' w') trivial ?_ ?_
 ·
  revert h
  cases ht29 : p31 with
  | true =>
   intro h; replace h := cT h
   refine WO.pn 1 rfl ?_
   refine WO.ls rfl rfl rfl rfl ?_
   refine WO.pn 3 rfl ?_
   obtain rfl := Option.some.inj h
   exact WO.met _ trivial ⟨rfl, _, (Stp.refl _ _).wk rfl⟩ fun a ha => (ha.more (ha.more ha.nil rfl) rfl)
  | false =>
   intro h; replace h := cF h
   refine WO.k2 rfl rfl rfl rfl (rn_fieldAddr Try.runUnderlying50 rfl Try.sizeOf48 rfl rfl) ?_
   have f30 := f4.stp (S9.tr (S15.tr (S21.tr S27))) rfl rfl
   refine WO.k1 trivial rfl rfl rfl rfl (rn_ld Try.isAgg48 rfl rfl (hvE (f30.ld 3 rfl rfl))) ?_
   refine WO.k2 rfl rfl rfl rfl (rn_len Try.runUnderlying48 rfl rfl) ?_
   refine WO.pn 2 rfl ?_
   obtain rfl := Option.some.inj h
   exact WO.met _ trivial ⟨rfl, _, (Stp.refl _ _).wk rfl⟩ fun a ha => (ha.more (ha.more ha.nil rfl) rfl)
 rintro _ w31 _ ⟨rfl, K32, S33⟩
 have h := hK28
 refine WO.pn 1 rfl ?_
 obtain ⟨p43, h, hK34⟩ := Option.bind_eq_some_iff.mp h
 refine WO.meet [(33, 2), (34, 1), (35, 2), (36, 2), (37, 2)] [] (fun L w' => L = [(1, .pointer (some ⟨b1, 0, none⟩)), (43, .bool p43)] ∧ ∃ κ', Stp [] K32 w31 κ' w') trivial ?_ ?_
 ·
  revert h
  cases ht35 : p37 with
  | true =>
   intro h; replace h := cT h
   refine WO.pn 1 rfl ?_
   refine WO.ls rfl rfl rfl rfl ?_
   refine WO.pn 3 rfl ?_
   obtain rfl := Option.some.inj h
   exact WO.met _ trivial ⟨rfl, _, (Stp.refl _ _).wk rfl⟩ fun a ha => (ha.more (ha.more ha.nil rfl) rfl)
  | false =>
   intro h; replace h := cF h
   refine WO.k2 rfl rfl rfl rfl (rn_fieldAddr Try.runUnderlying50 rfl Try.sizeOf24 rfl rfl) ?_
   have f36 := f4.stp (S9.tr (S15.tr (S21.tr (S27.tr S33)))) rfl rfl
   refine WO.k1 trivial rfl rfl rfl rfl (rn_ld Try.isAgg24 rfl rfl (hvE (f36.ld 4 rfl rfl))) ?_
   refine WO.k2 rfl rfl rfl rfl (rn_len Try.runUnderlying24 rfl rfl) ?_
   refine WO.pn 2 rfl ?_
   obtain rfl := Option.some.inj h
   exact WO.met _ trivial ⟨rfl, _, (Stp.refl _ _).wk rfl⟩ fun a ha => (ha.more (ha.more ha.nil rfl) rfl)
 rintro _ w37 _ ⟨rfl, K38, S39⟩
 have h := hK34
 refine WO.fin ?_
 refine DN.seq ?_
 revert h
 cases ht40 : p43 with
 | true =>
  intro h; replace h := cT h
  refine WC.ct rfl ?_
  refine WC.seq ?_
  refine WC.rs [(0, 2)] rfl ?_
  refine WO.pn 1 rfl ?_
  refine WO.fin ?_
  refine DN.seq ?_
  refine WC.ret ?_
  refine DN.retThen ?_
  have f41 := hE.stp (S3.tr (S9.tr (S15.tr (S21.tr (S27.tr (S33.tr S39)))))) rfl rfl
  refine DN.res (l := [.tmp 2]) Try.results88 (res_tmp rfl rfl) rfl ?_
  obtain rfl := Option.some.inj h
  exact ⟨K38, rfl, f41⟩
 | false =>
  intro h; replace h := cF h
  refine WC.cf rfl ?_
  refine WC.skip ?_
  refine DN.seq ?_
  refine WC.seq ?_
  refine WC.rs [(0, 2), (1, 1), (2, 2), (3, 2), (4, 1), (5, 2), (6, 2)] rfl ?_
  refine WO.k2 rfl rfl rfl rfl (rn_fieldAddr Try.runUnderlying50 rfl Try.sizeOf2 rfl rfl) ?_
  have f42 := f4.stp (S9.tr (S15.tr (S21.tr (S27.tr (S33.tr S39))))) rfl rfl
  refine WO.k1 trivial rfl rfl rfl rfl (rn_ld Try.isAgg2 rfl rfl (hvE (f42.ld 0 rfl rfl))) ?_
  refine WO.pn 1 rfl ?_
  refine WO.k2 rfl rfl rfl rfl (rn_fieldAddr Try.runUnderlying50 rfl Try.sizeOf2 rfl rfl) ?_
  refine WO.k1 trivial rfl rfl rfl rfl (rn_ld Try.isAgg2 rfl rfl (hvE (f42.ld 1 rfl rfl))) ?_
  refine WO.pn 2 rfl ?_
  refine WO.fin ?_
  refine DN.seq ?_
  refine WC.seq ?_
  refine WC.seq ?_
  refine WC.rs [(0, 2), (1, 1), (2, 2), (3, 2)] rfl ?_
  refine WO.k2 rfl rfl rfl rfl (rn_fieldAddr Try.runUnderlying50 rfl Try.sizeOf48 rfl rfl) ?_
  refine WO.k1 trivial rfl rfl rfl rfl (rn_ld Try.isAgg48 rfl rfl (hvE (f42.ld 3 rfl rfl))) ?_
  refine WO.k2 rfl rfl rfl rfl (rn_len Try.runUnderlying48 rfl rfl) ?_
  refine WO.pn 1 rfl ?_
  refine WO.fin ?_
  refine DN.seq ?_
  have hN43 : (p0.Gates.length : Int) ≤ 9223372036854775807 := g0_3.len_le
  obtain ⟨q2, hq45, hK44⟩ := Option.bind_eq_some_iff.mp h
  clear h
  refine WC.meet (fun L w' => ∃ (κ' : Col), L = [(1, .pointer (some ⟨b1, 0, none⟩))] ∧ Stp [3] K38 w37 κ' w' ∧ q2 = Sum.inr ()) ?_ ?_
  ·
   refine WC.block ?_
   refine WC.loop (fun k L w' => ∃ (κ' : Col) (v53 : Int), L = [(1, .pointer (some ⟨b1, 0, none⟩)), (3, .int .i64 (IntKind.i64.wrap ((IntKind.i64.wrap (1 + p0.Inputs)) + p0.Latches))), (51, .slice a0_3 p0.Gates.length u0_3), (52, .int .i64 (p0.Gates.length : Int)), (53, .int .i64 v53)] ∧ Stp [3] K38 w37 κ' w' ∧ 0 ≤ v53 ∧ Int.toNat ((p0.Gates.length : Int) - v53) = k ∧ cntM (i_isCircuit_b0 p0) k v53 () = some q2) ⟨_, _, ⟨K38, 0, rfl, (Stp.refl _ _).wk rfl, (by decide), (by simp), hq45⟩, fun a ha => (ha.more (ha.more (ha.more (ha.more (ha.more ha.nil rfl) rfl) rfl) rfl) rfl)⟩ ?_
   rintro k _ w49 ⟨K50, v53, rfl, S51, hj43, hJ43, h⟩
   rcases k with _ | k
   ·
    have hk52 := h; obtain ⟨o43, h⟩ := ex_eq (Sum.inr (Sum.inl ()) : Bool ⊕ ((Unit) ⊕ (Unit)))
    have hc43 : decide (v53 < (p0.Gates.length : Int)) = false := decide_eq_false (by omega)
    refine WC.seq ?_
    refine WC.rs [(0, 2)] rfl ?_
    refine WO.pn 1 rfl ?_
    refine WO.fin ?_
    refine DN.seq ?_
    refine WC.seq ?_
    refine WC.cf' rfl hc43 ?_
    refine WC.exit ?_
    refine DN.exitThen ?_
    refine DN.exitThen ?_
    obtain rfl := Option.some.inj h
    have h := hk52
    refine DN.hit ?_
    obtain rfl := Option.some.inj h
    exact DN.meet _ ⟨K50, rfl, S51.wk rfl, rfl⟩ fun a ha => (ha.more ha.nil rfl)
   ·
    obtain ⟨o43, h, hk52⟩ := Option.bind_eq_some_iff.mp h; unfold i_isCircuit_b0 at h
    have hc43 : decide (v53 < (p0.Gates.length : Int)) = true := decide_eq_true (by omega)
    refine WC.seq ?_
    refine WC.rs [(0, 2)] rfl ?_
    refine WO.pn 1 rfl ?_
    refine WO.fin ?_
    refine DN.seq ?_
    refine WC.seq ?_
    refine WC.ct' rfl hc43 ?_
    refine WC.skip ?_
    refine DN.seq ?_
    refine WC.seq ?_
    refine WC.block ?_
    refine WC.seq ?_
    refine WC.rs [(0, 2), (1, 2), (2, 1), (3, 1), (4, 2), (5, 1)] rfl ?_
    refine WO.pn 1 rfl ?_
    obtain ⟨x56, hx56, h⟩ := Option.bind_eq_some_iff.mp h
    refine WO.k2 rfl rfl rfl rfl (rn_index g0_3 hx56 Try.runUnderlying48 Try.sizeOf155 rfl rfl rfl rfl) ?_
    have f53 := g0_3.stp (S3.tr (S9.tr (S15.tr (S21.tr (S27.tr (S33.tr (S39.tr S51))))))) rfl rfl
    obtain ⟨cse54, hre54, hle54⟩ := (f53).gSt hx56
    obtain rfl := Gate.un hre54
    refine WO.k1 trivial rfl rfl rfl rfl (rn_la (cs := [.int .i64 x56.A, .int .i64 x56.B]) Try.isAgg155 Try.sizeOf155 rfl rfl rfl (haE hle54)) ?_
    refine WO.alloc (κ := K50) 3 rfl rfl rfl rfl rfl Try.zeroValue155 rfl fun b5 w55 K56 S57 f58 => ⟨trivial, ?_⟩
    refine WO.pn 1 rfl ?_
    refine WO.stB0 (κ := K56) 3 (vc := [.int .i64 x56.A, .int .i64 x56.B]) rfl rfl rfl rfl rfl rfl rfl Try.sizeOf155 rfl rfl f58 rfl fun w59 S60 f61 => ⟨trivial, ?_⟩
    refine WO.fin ?_
    refine DN.seq ?_
    refine WC.seq ?_
    refine WC.rs [(0, 2), (1, 1), (2, 2), (3, 1), (4, 1), (5, 2), (6, 2), (7, 2), (8, 2), (9, 1), (10, 2)] rfl ?_
    refine WO.k2 rfl rfl rfl rfl (rn_fieldAddr Try.runUnderlying155 rfl Try.sizeOf2 rfl rfl) ?_
    refine WO.k1 trivial rfl rfl rfl rfl (rn_ld Try.isAgg2 rfl rfl (hvE (f61.ld 0 rfl rfl))) ?_
    refine WO.k2 rfl rfl rfl rfl (rn_fieldAddr Try.runUnderlying155 rfl Try.sizeOf2 rfl rfl) ?_
    refine WO.k1 trivial rfl rfl rfl rfl (rn_ld Try.isAgg2 rfl rfl (hvE (f61.ld 1 rfl rfl))) ?_
    refine WO.bl (κ := K56) (E := (Ep.int .i64)) 4 [] (parts := [(0, .tmp 59), (1, .tmp 61)]) (cells := [.int .i64 x56.A, .int .i64 x56.B]) (xs := ([x56.A, x56.B] : List Int)) rfl rfl rfl rfl rfl rfl Try.underlying24 Tryinfo2 rfl rfl rfl rfl rfl rfl rfl rfl rfl rfl ⟨[.int .i64 x56.A], [.int .i64 x56.B], Zl K56 w59 [], Zl K56 w59 [], rfl, Zl.sp (l1 := []) (l2 := []) rfl, Zl.sr (l1 := []) (l2 := []), rfl, ⟨[.int .i64 x56.B], [], Zl K56 w59 [], Zl K56 w59 [], rfl, Zl.sp (l1 := []) (l2 := []) rfl, Zl.sr (l1 := []) (l2 := []), rfl, rfl⟩⟩ fun a62 u62 w62 K63 S64 f65 => ⟨trivial, ?_⟩
    refine WO.pn 4 rfl ?_
    obtain ⟨x67, hx67, h⟩ := Option.bind_eq_some_iff.mp h
    refine WO.call rfl rfl rfl rfl rfl rfl Try.call80 (i_areLetters_ok (κ := fun b => mp [] 0 (K63 b)) (Sl.map f65.rdc (mp [] 0) rfl rfl) hx67) ?_
    rintro _ w66 ⟨k67, rfl, e68⟩
    obtain ⟨K69, S70, m71⟩ := Ent.mixed (l := []) (κ := K63) e68 5 rfl
    refine ⟨trivial, ?_⟩
    refine WO.pn 1 rfl ?_
    refine WO.fin ?_
    refine DN.seq ?_
    revert h
    cases ht73 : (!x67) with
    | true =>
     intro h; replace h := cT h
     refine WC.ct rfl ?_
     refine WC.seq ?_
     refine WC.rs [(0, 2)] rfl ?_
     refine WO.pn 1 rfl ?_
     refine WO.fin ?_
     refine DN.seq ?_
     refine WC.ret ?_
     refine DN.retBlock ?_
     refine DN.retThen ?_
     refine DN.retThen ?_
     obtain rfl := Option.some.inj h
     obtain rfl := Option.some.inj hk52
     have h := hK44
     dsimp only [aft] at h
     refine DN.retBlock ?_
     refine DN.retMeet ?_
     refine DN.retThen ?_
     have f74 := hE.stp (S3.tr (S9.tr (S15.tr (S21.tr (S27.tr (S33.tr (S39.tr (S51.tr (S57.tr (S60.tr (S64.tr S70))))))))))) rfl rfl
     refine DN.res (l := [.tmp 2]) Try.results88 (res_tmp rfl rfl) rfl ?_
     obtain rfl := Option.some.inj h
     exact ⟨K69, rfl, f74⟩
    | false =>
     intro h; replace h := cF h
     refine WC.cf rfl ?_
     refine WC.skip ?_
     refine DN.block ?_
     refine DN.seq ?_
     refine WC.rs [(0, 2), (1, 2)] rfl ?_
     refine WO.pn 2 rfl ?_
     refine WO.fin ?_
     have hw43 : IntKind.wrap .i64 (v53 + 1) = v53 + 1 := wr1 hj43 (of_decide_eq_true hc43) hN43
     rw [hw43]
     have hc43 := of_decide_eq_true hc43
     obtain rfl := Option.some.inj h
     refine DN.round fun a ha => ?_
     exact ⟨k, _, Nat.lt_succ_self _, ⟨K69, v53 + 1, rfl, (S51.tr (S57.tr (S60.tr (S64.tr S70)))).wk rfl, by omega, by omega, hk52⟩, (ha.more (ha.more (ha.more (ha.more (ha.more ha.nil rfl) rfl) rfl) rfl) rfl)⟩
  rintro _ w46 ⟨K47, rfl, S48, rfl⟩
  have h := hK44
  dsimp only [aft] at h
  refine DN.seq ?_
  refine WC.seq ?_
  refine WC.rx (κ := K47) 2 none [(0, 2), (1, 0), (2, 0), (3, 1), (4, 2), (5, 1), (6, 2), (7, 2), (8, 0), (9, 0), (10, 1), (11, 2), (12, 1), (13, 2), (14, 2)] [] (by kernel_rfl) (by kernel_rfl) fun w76 S75 => ?_
  refine WO.k2 rfl rfl rfl rfl (rn_fieldAddr Try.runUnderlying50 rfl Try.sizeOf24 rfl rfl) ?_
  have f77 := f42.stp (S48.tr S75) rfl rfl
  refine WO.k0 rfl rfl rfl rfl (rn_ld Try.isAgg24 rfl rfl (hvC (f77.ld 2 rfl rfl) rfl)) ?_
  refine WO.k0 rfl rfl rfl rfl (rn_la (cs := [.int .i64 p0.Inputs, .int .i64 p0.Latches, .slice a0_2 p0.Next.length u0_2, .slice a0_3 p0.Gates.length u0_3, .slice a0_4 p0.Outs.length u0_4]) Try.isAgg50 Try.sizeOf50 rfl rfl rfl (haC f77.cells rfl)) ?_
  obtain ⟨x73, hx73, h⟩ := Option.bind_eq_some_iff.mp h
  have f78 := g0_2.stp (S3.tr (S9.tr (S15.tr (S21.tr (S27.tr (S33.tr (S39.tr (S48.tr S75)))))))) rfl rfl
  have f79 := g0_3.stp (S3.tr (S9.tr (S15.tr (S21.tr (S27.tr (S33.tr (S39.tr (S48.tr S75)))))))) rfl rfl
  have f80 := g0_4.stp (S3.tr (S9.tr (S15.tr (S21.tr (S27.tr (S33.tr (S39.tr (S48.tr S75)))))))) rfl rfl
  refine WO.call rfl rfl rfl rfl rfl rfl Try.call139 (i_signalsOf_ok (κ := fun b => mp [] 0 (K47 b)) (p0 := p0) (Sl.map f78 (mp [] 0) rfl rfl) (Sl.map f79 (mp [] 0) rfl rfl) (Sl.map f80 (mp [] 0) rfl rfl) hx73) ?_
  rintro _ w81 ⟨k82, rfl, e83⟩
  obtain ⟨K84, S85, m86⟩ := Ent.mixed (l := []) (κ := K47) e83 3 rfl
  refine ⟨(S85.cl rfl), ?_⟩
  refine WO.pn 1 rfl ?_
  obtain ⟨x75, hx75, h⟩ := Option.bind_eq_some_iff.mp h
  have f88 := f78.stp S85 rfl rfl
  refine WO.call rfl rfl rfl rfl rfl rfl Try.call80 (i_areLetters_ok (κ := fun b => mp [] 0 (K84 b)) (Sl.map f88 (mp [] 0) rfl rfl) hx75) ?_
  rintro _ w89 ⟨k90, rfl, e91⟩
  obtain ⟨K92, S93, m94⟩ := Ent.mixed (l := []) (κ := K84) e91 5 rfl
  refine ⟨((S85.tr S93).cl rfl), ?_⟩
  refine WO.pn 1 rfl ?_
  obtain ⟨p83, h, hK96⟩ := Option.bind_eq_some_iff.mp h
  refine WO.meet [(7, 2), (8, 0), (9, 0), (10, 1), (11, 2), (12, 1), (13, 2)] [(14, 2)] (fun L w' => L = [(83, .bool p83)] ∧ ∃ κ', Stp [] K92 w89 κ' w') ((S85.tr S93).cl rfl) ?_ ?_
  ·
   revert h
   cases ht97 : x75 with
   | true =>
    intro h; replace h := cT h
    refine WO.k2 rfl rfl rfl rfl (rn_fieldAddr Try.runUnderlying50 rfl Try.sizeOf24 rfl rfl) ?_
    refine WO.k0 rfl rfl rfl rfl (rn_ld Try.isAgg24 rfl rfl (hvC (f77.ld 4 rfl rfl) rfl)) ?_
    refine WO.k0 rfl rfl rfl rfl (rn_la (cs := [.int .i64 p0.Inputs, .int .i64 p0.Latches, .slice a0_2 p0.Next.length u0_2, .slice a0_3 p0.Gates.length u0_3, .slice a0_4 p0.Outs.length u0_4]) Try.isAgg50 Try.sizeOf50 rfl rfl rfl (haC f77.cells rfl)) ?_
    obtain ⟨x80, hx80, h⟩ := Option.bind_eq_some_iff.mp h
    have f98 := f88.stp S93 rfl rfl
    have f99 := f79.stp (S85.tr S93) rfl rfl
    have f100 := f80.stp (S85.tr S93) rfl rfl
    refine WO.call rfl rfl rfl rfl rfl rfl Try.call139 (i_signalsOf_ok (κ := fun b => mp [] 0 (K92 b)) (p0 := p0) (Sl.map f98 (mp [] 0) rfl rfl) (Sl.map f99 (mp [] 0) rfl rfl) (Sl.map f100 (mp [] 0) rfl rfl) hx80) ?_
    rintro _ w101 ⟨k102, rfl, e103⟩
    obtain ⟨K104, S105, m106⟩ := Ent.mixed (l := []) (κ := K92) e103 7 rfl
    refine ⟨((S85.tr (S93.tr S105)).cl rfl), ?_⟩
    refine WO.pn 1 rfl ?_
    obtain ⟨x82, hx82, h⟩ := Option.bind_eq_some_iff.mp h
    have f108 := f100.stp S105 rfl rfl
    refine WO.call rfl rfl rfl rfl rfl rfl Try.call80 (i_areLetters_ok (κ := fun b => mp [] 0 (K104 b)) (Sl.map f108 (mp [] 0) rfl rfl) hx82) ?_
    rintro _ w109 ⟨k110, rfl, e111⟩
    obtain ⟨K112, S113, m114⟩ := Ent.mixed (l := []) (κ := K104) e111 9 rfl
    refine ⟨((S85.tr (S93.tr (S105.tr S113))).cl rfl), ?_⟩
    refine WO.pn 1 rfl ?_
    obtain rfl := Option.some.inj h
    exact WO.met _ ((S85.tr (S93.tr (S105.tr S113))).cl rfl) ⟨rfl, _, (S105.tr S113).wk rfl⟩ fun a ha => (ha.more ha.nil rfl)
   | false =>
    intro h; replace h := cF h
    refine WO.pn 1 rfl ?_
    refine WO.qs rfl rfl rfl rfl ?_
    refine WO.qs rfl rfl rfl rfl ?_
    refine WO.ls rfl rfl rfl rfl ?_
    refine WO.pn 1 rfl ?_
    refine WO.ls rfl rfl rfl rfl ?_
    refine WO.pn 1 rfl ?_
    obtain rfl := Option.some.inj h
    exact WO.met _ ((S85.tr S93).cl rfl) ⟨rfl, _, (Stp.refl _ _).wk rfl⟩ fun a ha => (ha.more ha.nil rfl)
  rintro _ w116 _ ⟨rfl, K117, S118⟩
  have h := hK96
  refine WO.pn 1 rfl ?_
  refine WO.nx ?_
  refine WO.fin ?_
  refine DN.seq ?_
  refine WC.ret ?_
  have f119 := hE.stp (S3.tr (S9.tr (S15.tr (S21.tr (S27.tr (S33.tr (S39.tr (S48.tr (S75.tr (S85.tr (S93.tr S118))))))))))) rfl rfl
  refine DN.res (l := [.tmp 2]) Try.results88 (res_tmp rfl rfl) rfl ?_
  obtain rfl := Option.some.inj h
  exact ⟨K117, rfl, f119⟩

/- loop.example/g00869/impl.ChosenBy -/
theorem i_ChosenBy_ok {w : World} {κ : Col} {a0_2 : Option Addr} {u0_2 : Nat} {a0_3 : Option Addr} {u0_3 : Nat} {a0_4 : Option Addr} {u0_4 : Nat} {p0 : Circuit} {p1 : Int} {p2 : Int} {p3 : Int} (g0_2 : Rd (Rp.int .i64) κ w 0 a0_2 u0_2 p0.Next) (g0_3 : Rd Gate.rp κ w 0 a0_3 u0_3 p0.Gates) (g0_4 : Rd (Rp.int .i64) κ w 0 a0_4 u0_4 p0.Outs) {r : Circuit × Int} (h : i_ChosenBy p0 p1 p2 p3 = some r) : Ret Try.prog 67 [.agg #[.int .i64 p0.Inputs, .int .i64 p0.Latches, .slice a0_2 p0.Next.length u0_2, .slice a0_3 p0.Gates.length u0_3, .slice a0_4 p0.Outs.length u0_4], .int .i64 p1, .int .i64 p2, .int .i64 p3] w (fun v w' => ∃ (κ' : Col) (ra0 : Option Addr) (ru0 : Nat) (ra1 : Option Addr) (ru1 : Nat) (ra2 : Option Addr) (ru2 : Nat), v = .tuple #[.agg #[.int .i64 r.1.Inputs, .int .i64 r.1.Latches, .slice ra0 r.1.Next.length ru0, .slice ra1 r.1.Gates.length ru1, .slice ra2 r.1.Outs.length ru2], .int .i64 r.2] ∧ Ent κ w κ' w' ∧ Oc (Ep.int .i64) 2 κ' w' 2 ra0 ru0 r.1.Next ∧ Oc Gate.ep155 155 κ' w' 3 ra1 ru1 r.1.Gates ∧ Oc (Ep.int .i64) 2 κ' w' 4 ra2 ru2 r.1.Outs) := by
 unfold i_ChosenBy at h
 refine Ret.enter Try.func67 rfl Try.ntmps67 rfl ?_
 dsimp only [envOf]
 have hE := Ent.refl κ w
 refine WC.seq ?_
 refine WC.rs [(0, 1), (1, 1), (2, 2)] rfl ?_
 refine WO.box (κ := κ) 2 rfl rfl rfl rfl rfl rfl rfl fun b4 w1 K2 S3 f4 => ⟨trivial, ?_⟩
 refine WO.alloc (κ := K2) 3 rfl rfl rfl rfl rfl Try.zeroValue50 rfl fun b8 w5 K6 S7 f8 => ⟨trivial, ?_⟩
 refine WO.pn 1 rfl ?_
 refine WO.fin ?_
 refine DN.seq ?_
 refine WC.seq ?_
 refine WC.seq ?_
 refine WC.rs [(0, 1), (1, 1), (2, 2), (3, 2), (4, 1), (5, 2), (6, 1), (7, 2), (8, 2), (9, 2), (10, 1), (11, 2), (12, 1), (13, 2), (14, 2), (15, 2), (16, 1), (17, 2), (18, 1), (19, 2), (20, 2)] rfl ?_
 have f9 := f4.stp S7 rfl rfl
 refine WO.k1 trivial rfl rfl rfl rfl (rn_la (cs := [.int .i64 p0.Inputs, .int .i64 p0.Latches, .slice a0_2 p0.Next.length u0_2, .slice a0_3 p0.Gates.length u0_3, .slice a0_4 p0.Outs.length u0_4]) Try.isAgg50 Try.sizeOf50 rfl rfl rfl (haE f9.cells)) ?_
 obtain ⟨x13, hx13, h⟩ := Option.bind_eq_some_iff.mp h
 have f10 := g0_2.stp (S3.tr S7) rfl rfl
 have f11 := g0_3.stp (S3.tr S7) rfl rfl
 have f12 := g0_4.stp (S3.tr S7) rfl rfl
 refine WO.call rfl rfl rfl rfl rfl rfl Try.call88 (i_isCircuit_ok (κ := fun b => mp [] 0 (K6 b)) (p0 := p0) (Sl.map f10 (mp [] 0) rfl rfl) (Sl.map f11 (mp [] 0) rfl rfl) (Sl.map f12 (mp [] 0) rfl rfl) hx13) ?_
 rintro _ w13 ⟨k14, rfl, e15⟩
 obtain ⟨K16, S17, m18⟩ := Ent.mixed (l := []) (κ := K6) e15 4 rfl
 refine ⟨trivial, ?_⟩
 refine WO.pn 2 rfl ?_
 obtain ⟨p20, h, hK20⟩ := Option.bind_eq_some_iff.mp h
 refine WO.meet [(4, 1), (5, 2), (6, 1), (7, 2), (8, 2)] [(9, 2), (10, 1), (11, 2), (12, 1), (13, 2), (14, 2), (15, 2), (16, 1), (17, 2), (18, 1), (19, 2), (20, 2)] (fun L w' => L = [(1, .int .i64 p1), (2, .int .i64 p2), (3, .int .i64 p3), (4, .pointer (some ⟨b4, 0, none⟩)), (8, .pointer (some ⟨b8, 0, none⟩)), (20, .bool p20)] ∧ ∃ κ', Stp [] K16 w13 κ' w') trivial ?_ ?_
 ·
  revert h
  cases ht21 : (!x13) with
  | true =>
   intro h; replace h := cT h
   refine WO.ls rfl rfl rfl rfl ?_
   refine WO.pn 1 rfl ?_
   refine WO.ls rfl rfl rfl rfl ?_
   refine WO.pn 2 rfl ?_
   obtain rfl := Option.some.inj h
   exact WO.met _ trivial ⟨rfl, _, (Stp.refl _ _).wk rfl⟩ fun a ha => (ha.more (ha.more (ha.more (ha.more (ha.more (ha.more ha.nil rfl) rfl) rfl) rfl) rfl) rfl)
  | false =>
   intro h; replace h := cF h
   have f22 := f9.stp S17 rfl rfl
   refine WO.k1 trivial rfl rfl rfl rfl (rn_la (cs := [.int .i64 p0.Inputs, .int .i64 p0.Latches, .slice a0_2 p0.Next.length u0_2, .slice a0_3 p0.Gates.length u0_3, .slice a0_4 p0.Outs.length u0_4]) Try.isAgg50 Try.sizeOf50 rfl rfl rfl (haE f22.cells)) ?_
   refine WO.pn 1 rfl ?_
   obtain ⟨x18, hx18, h⟩ := Option.bind_eq_some_iff.mp h
   have f23 := f10.stp S17 rfl rfl
   have f24 := f11.stp S17 rfl rfl
   have f25 := f12.stp S17 rfl rfl
   refine WO.call rfl rfl rfl rfl rfl rfl Try.call120 (i_isLiteral_ok (κ := fun b => mp [] 0 (K16 b)) (p0 := p0) (Sl.map f23 (mp [] 0) rfl rfl) (Sl.map f24 (mp [] 0) rfl rfl) (Sl.map f25 (mp [] 0) rfl rfl) hx18) ?_
   rintro _ w26 ⟨k27, rfl, e28⟩
   obtain ⟨K29, S30, m31⟩ := Ent.mixed (l := []) (κ := K16) e28 6 rfl
   refine ⟨trivial, ?_⟩
   refine WO.pn 2 rfl ?_
   obtain rfl := Option.some.inj h
   exact WO.met _ trivial ⟨rfl, _, S30.wk rfl⟩ fun a ha => (ha.more (ha.more (ha.more (ha.more (ha.more (ha.more ha.nil rfl) rfl) rfl) rfl) rfl) rfl)
 rintro _ w33 _ ⟨rfl, K34, S35⟩
 have h := hK20
 refine WO.pn 1 rfl ?_
 obtain ⟨p26, h, hK36⟩ := Option.bind_eq_some_iff.mp h
 refine WO.meet [(10, 1), (11, 2), (12, 1), (13, 2), (14, 2)] [(15, 2), (16, 1), (17, 2), (18, 1), (19, 2), (20, 2)] (fun L w' => L = [(1, .int .i64 p1), (2, .int .i64 p2), (3, .int .i64 p3), (4, .pointer (some ⟨b4, 0, none⟩)), (8, .pointer (some ⟨b8, 0, none⟩)), (26, .bool p26)] ∧ ∃ κ', Stp [] K34 w33 κ' w') trivial ?_ ?_
 ·
  revert h
  cases ht37 : p20 with
  | true =>
   intro h; replace h := cT h
   refine WO.ls rfl rfl rfl rfl ?_
   refine WO.pn 1 rfl ?_
   refine WO.ls rfl rfl rfl rfl ?_
   refine WO.pn 2 rfl ?_
   obtain rfl := Option.some.inj h
   exact WO.met _ trivial ⟨rfl, _, (Stp.refl _ _).wk rfl⟩ fun a ha => (ha.more (ha.more (ha.more (ha.more (ha.more (ha.more ha.nil rfl) rfl) rfl) rfl) rfl) rfl)
  | false =>
   intro h; replace h := cF h
   have f38 := f9.stp (S17.tr S35) rfl rfl
   refine WO.k1 trivial rfl rfl rfl rfl (rn_la (cs := [.int .i64 p0.Inputs, .int .i64 p0.Latches, .slice a0_2 p0.Next.length u0_2, .slice a0_3 p0.Gates.length u0_3, .slice a0_4 p0.Outs.length u0_4]) Try.isAgg50 Try.sizeOf50 rfl rfl rfl (haE f38.cells)) ?_
   refine WO.pn 1 rfl ?_
   obtain ⟨x24, hx24, h⟩ := Option.bind_eq_some_iff.mp h
   have f39 := f10.stp (S17.tr S35) rfl rfl
   have f40 := f11.stp (S17.tr S35) rfl rfl
   have f41 := f12.stp (S17.tr S35) rfl rfl
   refine WO.call rfl rfl rfl rfl rfl rfl Try.call120 (i_isLiteral_ok (κ := fun b => mp [] 0 (K34 b)) (p0 := p0) (Sl.map f39 (mp [] 0) rfl rfl) (Sl.map f40 (mp [] 0) rfl rfl) (Sl.map f41 (mp [] 0) rfl rfl) hx24) ?_
   rintro _ w42 ⟨k43, rfl, e44⟩
   obtain ⟨K45, S46, m47⟩ := Ent.mixed (l := []) (κ := K34) e44 6 rfl
   refine ⟨trivial, ?_⟩
   refine WO.pn 2 rfl ?_
   obtain rfl := Option.some.inj h
   exact WO.met _ trivial ⟨rfl, _, S46.wk rfl⟩ fun a ha => (ha.more (ha.more (ha.more (ha.more (ha.more (ha.more ha.nil rfl) rfl) rfl) rfl) rfl) rfl)
 rintro _ w49 _ ⟨rfl, K50, S51⟩
 have h := hK36
 refine WO.pn 1 rfl ?_
 obtain ⟨p32, h, hK52⟩ := Option.bind_eq_some_iff.mp h
 refine WO.meet [(16, 1), (17, 2), (18, 1), (19, 2), (20, 2)] [] (fun L w' => L = [(1, .int .i64 p1), (2, .int .i64 p2), (3, .int .i64 p3), (4, .pointer (some ⟨b4, 0, none⟩)), (8, .pointer (some ⟨b8, 0, none⟩)), (32, .bool p32)] ∧ ∃ κ', Stp [] K50 w49 κ' w') trivial ?_ ?_
 ·
  revert h
  cases ht53 : p26 with
  | true =>
   intro h; replace h := cT h
   refine WO.ls rfl rfl rfl rfl ?_
   refine WO.pn 1 rfl ?_
   refine WO.ls rfl rfl rfl rfl ?_
   refine WO.pn 2 rfl ?_
   obtain rfl := Option.some.inj h
   exact WO.met _ trivial ⟨rfl, _, (Stp.refl _ _).wk rfl⟩ fun a ha => (ha.more (ha.more (ha.more (ha.more (ha.more (ha.more ha.nil rfl) rfl) rfl) rfl) rfl) rfl)
  | false =>
   intro h; replace h := cF h
   have f54 := f9.stp (S17.tr (S35.tr S51)) rfl rfl
   refine WO.k1 trivial rfl rfl rfl rfl (rn_la (cs := [.int .i64 p0.Inputs, .int .i64 p0.Latches, .slice a0_2 p0.Next.length u0_2, .slice a0_3 p0.Gates.length u0_3, .slice a0_4 p0.Outs.length u0_4]) Try.isAgg50 Try.sizeOf50 rfl rfl rfl (haE f54.cells)) ?_
   refine WO.pn 1 rfl ?_
   obtain ⟨x30, hx30, h⟩ := Option.bind_eq_some_iff.mp h
   have f55 := f10.stp (S17.tr (S35.tr S51)) rfl rfl
   have f56 := f11.stp (S17.tr (S35.tr S51)) rfl rfl
   have f57 := f12.stp (S17.tr (S35.tr S51)) rfl rfl
   refine WO.call rfl rfl rfl rfl rfl rfl Try.call120 (i_isLiteral_ok (κ := fun b => mp [] 0 (K50 b)) (p0 := p0) (Sl.map f55 (mp [] 0) rfl rfl) (Sl.map f56 (mp [] 0) rfl rfl) (Sl.map f57 (mp [] 0) rfl rfl) hx30) ?_
   rintro _ w58 ⟨k59, rfl, e60⟩
   obtain ⟨K61, S62, m63⟩ := Ent.mixed (l := []) (κ := K50) e60 6 rfl
   refine ⟨trivial, ?_⟩
   refine WO.pn 2 rfl ?_
   obtain rfl := Option.some.inj h
   exact WO.met _ trivial ⟨rfl, _, S62.wk rfl⟩ fun a ha => (ha.more (ha.more (ha.more (ha.more (ha.more (ha.more ha.nil rfl) rfl) rfl) rfl) rfl) rfl)
 rintro _ w65 _ ⟨rfl, K66, S67⟩
 have h := hK52
 refine WO.fin ?_
 refine DN.seq ?_
 revert h
 cases ht68 : p32 with
 | true =>
  intro h; replace h := cT h
  refine WC.ct rfl ?_
  refine WC.seq ?_
  refine WC.rs [(0, 2), (1, 1), (2, 2)] rfl ?_
  refine WO.k2 rfl rfl rfl rfl (rn_build (parts := []) (cells := [.int .i64 0, .int .i64 0, .slice none 0 0, .slice none 0 0, .slice none 0 0]) rfl rfl (by kernel_rfl)) ?_
  have f69 := f8.stp (S17.tr (S35.tr (S51.tr S67))) rfl rfl
  refine WO.stB0 (κ := K66) 3 (vc := [.int .i64 0, .int .i64 0, .slice none 0 0, .slice none 0 0, .slice none 0 0]) rfl rfl rfl rfl rfl rfl rfl Try.sizeOf50 rfl rfl f69 rfl fun w70 S71 f72 => ⟨trivial, ?_⟩
  refine WO.pn 1 rfl ?_
  refine WO.fin ?_
  refine DN.seq ?_
  refine WC.ret ?_
  refine DN.retThen ?_
  have f73 := hE.stp (S3.tr (S7.tr (S17.tr (S35.tr (S51.tr (S67.tr S71)))))) rfl rfl
  refine DN.res (l := [.cell 8 50, .tmp 9]) Try.results67 (res_cellA rfl f72 Try.isAgg50 Try.sizeOf50 rfl (res_tmp rfl rfl)) rfl ?_
  obtain rfl := Option.some.inj h
  exact ⟨K66, none, 0, none, 0, none, 0, rfl, f73, Ow.nil, Ow.nil, Ow.nil⟩
 | false =>
  intro h; replace h := cF h
  refine WC.cf rfl ?_
  refine WC.skip ?_
  refine DN.seq ?_
  refine WC.seq ?_
  refine WC.rs [(0, 1), (1, 1), (2, 2)] rfl ?_
  have f74 := f9.stp (S17.tr (S35.tr (S51.tr S67))) rfl rfl
  refine WO.k1 trivial rfl rfl rfl rfl (rn_la (cs := [.int .i64 p0.Inputs, .int .i64 p0.Latches, .slice a0_2 p0.Next.length u0_2, .slice a0_3 p0.Gates.length u0_3, .slice a0_4 p0.Outs.length u0_4]) Try.isAgg50 Try.sizeOf50 rfl rfl rfl (haE f74.cells)) ?_
  obtain ⟨x35, hx35, h⟩ := Option.bind_eq_some_iff.mp h
  have f75 := f10.stp (S17.tr (S35.tr (S51.tr S67))) rfl rfl
  have f76 := f11.stp (S17.tr (S35.tr (S51.tr S67))) rfl rfl
  have f77 := f12.stp (S17.tr (S35.tr (S51.tr S67))) rfl rfl
  refine WO.call rfl rfl rfl rfl rfl rfl Try.call121 (i_newBuilder_ok (κ := fun b => mp [] 0 (K66 b)) (p0 := p0) (Sl.map f75 (mp [] 0) rfl rfl) (Sl.map f76 (mp [] 0) rfl rfl) (Sl.map f77 (mp [] 0) rfl rfl) hx35) ?_
  rintro _ w78 ⟨k79, a35_0, u35_0, a35_1, u35_1, a35_2, u35_2, mb35_3, b35, rfl, e80, f81, f82, f83, f84, f85⟩
  obtain ⟨K86, S87, m88⟩ := Ent.mixed (l := []) (κ := K66) e80 6 rfl
  refine ⟨trivial, ?_⟩
  have f90 := f81.mx (no_int _) m88 rfl (rfl : 6 + 2 = 8)
  have f91 := f82.mx Gate.no155 m88 rfl (rfl : 6 + 3 = 9)
  have f92 := f83.mx (no_int _) m88 rfl (rfl : 6 + 4 = 10)
  have f93 := f84.mx' m88 rfl (rfl : 6 + 5 = 11)
  have f94 := f85.mx m88 rfl (rfl : 6 + 6 = 12)
  refine WO.pn 1 rfl ?_
  refine WO.fin ?_
  refine DN.seq ?_
  refine WC.seq ?_
  refine WC.rs [(0, 2), (1, 2), (2, 2), (3, 2), (4, 1), (5, 2)] rfl ?_
  refine WO.pn 4 rfl ?_
  obtain ⟨x40, hx40, h⟩ := Option.bind_eq_some_iff.mp h
  refine WO.call rfl rfl rfl rfl rfl rfl Try.call130 (i_builder_choose_ok (κ := fun b => mp [(9, 2), (11, 3), (12, 4)] 0 (K86 b)) (p0 := x35) (Sl.map f90.rdc (mp [(9, 2), (11, 3), (12, 4)] 0) rfl rfl) (f91.map (mp [(9, 2), (11, 3), (12, 4)] 0) rfl rfl) (Sl.map f92.rdc (mp [(9, 2), (11, 3), (12, 4)] 0) rfl rfl) (f93.map (mp [(9, 2), (11, 3), (12, 4)] 0) rfl rfl) (f94.map (mp [(9, 2), (11, 3), (12, 4)] 0) rfl rfl) hx40) ?_
  rintro _ w95 ⟨k96, a40_m0, u40_m0, rfl, e97, f98, f99, f100⟩
  obtain ⟨K101, S102, m103⟩ := Ent.mixed (l := [(9, 2), (11, 3), (12, 4)]) (κ := K86) e97 13 rfl
  refine ⟨trivial, ?_⟩
  have f105 := f98.mx Gate.no155 m103 rfl (rfl : 13 + 2 = 15)
  have f106 := f99.mx' m103 rfl (rfl : 13 + 3 = 16)
  have f107 := f100.mx m103 rfl (rfl : 13 + 4 = 17)
  refine WO.pn 1 rfl ?_
  refine WO.fin ?_
  refine DN.seq ?_
  refine WC.seq ?_
  refine WC.seq ?_
  refine WC.rs [(0, 2), (1, 2), (2, 2), (3, 1)] rfl ?_
  refine WO.pn 1 rfl ?_
  refine WO.k2 rfl rfl rfl rfl (rn_nilCheck rfl rfl) ?_
  refine WO.k2 rfl rfl rfl rfl (rn_fieldAddr Try.runUnderlying143 rfl Try.sizeOf4 rfl rfl) ?_
  refine WO.k1 trivial rfl rfl rfl rfl (rn_ld Try.isAgg4 rfl rfl (hvE (f107.ld 5 rfl rfl))) ?_
  refine WO.fin ?_
  refine DN.seq ?_
  revert h
  cases ht108 : x40.2.2.1 with
  | true =>
   intro h; replace h := cT h
   refine WC.ct rfl ?_
   refine WC.seq ?_
   refine WC.rs [(0, 2), (1, 1), (2, 2)] rfl ?_
   refine WO.k2 rfl rfl rfl rfl (rn_build (parts := []) (cells := [.int .i64 0, .int .i64 0, .slice none 0 0, .slice none 0 0, .slice none 0 0]) rfl rfl (by kernel_rfl)) ?_
   have f109 := f8.stp (S17.tr (S35.tr (S51.tr (S67.tr (S87.tr S102))))) rfl rfl
   refine WO.stB0 (κ := K101) 3 (vc := [.int .i64 0, .int .i64 0, .slice none 0 0, .slice none 0 0, .slice none 0 0]) rfl rfl rfl rfl rfl rfl rfl Try.sizeOf50 rfl rfl f109 rfl fun w110 S111 f112 => ⟨trivial, ?_⟩
   refine WO.pn 1 rfl ?_
   refine WO.fin ?_
   refine DN.seq ?_
   refine WC.ret ?_
   refine DN.retThen ?_
   have f113 := hE.stp (S3.tr (S7.tr (S17.tr (S35.tr (S51.tr (S67.tr (S87.tr (S102.tr S111)))))))) rfl rfl
   refine DN.res (l := [.cell 8 50, .tmp 9]) Try.results67 (res_cellA rfl f112 Try.isAgg50 Try.sizeOf50 rfl (res_tmp rfl rfl)) rfl ?_
   obtain rfl := Option.some.inj h
   exact ⟨K101, none, 0, none, 0, none, 0, rfl, f113, Ow.nil, Ow.nil, Ow.nil⟩
  | false =>
   intro h; replace h := cF h
   refine WC.cf rfl ?_
   refine WC.skip ?_
   refine DN.seq ?_
   refine WC.seq ?_
   refine WC.rs [(0, 2), (1, 2), (2, 2), (3, 1), (4, 2), (5, 1), (6, 2)] rfl ?_
   refine WO.pn 1 rfl ?_
   refine WO.k2 rfl rfl rfl rfl (rn_nilCheck rfl rfl) ?_
   refine WO.k2 rfl rfl rfl rfl (rn_fieldAddr Try.runUnderlying143 rfl Try.sizeOf50 rfl rfl) ?_
   refine WO.k1 trivial rfl rfl rfl rfl (rn_la (cs := [.int .i64 x35.c.Inputs, .int .i64 x35.c.Latches, .slice a35_0 x35.c.Next.length u35_0, .slice a40_m0 x40.2.1.length u40_m0, .slice a35_2 x35.c.Outs.length u35_2]) Try.isAgg50 Try.sizeOf50 rfl rfl rfl (haE (f107.lds 0 5 rfl))) ?_
   refine WO.pn 1 rfl ?_
   have f114 := f8.stp (S17.tr (S35.tr (S51.tr (S67.tr (S87.tr S102))))) rfl rfl
   refine WO.stB0 (κ := K101) 3 (vc := [.int .i64 x35.c.Inputs, .int .i64 x35.c.Latches, .slice a35_0 x35.c.Next.length u35_0, .slice a40_m0 x40.2.1.length u40_m0, .slice a35_2 x35.c.Outs.length u35_2]) rfl rfl rfl rfl rfl rfl rfl Try.sizeOf50 rfl rfl f114 rfl fun w115 S116 f117 => ⟨trivial, ?_⟩
   refine WO.pn 1 rfl ?_
   refine WO.fin ?_
   refine DN.seq ?_
   refine WC.ret ?_
   have f118 := hE.stp (S3.tr (S7.tr (S17.tr (S35.tr (S51.tr (S67.tr (S87.tr (S102.tr S116)))))))) rfl rfl
   have f119 := f90.stp (S102.tr S116) rfl rfl
   have f120 := f105.stp S116 rfl rfl
   have f121 := f92.stp (S102.tr S116) rfl rfl
   refine DN.res (l := [.cell 8 50, .tmp 9]) Try.results67 (res_cellA rfl f117 Try.isAgg50 Try.sizeOf50 rfl (res_tmp rfl rfl)) rfl ?_
   obtain rfl := Option.some.inj h
   exact ⟨(fun b => ren [(8, 2), (15, 3), (10, 4)] (K101 b)), a35_0, u35_0, a40_m0, u40_m0, a35_2, u35_2, rfl, (f118.map (ren [(8, 2), (15, 3), (10, 4)]) rfl rfl), (f119.map (ren [(8, 2), (15, 3), (10, 4)]) rfl rfl), (f120.map (ren [(8, 2), (15, 3), (10, 4)]) rfl rfl), (f121.map (ren [(8, 2), (15, 3), (10, 4)]) rfl rfl)⟩

/- loop.example/g00869/laws.FnExactChosenBy -/
theorem l_FnExactChosenBy_ok {w : World} {κ : Col} {a0_2 : Option Addr} {u0_2 : Nat} {a0_3 : Option Addr} {u0_3 : Nat} {a0_4 : Option Addr} {u0_4 : Nat} {p0 : Circuit} {p1 : Int} {p2 : Int} {p3 : Int} (g0_2 : Rd (Rp.int .i64) κ w 0 a0_2 u0_2 p0.Next) (g0_3 : Rd Gate.rp κ w 0 a0_3 u0_3 p0.Gates) (g0_4 : Rd (Rp.int .i64) κ w 0 a0_4 u0_4 p0.Outs) {r : Bool} (h : l_FnExactChosenBy p0 p1 p2 p3 = some r) : Ret Try.prog 14 [.agg #[.int .i64 p0.Inputs, .int .i64 p0.Latches, .slice a0_2 p0.Next.length u0_2, .slice a0_3 p0.Gates.length u0_3, .slice a0_4 p0.Outs.length u0_4], .int .i64 p1, .int .i64 p2, .int .i64 p3] w (fun v w' => ∃ (κ' : Col), v = .bool r ∧ Ent κ w κ' w') := by
 unfold l_FnExactChosenBy at h
 refine Ret.enter Try.func14 rfl Try.ntmps14 rfl ?_
 dsimp only [envOf]
 have hE := Ent.refl κ w
 refine WC.seq ?_
 refine WC.rs [(0, 1), (1, 2)] rfl ?_
 refine WO.box (κ := κ) 2 rfl rfl rfl rfl rfl rfl rfl fun b4 w1 K2 S3 f4 => ⟨trivial, ?_⟩
 refine WO.pn 1 rfl ?_
 refine WO.fin ?_
 refine DN.seq ?_
 refine WC.seq ?_
 refine WC.rs [(0, 2)] rfl ?_
 refine WO.pn 1 rfl ?_
 refine WO.fin ?_
 refine DN.seq ?_
 refine WC.seq ?_
 refine WC.rs [(0, 1), (1, 2), (2, 1), (3, 2)] rfl ?_
 refine WO.k1 trivial rfl rfl rfl rfl (rn_la (cs := [.int .i64 p0.Inputs, .int .i64 p0.Latches, .slice a0_2 p0.Next.length u0_2, .slice a0_3 p0.Gates.length u0_3, .slice a0_4 p0.Outs.length u0_4]) Try.isAgg44 Try.sizeOf44 rfl rfl rfl (haE f4.cells)) ?_
 refine WO.pn 1 rfl ?_
 obtain ⟨x22, hx22, h⟩ := Option.bind_eq_some_iff.mp h
 have f5 := g0_2.stp S3 rfl rfl
 have f6 := g0_3.stp S3 rfl rfl
 have f7 := g0_4.stp S3 rfl rfl
 refine WO.call rfl rfl rfl rfl rfl rfl Try.call28 (l_szCircuit_ok (κ := fun b => mp [] 0 (K2 b)) (p0 := p0) (Sl.map f5 (mp [] 0) rfl rfl) (Sl.map f6 (mp [] 0) rfl rfl) (Sl.map f7 (mp [] 0) rfl rfl) hx22) ?_
 rintro _ w8 ⟨k9, rfl, e10⟩
 obtain ⟨K11, S12, m13⟩ := Ent.mixed (l := []) (κ := K2) e10 3 rfl
 refine ⟨trivial, ?_⟩
 refine WO.pn 1 rfl ?_
 refine WO.fin ?_
 refine DN.seq ?_
 refine WC.seq ?_
 refine WC.seq ?_
 refine WC.rs [(0, 2), (1, 2)] rfl ?_
 refine WO.pn 2 rfl ?_
 refine WO.fin ?_
 refine DN.seq ?_
 revert h
 cases ht15 : decide (x22 < 0) with
 | true =>
  intro h; replace h := cT h
  refine WC.ct rfl ?_
  refine WC.seq ?_
  refine WC.rs [(0, 2)] rfl ?_
  refine WO.pn 1 rfl ?_
  refine WO.fin ?_
  refine DN.seq ?_
  refine WC.ret ?_
  refine DN.retThen ?_
  have f16 := hE.stp (S3.tr S12) rfl rfl
  refine DN.res (l := [.tmp 8]) Try.results14 (res_tmp rfl rfl) rfl ?_
  obtain rfl := Option.some.inj h
  exact ⟨K11, rfl, f16⟩
 | false =>
  intro h; replace h := cF h
  refine WC.cf rfl ?_
  refine WC.skip ?_
  refine DN.seq ?_
  refine WC.seq ?_
  refine WC.rs [(0, 1), (1, 1), (2, 2), (3, 2), (4, 2), (5, 1), (6, 2), (7, 2), (8, 2), (9, 1), (10, 1), (11, 2)] rfl ?_
  have f17 := f4.stp S12 rfl rfl
  refine WO.k1 trivial rfl rfl rfl rfl (rn_la (cs := [.int .i64 p0.Inputs, .int .i64 p0.Latches, .slice a0_2 p0.Next.length u0_2, .slice a0_3 p0.Gates.length u0_3, .slice a0_4 p0.Outs.length u0_4]) Try.isAgg44 Try.sizeOf44 rfl rfl rfl (haE f17.cells)) ?_
  obtain ⟨x27, hx27, h⟩ := Option.bind_eq_some_iff.mp h
  have f18 := f5.stp S12 rfl rfl
  have f19 := f6.stp S12 rfl rfl
  have f20 := f7.stp S12 rfl rfl
  refine WO.call rfl rfl rfl rfl rfl rfl Try.call30 (l_toCircuit_ok (κ := fun b => mp [] 0 (K11 b)) (p0 := p0) (Sl.map f18 (mp [] 0) rfl rfl) (Sl.map f19 (mp [] 0) rfl rfl) (Sl.map f20 (mp [] 0) rfl rfl) hx27) ?_
  rintro _ w21 ⟨k22, a27_0, u27_0, a27_1, u27_1, a27_2, u27_2, rfl, e23, f24, f25, f26⟩
  obtain ⟨K27, S28, m29⟩ := Ent.mixed (l := []) (κ := K11) e23 5 rfl
  refine ⟨trivial, ?_⟩
  have f31 := f24.mx (no_int _) m29 rfl (rfl : 5 + 2 = 7)
  have f32 := f25.mx Gate.no155 m29 rfl (rfl : 5 + 3 = 8)
  have f33 := f26.mx (no_int _) m29 rfl (rfl : 5 + 4 = 9)
  refine WO.pn 3 rfl ?_
  obtain ⟨K34, S35, z36⟩ := fz_ex K27 w21 7
  have f37 := Sl.st z36 f31.rdc
  have f38 := f32.stp S35 rfl rfl
  obtain ⟨K39, S40, z41⟩ := fz_ex K34 w21 8
  have f42 := Sl.st z41 f38.rdc
  have f43 := f33.stp (S35.tr S40) rfl rfl
  obtain ⟨K44, S45, z46⟩ := fz_ex K39 w21 9
  have f47 := Sl.st z46 f43.rdc
  obtain ⟨x31, hx31, h⟩ := Option.bind_eq_some_iff.mp h
  have f48 := f37.stp (S40.tr S45) rfl rfl
  have f49 := f42.stp S45 rfl rfl
  refine WO.call rfl rfl rfl rfl rfl rfl Try.call66 (s_ChosenBy_ok (κ := fun b => mp [] 1 (K44 b)) (p0 := x27) (Sl.map f48 (mp [] 1) rfl rfl) (Sl.map f49 (mp [] 1) rfl rfl) (Sl.map f47 (mp [] 1) rfl rfl) hx31) ?_
  rintro _ w50 ⟨k51, a31_0, u31_0, a31_1, u31_1, a31_2, u31_2, rfl, e52, f53, f54, f55⟩
  obtain ⟨K56, S57, m58, z59⟩ := Ent.mixed0 (l := []) (κ := K44) e52 10 rfl
  refine ⟨trivial, ?_⟩
  have f60 := f53.mx z59
  have f61 := f54.mx Gate.no155 m58 rfl (rfl : 10 + 3 = 13)
  have f62 := f55.mx z59
  refine WO.pn 3 rfl ?_
  refine WO.alloc (κ := K56) 15 rfl rfl rfl rfl rfl Try.zeroValue50 rfl fun b10 w63 K64 S65 f66 => ⟨trivial, ?_⟩
  refine WO.stB0 (κ := K64) 15 (vc := [.int .i64 x31.1.Inputs, .int .i64 x31.1.Latches, .slice a31_0 x31.1.Next.length u31_0, .slice a31_1 x31.1.Gates.length u31_1, .slice a31_2 x31.1.Outs.length u31_2]) rfl rfl rfl rfl rfl rfl rfl Try.sizeOf50 rfl rfl f66 rfl fun w67 S68 f69 => ⟨trivial, ?_⟩
  refine WO.pn 1 rfl ?_
  refine WO.fin ?_
  refine DN.seq ?_
  refine WC.seq ?_
  refine WC.rs [(0, 1), (1, 1), (2, 1), (3, 1)] rfl ?_
  have f70 := f17.stp (S28.tr (S35.tr (S40.tr (S45.tr (S57.tr (S65.tr S68)))))) rfl rfl
  refine WO.k1 trivial rfl rfl rfl rfl (rn_la (cs := [.int .i64 p0.Inputs, .int .i64 p0.Latches, .slice a0_2 p0.Next.length u0_2, .slice a0_3 p0.Gates.length u0_3, .slice a0_4 p0.Outs.length u0_4]) Try.isAgg44 Try.sizeOf44 rfl rfl rfl (haE f70.cells)) ?_
  obtain ⟨x35, hx35, h⟩ := Option.bind_eq_some_iff.mp h
  have f71 := f18.stp (S28.tr (S35.tr (S40.tr (S45.tr (S57.tr (S65.tr S68)))))) rfl rfl
  have f72 := f19.stp (S28.tr (S35.tr (S40.tr (S45.tr (S57.tr (S65.tr S68)))))) rfl rfl
  have f73 := f20.stp (S28.tr (S35.tr (S40.tr (S45.tr (S57.tr (S65.tr S68)))))) rfl rfl
  refine WO.call rfl rfl rfl rfl rfl rfl Try.call30 (l_toCircuit_ok (κ := fun b => mp [] 0 (K64 b)) (p0 := p0) (Sl.map f71 (mp [] 0) rfl rfl) (Sl.map f72 (mp [] 0) rfl rfl) (Sl.map f73 (mp [] 0) rfl rfl) hx35) ?_
  rintro _ w74 ⟨k75, a35_0, u35_0, a35_1, u35_1, a35_2, u35_2, rfl, e76, f77, f78, f79⟩
  obtain ⟨K80, S81, m82⟩ := Ent.mixed (l := []) (κ := K64) e76 16 rfl
  refine ⟨trivial, ?_⟩
  have f84 := f77.mx (no_int _) m82 rfl (rfl : 16 + 2 = 18)
  have f85 := f78.mx Gate.no155 m82 rfl (rfl : 16 + 3 = 19)
  have f86 := f79.mx (no_int _) m82 rfl (rfl : 16 + 4 = 20)
  refine WO.alloc (κ := K80) 21 rfl rfl rfl rfl rfl Try.zeroValue50 rfl fun b12 w87 K88 S89 f90 => ⟨trivial, ?_⟩
  refine WO.stB0 (κ := K88) 21 (vc := [.int .i64 x35.Inputs, .int .i64 x35.Latches, .slice a35_0 x35.Next.length u35_0, .slice a35_1 x35.Gates.length u35_1, .slice a35_2 x35.Outs.length u35_2]) rfl rfl rfl rfl rfl rfl rfl Try.sizeOf50 rfl rfl f90 rfl fun w91 S92 f93 => ⟨trivial, ?_⟩
  refine WO.fin ?_
  refine DN.seq ?_
  refine WC.seq ?_
  refine WC.rs [(0, 1), (1, 2), (2, 2), (3, 2), (4, 1), (5, 2), (6, 2), (7, 2), (8, 1), (9, 1), (10, 2)] rfl ?_
  refine WO.k1 trivial rfl rfl rfl rfl (rn_la (cs := [.int .i64 x35.Inputs, .int .i64 x35.Latches, .slice a35_0 x35.Next.length u35_0, .slice a35_1 x35.Gates.length u35_1, .slice a35_2 x35.Outs.length u35_2]) Try.isAgg50 Try.sizeOf50 rfl rfl rfl (haE f93.cells)) ?_
  refine WO.pn 3 rfl ?_
  obtain ⟨x41, hx41, h⟩ := Option.bind_eq_some_iff.mp h
  have f94 := f84.stp (S89.tr S92) rfl rfl
  have f95 := f85.stp (S89.tr S92) rfl rfl
  have f96 := f86.stp (S89.tr S92) rfl rfl
  refine WO.call rfl rfl rfl rfl rfl rfl Try.call67 (i_ChosenBy_ok (κ := fun b => mp [] 0 (K88 b)) (p0 := x35) (Sl.map f94.rdc (mp [] 0) rfl rfl) (Sl.map f95.rdc (mp [] 0) rfl rfl) (Sl.map f96.rdc (mp [] 0) rfl rfl) hx41) ?_
  rintro _ w97 ⟨k98, a41_0, u41_0, a41_1, u41_1, a41_2, u41_2, rfl, e99, f100, f101, f102⟩
  obtain ⟨K103, S104, m105⟩ := Ent.mixed (l := []) (κ := K88) e99 22 rfl
  refine ⟨trivial, ?_⟩
  have f107 := f100.mx (no_int _) m105 rfl (rfl : 22 + 2 = 24)
  have f108 := f101.mx Gate.no155 m105 rfl (rfl : 22 + 3 = 25)
  have f109 := f102.mx (no_int _) m105 rfl (rfl : 22 + 4 = 26)
  refine WO.pn 3 rfl ?_
  refine WO.alloc (κ := K103) 27 rfl rfl rfl rfl rfl Try.zeroValue50 rfl fun b13 w110 K111 S112 f113 => ⟨trivial, ?_⟩
  refine WO.stB0 (κ := K111) 27 (vc := [.int .i64 x41.1.Inputs, .int .i64 x41.1.Latches, .slice a41_0 x41.1.Next.length u41_0, .slice a41_1 x41.1.Gates.length u41_1, .slice a41_2 x41.1.Outs.length u41_2]) rfl rfl rfl rfl rfl rfl rfl Try.sizeOf50 rfl rfl f113 rfl fun w114 S115 f116 => ⟨trivial, ?_⟩
  refine WO.pn 1 rfl ?_
  refine WO.fin ?_
  refine DN.seq ?_
  refine WC.seq ?_
  refine WC.seq ?_
  refine WC.rs [(0, 1), (1, 1), (2, 1), (3, 2), (4, 2), (5, 2), (6, 2), (7, 2), (8, 2)] rfl ?_
  refine WO.k1 trivial rfl rfl rfl rfl (rn_la (cs := [.int .i64 x41.1.Inputs, .int .i64 x41.1.Latches, .slice a41_0 x41.1.Next.length u41_0, .slice a41_1 x41.1.Gates.length u41_1, .slice a41_2 x41.1.Outs.length u41_2]) Try.isAgg50 Try.sizeOf50 rfl rfl rfl (haE f116.cells)) ?_
  have f117 := f69.stp (S81.tr (S89.tr (S92.tr (S104.tr (S112.tr S115))))) rfl rfl
  refine WO.k1 trivial rfl rfl rfl rfl (rn_la (cs := [.int .i64 x31.1.Inputs, .int .i64 x31.1.Latches, .slice a31_0 x31.1.Next.length u31_0, .slice a31_1 x31.1.Gates.length u31_1, .slice a31_2 x31.1.Outs.length u31_2]) Try.isAgg50 Try.sizeOf50 rfl rfl rfl (haE f117.cells)) ?_
  obtain ⟨x46, hx46, h⟩ := Option.bind_eq_some_iff.mp h
  have f118 := f107.stp (S112.tr S115) rfl rfl
  have f119 := f108.stp (S112.tr S115) rfl rfl
  have f120 := f109.stp (S112.tr S115) rfl rfl
  have f121 := f60.stp (S65.tr (S68.tr (S81.tr (S89.tr (S92.tr (S104.tr (S112.tr S115))))))) rfl rfl
  have f122 := f61.stp (S65.tr (S68.tr (S81.tr (S89.tr (S92.tr (S104.tr (S112.tr S115))))))) rfl rfl
  have f123 := f62.stp (S65.tr (S68.tr (S81.tr (S89.tr (S92.tr (S104.tr (S112.tr S115))))))) rfl rfl
  refine WO.call rfl rfl rfl rfl rfl rfl Try.call32 (l_eqCircuit_ok (κ := fun b => mp [] 0 (K111 b)) (p0 := x41.1) (p1 := x31.1) (Sl.map f118.rdc (mp [] 0) rfl rfl) (Sl.map f119.rdc (mp [] 0) rfl rfl) (Sl.map f120.rdc (mp [] 0) rfl rfl) (Sl.map f121 (mp [] 0) rfl rfl) (Sl.map f122.rdc (mp [] 0) rfl rfl) (Sl.map f123 (mp [] 0) rfl rfl) hx46) ?_
  rintro _ w124 ⟨k125, rfl, e126⟩
  obtain ⟨K127, S128, m129⟩ := Ent.mixed (l := []) (κ := K111) e126 28 rfl
  refine ⟨trivial, ?_⟩
  refine WO.pn 2 rfl ?_
  obtain ⟨p52, h, hK131⟩ := Option.bind_eq_some_iff.mp h
  refine WO.meet [(5, 2), (6, 2), (7, 2), (8, 2)] [] (fun L w' => L = [(1, .int .i64 p1), (2, .int .i64 p2), (3, .int .i64 p3), (4, .pointer (some ⟨b4, 0, none⟩)), (10, .pointer (some ⟨b10, 0, none⟩)), (11, .int .i64 x31.2), (12, .pointer (some ⟨b12, 0, none⟩)), (13, .pointer (some ⟨b13, 0, none⟩)), (14, .int .i64 x41.2), (52, .bool p52)] ∧ ∃ κ', Stp [] K127 w124 κ' w') trivial ?_ ?_
  ·
   revert h
   cases ht132 : (!x46) with
   | true =>
    intro h; replace h := cT h
    refine WO.pn 4 rfl ?_
    obtain rfl := Option.some.inj h
    exact WO.met _ trivial ⟨rfl, _, (Stp.refl _ _).wk rfl⟩ fun a ha => (ha.more (ha.more (ha.more (ha.more (ha.more (ha.more (ha.more (ha.more (ha.more (ha.more ha.nil rfl) rfl) rfl) rfl) rfl) rfl) rfl) rfl) rfl) rfl)
   | false =>
    intro h; replace h := cF h
    refine WO.pn 4 rfl ?_
    obtain rfl := Option.some.inj h
    exact WO.met _ trivial ⟨rfl, _, (Stp.refl _ _).wk rfl⟩ fun a ha => (ha.more (ha.more (ha.more (ha.more (ha.more (ha.more (ha.more (ha.more (ha.more (ha.more ha.nil rfl) rfl) rfl) rfl) rfl) rfl) rfl) rfl) rfl) rfl)
  rintro _ w133 _ ⟨rfl, K134, S135⟩
  have h := hK131
  refine WO.fin ?_
  refine DN.seq ?_
  revert h
  cases ht136 : p52 with
  | true =>
   intro h; replace h := cT h
   refine WC.ct rfl ?_
   refine WC.seq ?_
   refine WC.rs [(0, 2)] rfl ?_
   refine WO.pn 1 rfl ?_
   refine WO.fin ?_
   refine DN.seq ?_
   refine WC.ret ?_
   refine DN.retThen ?_
   have f137 := hE.stp (S3.tr (S12.tr (S28.tr (S35.tr (S40.tr (S45.tr (S57.tr (S65.tr (S68.tr (S81.tr (S89.tr (S92.tr (S104.tr (S112.tr (S115.tr (S128.tr S135)))))))))))))))) rfl rfl
   refine DN.res (l := [.tmp 8]) Try.results14 (res_tmp rfl rfl) rfl ?_
   obtain rfl := Option.some.inj h
   exact ⟨K134, rfl, f137⟩
  | false =>
   intro h; replace h := cF h
   refine WC.cf rfl ?_
   refine WC.skip ?_
   refine DN.seq ?_
   refine WC.seq ?_
   refine WC.seq ?_
   refine WC.rx (κ := K134) 29 none [(0, 0), (1, 0), (2, 1), (3, 1), (4, 2)] [] (by kernel_rfl) (by kernel_rfl) fun w139 S138 => ?_
   have f140 := f93.stp (S104.tr (S112.tr (S115.tr (S128.tr (S135.tr S138))))) rfl rfl
   refine WO.k0 rfl rfl rfl rfl (rn_la (cs := [.int .i64 x35.Inputs, .int .i64 x35.Latches, .slice a35_0 x35.Next.length u35_0, .slice a35_1 x35.Gates.length u35_1, .slice a35_2 x35.Outs.length u35_2]) Try.isAgg50 Try.sizeOf50 rfl rfl rfl (haC f140.cells rfl)) ?_
   have f141 := f70.stp (S81.tr (S89.tr (S92.tr (S104.tr (S112.tr (S115.tr (S128.tr (S135.tr S138)))))))) rfl rfl
   refine WO.k0 rfl rfl rfl rfl (rn_la (cs := [.int .i64 p0.Inputs, .int .i64 p0.Latches, .slice a0_2 p0.Next.length u0_2, .slice a0_3 p0.Gates.length u0_3, .slice a0_4 p0.Outs.length u0_4]) Try.isAgg44 Try.sizeOf44 rfl rfl rfl (haC f141.cells rfl)) ?_
   obtain ⟨x55, hx55, h⟩ := Option.bind_eq_some_iff.mp h
   have f142 := f71.stp (S81.tr (S89.tr (S92.tr (S104.tr (S112.tr (S115.tr (S128.tr (S135.tr S138)))))))) rfl rfl
   have f143 := f72.stp (S81.tr (S89.tr (S92.tr (S104.tr (S112.tr (S115.tr (S128.tr (S135.tr S138)))))))) rfl rfl
   have f144 := f73.stp (S81.tr (S89.tr (S92.tr (S104.tr (S112.tr (S115.tr (S128.tr (S135.tr S138)))))))) rfl rfl
   refine WO.call rfl rfl rfl rfl rfl rfl Try.call30 (l_toCircuit_ok (κ := fun b => mp [] 0 (K134 b)) (p0 := p0) (Sl.map f142 (mp [] 0) rfl rfl) (Sl.map f143 (mp [] 0) rfl rfl) (Sl.map f144 (mp [] 0) rfl rfl) hx55) ?_
   rintro _ w145 ⟨k146, a55_0, u55_0, a55_1, u55_1, a55_2, u55_2, rfl, e147, f148, f149, f150⟩
   obtain ⟨K151, S152, m153⟩ := Ent.mixed (l := []) (κ := K134) e147 30 rfl
   refine ⟨(S152.cl rfl), ?_⟩
   have f155 := f148.mx (no_int _) m153 rfl (rfl : 30 + 2 = 32)
   have f156 := f149.mx Gate.no155 m153 rfl (rfl : 30 + 3 = 33)
   have f157 := f150.mx (no_int _) m153 rfl (rfl : 30 + 4 = 34)
   obtain ⟨x56, hx56, h⟩ := Option.bind_eq_some_iff.mp h
   have f158 := f94.stp (S104.tr (S112.tr (S115.tr (S128.tr (S135.tr (S138.tr S152)))))) rfl rfl
   have f159 := f95.stp (S104.tr (S112.tr (S115.tr (S128.tr (S135.tr (S138.tr S152)))))) rfl rfl
   have f160 := f96.stp (S104.tr (S112.tr (S115.tr (S128.tr (S135.tr (S138.tr S152)))))) rfl rfl
   refine WO.call rfl rfl rfl rfl rfl rfl Try.call32 (l_eqCircuit_ok (κ := fun b => mp [] 0 (K151 b)) (p0 := x35) (p1 := x55) (Sl.map f158.rdc (mp [] 0) rfl rfl) (Sl.map f159.rdc (mp [] 0) rfl rfl) (Sl.map f160.rdc (mp [] 0) rfl rfl) (Sl.map f155.rdc (mp [] 0) rfl rfl) (Sl.map f156.rdc (mp [] 0) rfl rfl) (Sl.map f157.rdc (mp [] 0) rfl rfl) hx56) ?_
   rintro _ w161 ⟨k162, rfl, e163⟩
   obtain ⟨K164, S165, m166⟩ := Ent.mixed (l := []) (κ := K151) e163 35 rfl
   refine ⟨((S152.tr S165).cl rfl), ?_⟩
   refine WO.pn 1 rfl ?_
   refine WO.nx ?_
   refine WO.fin ?_
   refine DN.seq ?_
   revert h
   cases ht168 : (!x56) with
   | true =>
    intro h; replace h := cT h
    refine WC.ct rfl ?_
    refine WC.seq ?_
    refine WC.rs [(0, 2)] rfl ?_
    refine WO.pn 1 rfl ?_
    refine WO.fin ?_
    refine DN.seq ?_
    refine WC.ret ?_
    refine DN.retThen ?_
    have f169 := hE.stp (S3.tr (S12.tr (S28.tr (S35.tr (S40.tr (S45.tr (S57.tr (S65.tr (S68.tr (S81.tr (S89.tr (S92.tr (S104.tr (S112.tr (S115.tr (S128.tr (S135.tr (S138.tr (S152.tr S165))))))))))))))))))) rfl rfl
    refine DN.res (l := [.tmp 8]) Try.results14 (res_tmp rfl rfl) rfl ?_
    obtain rfl := Option.some.inj h
    exact ⟨K164, rfl, f169⟩
   | false =>
    intro h; replace h := cF h
    refine WC.cf rfl ?_
    refine WC.skip ?_
    refine DN.seq ?_
    refine WC.seq ?_
    refine WC.rs [(0, 2)] rfl ?_
    refine WO.pn 1 rfl ?_
    refine WO.fin ?_
    refine DN.seq ?_
    refine WC.seq ?_
    refine WC.rs [(0, 1), (1, 2), (2, 1), (3, 2)] rfl ?_
    have f170 := f140.stp (S152.tr S165) rfl rfl
    refine WO.k1 trivial rfl rfl rfl rfl (rn_la (cs := [.int .i64 x35.Inputs, .int .i64 x35.Latches, .slice a35_0 x35.Next.length u35_0, .slice a35_1 x35.Gates.length u35_1, .slice a35_2 x35.Outs.length u35_2]) Try.isAgg50 Try.sizeOf50 rfl rfl rfl (haE f170.cells)) ?_
    refine WO.pn 1 rfl ?_
    obtain ⟨x60, hx60, h⟩ := Option.bind_eq_some_iff.mp h
    have f171 := f158.stp S165 rfl rfl
    have f172 := f159.stp S165 rfl rfl
    have f173 := f160.stp S165 rfl rfl
    refine WO.call rfl rfl rfl rfl rfl rfl Try.call41 (l_markCircuit_ok (κ := fun b => mp [(18, 2), (19, 3), (20, 4)] 0 (K164 b)) (p0 := x35) (f171.map (mp [(18, 2), (19, 3), (20, 4)] 0) rfl rfl) (f172.map (mp [(18, 2), (19, 3), (20, 4)] 0) rfl rfl) (f173.map (mp [(18, 2), (19, 3), (20, 4)] 0) rfl rfl) hx60) ?_
    rintro _ w174 ⟨k175, rfl, e176, f177, hn178, f179, hn180, f181, hn182⟩
    obtain ⟨K183, S184, m185⟩ := Ent.mixed (l := [(18, 2), (19, 3), (20, 4)]) (κ := K164) e176 37 rfl
    refine ⟨trivial, ?_⟩
    have f187 := f177.mx (no_int _) m185 rfl (rfl : 37 + 2 = 39)
    have f188 := f179.mx Gate.no155 m185 rfl (rfl : 37 + 3 = 40)
    have f189 := f181.mx (no_int _) m185 rfl (rfl : 37 + 4 = 41)
    refine WO.pn 1 rfl ?_
    refine WO.fin ?_
    refine DN.seq ?_
    refine WC.seq ?_
    refine WC.seq ?_
    refine WC.rs [(0, 2), (1, 2), (2, 2), (3, 1), (4, 1), (5, 1), (6, 2), (7, 2), (8, 2), (9, 2), (10, 2), (11, 2), (12, 2)] rfl ?_
    refine WO.pn 3 rfl ?_
    obtain ⟨p68, h, hK190⟩ := Option.bind_eq_some_iff.mp h
    refine WO.meet [(3, 1), (4, 1), (5, 1), (6, 2), (7, 2)] [(8, 2), (9, 2), (10, 2), (11, 2), (12, 2)] (fun L w' => L = [(1, .int .i64 p1), (2, .int .i64 p2), (3, .int .i64 p3), (4, .pointer (some ⟨b4, 0, none⟩)), (10, .pointer (some ⟨b10, 0, none⟩)), (11, .int .i64 x31.2), (13, .pointer (some ⟨b13, 0, none⟩)), (14, .int .i64 x41.2), (68, .bool p68)] ∧ ∃ κ', Stp [] K183 w174 κ' w') trivial ?_ ?_
    ·
     revert h
     cases ht191 : decide (x60.1 < 0) with
     | true =>
      intro h; replace h := cT h
      refine WO.ls rfl rfl rfl rfl ?_
      refine WO.ls rfl rfl rfl rfl ?_
      refine WO.ls rfl rfl rfl rfl ?_
      refine WO.pn 2 rfl ?_
      obtain rfl := Option.some.inj h
      exact WO.met _ trivial ⟨rfl, _, (Stp.refl _ _).wk rfl⟩ fun a ha => (ha.more (ha.more (ha.more (ha.more (ha.more (ha.more (ha.more (ha.more (ha.more ha.nil rfl) rfl) rfl) rfl) rfl) rfl) rfl) rfl) rfl)
     | false =>
      intro h; replace h := cF h
      have f192 := f116.stp (S128.tr (S135.tr (S138.tr (S152.tr (S165.tr S184))))) rfl rfl
      refine WO.k1 trivial rfl rfl rfl rfl (rn_la (cs := [.int .i64 x41.1.Inputs, .int .i64 x41.1.Latches, .slice a41_0 x41.1.Next.length u41_0, .slice a41_1 x41.1.Gates.length u41_1, .slice a41_2 x41.1.Outs.length u41_2]) Try.isAgg50 Try.sizeOf50 rfl rfl rfl (haE f192.cells)) ?_
      have f193 := f117.stp (S128.tr (S135.tr (S138.tr (S152.tr (S165.tr S184))))) rfl rfl
      refine WO.k1 trivial rfl rfl rfl rfl (rn_la (cs := [.int .i64 x31.1.Inputs, .int .i64 x31.1.Latches, .slice a31_0 x31.1.Next.length u31_0, .slice a31_1 x31.1.Gates.length u31_1, .slice a31_2 x31.1.Outs.length u31_2]) Try.isAgg50 Try.sizeOf50 rfl rfl rfl (haE f193.cells)) ?_
      obtain ⟨x66, hx66, h⟩ := Option.bind_eq_some_iff.mp h
      have f194 := f118.stp (S128.tr (S135.tr (S138.tr (S152.tr (S165.tr S184))))) rfl rfl
      have f195 := f119.stp (S128.tr (S135.tr (S138.tr (S152.tr (S165.tr S184))))) rfl rfl
      have f196 := f120.stp (S128.tr (S135.tr (S138.tr (S152.tr (S165.tr S184))))) rfl rfl
      have f197 := f121.stp (S128.tr (S135.tr (S138.tr (S152.tr (S165.tr S184))))) rfl rfl
      have f198 := f122.stp (S128.tr (S135.tr (S138.tr (S152.tr (S165.tr S184))))) rfl rfl
      have f199 := f123.stp (S128.tr (S135.tr (S138.tr (S152.tr (S165.tr S184))))) rfl rfl
      refine WO.call rfl rfl rfl rfl rfl rfl Try.call32 (l_eqCircuit_ok (κ := fun b => mp [] 0 (K183 b)) (p0 := x41.1) (p1 := x31.1) (Sl.map f194.rdc (mp [] 0) rfl rfl) (Sl.map f195.rdc (mp [] 0) rfl rfl) (Sl.map f196.rdc (mp [] 0) rfl rfl) (Sl.map f197 (mp [] 0) rfl rfl) (Sl.map f198.rdc (mp [] 0) rfl rfl) (Sl.map f199 (mp [] 0) rfl rfl) hx66) ?_
      rintro _ w200 ⟨k201, rfl, e202⟩
      obtain ⟨K203, S204, m205⟩ := Ent.mixed (l := []) (κ := K183) e202 42 rfl
      refine ⟨trivial, ?_⟩
      refine WO.pn 2 rfl ?_
      obtain rfl := Option.some.inj h
      exact WO.met _ trivial ⟨rfl, _, S204.wk rfl⟩ fun a ha => (ha.more (ha.more (ha.more (ha.more (ha.more (ha.more (ha.more (ha.more (ha.more ha.nil rfl) rfl) rfl) rfl) rfl) rfl) rfl) rfl) rfl)
    rintro _ w207 _ ⟨rfl, K208, S209⟩
    have h := hK190
    refine WO.pn 1 rfl ?_
    obtain ⟨p73, h, hK210⟩ := Option.bind_eq_some_iff.mp h
    refine WO.meet [(9, 2), (10, 2), (11, 2), (12, 2)] [] (fun L w' => L = [(1, .int .i64 p1), (2, .int .i64 p2), (3, .int .i64 p3), (4, .pointer (some ⟨b4, 0, none⟩)), (10, .pointer (some ⟨b10, 0, none⟩)), (11, .int .i64 x31.2), (13, .pointer (some ⟨b13, 0, none⟩)), (73, .bool p73)] ∧ ∃ κ', Stp [] K208 w207 κ' w') trivial ?_ ?_
    ·
     revert h
     cases ht211 : p68 with
     | true =>
      intro h; replace h := cT h
      refine WO.pn 4 rfl ?_
      obtain rfl := Option.some.inj h
      exact WO.met _ trivial ⟨rfl, _, (Stp.refl _ _).wk rfl⟩ fun a ha => (ha.more (ha.more (ha.more (ha.more (ha.more (ha.more (ha.more (ha.more ha.nil rfl) rfl) rfl) rfl) rfl) rfl) rfl) rfl)
     | false =>
      intro h; replace h := cF h
      refine WO.pn 4 rfl ?_
      obtain rfl := Option.some.inj h
      exact WO.met _ trivial ⟨rfl, _, (Stp.refl _ _).wk rfl⟩ fun a ha => (ha.more (ha.more (ha.more (ha.more (ha.more (ha.more (ha.more (ha.more ha.nil rfl) rfl) rfl) rfl) rfl) rfl) rfl) rfl)
    rintro _ w212 _ ⟨rfl, K213, S214⟩
    have h := hK210
    refine WO.fin ?_
    refine DN.seq ?_
    revert h
    cases ht215 : p73 with
    | true =>
     intro h; replace h := cT h
     refine WC.ct rfl ?_
     refine WC.seq ?_
     refine WC.rs [(0, 2)] rfl ?_
     refine WO.pn 1 rfl ?_
     refine WO.fin ?_
     refine DN.seq ?_
     refine WC.ret ?_
     refine DN.retThen ?_
     have f216 := hE.stp (S3.tr (S12.tr (S28.tr (S35.tr (S40.tr (S45.tr (S57.tr (S65.tr (S68.tr (S81.tr (S89.tr (S92.tr (S104.tr (S112.tr (S115.tr (S128.tr (S135.tr (S138.tr (S152.tr (S165.tr (S184.tr (S209.tr S214)))))))))))))))))))))) rfl rfl
     refine DN.res (l := [.tmp 8]) Try.results14 (res_tmp rfl rfl) rfl ?_
     obtain rfl := Option.some.inj h
     exact ⟨K213, rfl, f216⟩
    | false =>
     intro h; replace h := cF h
     refine WC.cf rfl ?_
     refine WC.skip ?_
     refine DN.seq ?_
     refine WC.seq ?_
     refine WC.rs [(0, 2)] rfl ?_
     refine WO.pn 1 rfl ?_
     refine WO.fin ?_
     refine DN.seq ?_
     refine WC.seq ?_
     refine WC.rs [(0, 1), (1, 2), (2, 1), (3, 2)] rfl ?_
     have f217 := f116.stp (S128.tr (S135.tr (S138.tr (S152.tr (S165.tr (S184.tr (S209.tr S214))))))) rfl rfl
     refine WO.k1 trivial rfl rfl rfl rfl (rn_la (cs := [.int .i64 x41.1.Inputs, .int .i64 x41.1.Latches, .slice a41_0 x41.1.Next.length u41_0, .slice a41_1 x41.1.Gates.length u41_1, .slice a41_2 x41.1.Outs.length u41_2]) Try.isAgg50 Try.sizeOf50 rfl rfl rfl (haE f217.cells)) ?_
     refine WO.pn 1 rfl ?_
     obtain ⟨x76, hx76, h⟩ := Option.bind_eq_some_iff.mp h
     have f218 := f118.stp (S128.tr (S135.tr (S138.tr (S152.tr (S165.tr (S184.tr (S209.tr S214))))))) rfl rfl
     have f219 := f119.stp (S128.tr (S135.tr (S138.tr (S152.tr (S165.tr (S184.tr (S209.tr S214))))))) rfl rfl
     have f220 := f120.stp (S128.tr (S135.tr (S138.tr (S152.tr (S165.tr (S184.tr (S209.tr S214))))))) rfl rfl
     refine WO.call rfl rfl rfl rfl rfl rfl Try.call41 (l_markCircuit_ok (κ := fun b => mp [(24, 2), (25, 3), (26, 4)] 0 (K213 b)) (p0 := x41.1) (f218.map (mp [(24, 2), (25, 3), (26, 4)] 0) rfl rfl) (f219.map (mp [(24, 2), (25, 3), (26, 4)] 0) rfl rfl) (f220.map (mp [(24, 2), (25, 3), (26, 4)] 0) rfl rfl) hx76) ?_
     rintro _ w221 ⟨k222, rfl, e223, f224, hn225, f226, hn227, f228, hn229⟩
     obtain ⟨K230, S231, m232⟩ := Ent.mixed (l := [(24, 2), (25, 3), (26, 4)]) (κ := K213) e223 42 rfl
     refine ⟨trivial, ?_⟩
     have f234 := f224.mx (no_int _) m232 rfl (rfl : 42 + 2 = 44)
     have f235 := f226.mx Gate.no155 m232 rfl (rfl : 42 + 3 = 45)
     have f236 := f228.mx (no_int _) m232 rfl (rfl : 42 + 4 = 46)
     refine WO.pn 1 rfl ?_
     refine WO.fin ?_
     refine DN.seq ?_
     refine WC.seq ?_
     refine WC.rs [(0, 2)] rfl ?_
     refine WO.pn 1 rfl ?_
     refine WO.fin ?_
     refine DN.seq ?_
     refine WC.seq ?_
     refine WC.rs [(0, 1), (1, 2), (2, 1), (3, 2)] rfl ?_
     have f237 := f217.stp S231 rfl rfl
     refine WO.k1 trivial rfl rfl rfl rfl (rn_la (cs := [.int .i64 x41.1.Inputs, .int .i64 x41.1.Latches, .slice a41_0 x41.1.Next.length u41_0, .slice a41_1 x41.1.Gates.length u41_1, .slice a41_2 x41.1.Outs.length u41_2]) Try.isAgg50 Try.sizeOf50 rfl rfl rfl (haE f237.cells)) ?_
     refine WO.pn 1 rfl ?_
     obtain ⟨x79, hx79, h⟩ := Option.bind_eq_some_iff.mp h
     refine WO.call rfl rfl rfl rfl rfl rfl Try.call60 (Ret.cast (by simp only [(hn225), (hn227), (hn229)]) (l_heldCircuit_ok (κ := fun b => mp [] 0 (K230 b)) (p0 := (⟨x41.1.Inputs, x41.1.Latches, x76.2.1, x76.2.2.1, x76.2.2.2⟩ : Circuit)) (Sl.map f234.rdc (mp [] 0) rfl rfl) (Sl.map f235.rdc (mp [] 0) rfl rfl) (Sl.map f236.rdc (mp [] 0) rfl rfl) hx79)) ?_
     rintro _ w238 ⟨k239, rfl, e240⟩
     obtain ⟨K241, S242, m243⟩ := Ent.mixed (l := []) (κ := K230) e240 47 rfl
     refine ⟨trivial, ?_⟩
     refine WO.pn 1 rfl ?_
     refine WO.fin ?_
     refine DN.seq ?_
     refine WC.seq ?_
     refine WC.seq ?_
     refine WC.rs [(0, 2), (1, 2)] rfl ?_
     refine WO.pn 2 rfl ?_
     refine WO.fin ?_
     refine DN.seq ?_
     revert h
     cases ht245 : decide (x79 < 0) with
     | true =>
      intro h; replace h := cT h
      refine WC.ct rfl ?_
      refine WC.seq ?_
      refine WC.rs [(0, 2)] rfl ?_
      refine WO.pn 1 rfl ?_
      refine WO.fin ?_
      refine DN.seq ?_
      refine WC.ret ?_
      refine DN.retThen ?_
      have f246 := hE.stp (S3.tr (S12.tr (S28.tr (S35.tr (S40.tr (S45.tr (S57.tr (S65.tr (S68.tr (S81.tr (S89.tr (S92.tr (S104.tr (S112.tr (S115.tr (S128.tr (S135.tr (S138.tr (S152.tr (S165.tr (S184.tr (S209.tr (S214.tr (S231.tr S242)))))))))))))))))))))))) rfl rfl
      refine DN.res (l := [.tmp 8]) Try.results14 (res_tmp rfl rfl) rfl ?_
      obtain rfl := Option.some.inj h
      exact ⟨K241, rfl, f246⟩
     | false =>
      intro h; replace h := cF h
      refine WC.cf rfl ?_
      refine WC.skip ?_
      refine DN.seq ?_
      refine WC.seq ?_
      refine WC.seq ?_
      refine WC.rs [(0, 2), (1, 2), (2, 2)] rfl ?_
      refine WO.pn 3 rfl ?_
      refine WO.fin ?_
      refine DN.seq ?_
      revert h
      cases ht247 : (x79 != x76.1) with
      | true =>
       intro h; replace h := cT h
       refine WC.ct rfl ?_
       refine WC.seq ?_
       refine WC.rs [(0, 2)] rfl ?_
       refine WO.pn 1 rfl ?_
       refine WO.fin ?_
       refine DN.seq ?_
       refine WC.ret ?_
       refine DN.retThen ?_
       have f248 := hE.stp (S3.tr (S12.tr (S28.tr (S35.tr (S40.tr (S45.tr (S57.tr (S65.tr (S68.tr (S81.tr (S89.tr (S92.tr (S104.tr (S112.tr (S115.tr (S128.tr (S135.tr (S138.tr (S152.tr (S165.tr (S184.tr (S209.tr (S214.tr (S231.tr S242)))))))))))))))))))))))) rfl rfl
       refine DN.res (l := [.tmp 8]) Try.results14 (res_tmp rfl rfl) rfl ?_
       obtain rfl := Option.some.inj h
       exact ⟨K241, rfl, f248⟩
      | false =>
       intro h; replace h := cF h
       refine WC.cf rfl ?_
       refine WC.skip ?_
       refine DN.seq ?_
       refine WC.seq ?_
       refine WC.rs [(0, 1), (1, 1), (2, 2), (3, 2), (4, 2), (5, 1), (6, 2), (7, 2), (8, 2), (9, 1), (10, 1), (11, 2)] rfl ?_
       have f249 := f141.stp (S152.tr (S165.tr (S184.tr (S209.tr (S214.tr (S231.tr S242)))))) rfl rfl
       refine WO.k1 trivial rfl rfl rfl rfl (rn_la (cs := [.int .i64 p0.Inputs, .int .i64 p0.Latches, .slice a0_2 p0.Next.length u0_2, .slice a0_3 p0.Gates.length u0_3, .slice a0_4 p0.Outs.length u0_4]) Try.isAgg44 Try.sizeOf44 rfl rfl rfl (haE f249.cells)) ?_
       obtain ⟨x87, hx87, h⟩ := Option.bind_eq_some_iff.mp h
       have f250 := f142.stp (S152.tr (S165.tr (S184.tr (S209.tr (S214.tr (S231.tr S242)))))) rfl rfl
       have f251 := f143.stp (S152.tr (S165.tr (S184.tr (S209.tr (S214.tr (S231.tr S242)))))) rfl rfl
       have f252 := f144.stp (S152.tr (S165.tr (S184.tr (S209.tr (S214.tr (S231.tr S242)))))) rfl rfl
       refine WO.call rfl rfl rfl rfl rfl rfl Try.call30 (l_toCircuit_ok (κ := fun b => mp [] 0 (K241 b)) (p0 := p0) (Sl.map f250 (mp [] 0) rfl rfl) (Sl.map f251 (mp [] 0) rfl rfl) (Sl.map f252 (mp [] 0) rfl rfl) hx87) ?_
       rintro _ w253 ⟨k254, a87_0, u87_0, a87_1, u87_1, a87_2, u87_2, rfl, e255, f256, f257, f258⟩
       obtain ⟨K259, S260, m261⟩ := Ent.mixed (l := []) (κ := K241) e255 49 rfl
       refine ⟨trivial, ?_⟩
       have f263 := f256.mx (no_int _) m261 rfl (rfl : 49 + 2 = 51)
       have f264 := f257.mx Gate.no155 m261 rfl (rfl : 49 + 3 = 52)
       have f265 := f258.mx (no_int _) m261 rfl (rfl : 49 + 4 = 53)
       refine WO.pn 3 rfl ?_
       obtain ⟨x91, hx91, h⟩ := Option.bind_eq_some_iff.mp h
       refine WO.call rfl rfl rfl rfl rfl rfl Try.call67 (i_ChosenBy_ok (κ := fun b => mp [] 0 (K259 b)) (p0 := x87) (Sl.map f263.rdc (mp [] 0) rfl rfl) (Sl.map f264.rdc (mp [] 0) rfl rfl) (Sl.map f265.rdc (mp [] 0) rfl rfl) hx91) ?_
       rintro _ w266 ⟨k267, a91_0, u91_0, a91_1, u91_1, a91_2, u91_2, rfl, e268, f269, f270, f271⟩
       obtain ⟨K272, S273, m274⟩ := Ent.mixed (l := []) (κ := K259) e268 54 rfl
       refine ⟨trivial, ?_⟩
       have f276 := f269.mx (no_int _) m274 rfl (rfl : 54 + 2 = 56)
       have f277 := f270.mx Gate.no155 m274 rfl (rfl : 54 + 3 = 57)
       have f278 := f271.mx (no_int _) m274 rfl (rfl : 54 + 4 = 58)
       refine WO.pn 3 rfl ?_
       refine WO.alloc (κ := K272) 59 rfl rfl rfl rfl rfl Try.zeroValue50 rfl fun b18 w279 K280 S281 f282 => ⟨trivial, ?_⟩
       refine WO.stB0 (κ := K280) 59 (vc := [.int .i64 x91.1.Inputs, .int .i64 x91.1.Latches, .slice a91_0 x91.1.Next.length u91_0, .slice a91_1 x91.1.Gates.length u91_1, .slice a91_2 x91.1.Outs.length u91_2]) rfl rfl rfl rfl rfl rfl rfl Try.sizeOf50 rfl rfl f282 rfl fun w283 S284 f285 => ⟨trivial, ?_⟩
       refine WO.pn 1 rfl ?_
       refine WO.fin ?_
       refine DN.seq ?_
       refine WC.seq ?_
       refine WC.seq ?_
       refine WC.rs [(0, 1), (1, 1), (2, 1), (3, 2), (4, 2), (5, 2), (6, 2), (7, 2), (8, 2)] rfl ?_
       refine WO.k1 trivial rfl rfl rfl rfl (rn_la (cs := [.int .i64 x91.1.Inputs, .int .i64 x91.1.Latches, .slice a91_0 x91.1.Next.length u91_0, .slice a91_1 x91.1.Gates.length u91_1, .slice a91_2 x91.1.Outs.length u91_2]) Try.isAgg50 Try.sizeOf50 rfl rfl rfl (haE f285.cells)) ?_
       have f286 := f117.stp (S128.tr (S135.tr (S138.tr (S152.tr (S165.tr (S184.tr (S209.tr (S214.tr (S231.tr (S242.tr (S260.tr (S273.tr (S281.tr S284))))))))))))) rfl rfl
       refine WO.k1 trivial rfl rfl rfl rfl (rn_la (cs := [.int .i64 x31.1.Inputs, .int .i64 x31.1.Latches, .slice a31_0 x31.1.Next.length u31_0, .slice a31_1 x31.1.Gates.length u31_1, .slice a31_2 x31.1.Outs.length u31_2]) Try.isAgg50 Try.sizeOf50 rfl rfl rfl (haE f286.cells)) ?_
       obtain ⟨x96, hx96, h⟩ := Option.bind_eq_some_iff.mp h
       have f287 := f276.stp (S281.tr S284) rfl rfl
       have f288 := f277.stp (S281.tr S284) rfl rfl
       have f289 := f278.stp (S281.tr S284) rfl rfl
       have f290 := f121.stp (S128.tr (S135.tr (S138.tr (S152.tr (S165.tr (S184.tr (S209.tr (S214.tr (S231.tr (S242.tr (S260.tr (S273.tr (S281.tr S284))))))))))))) rfl rfl
       have f291 := f122.stp (S128.tr (S135.tr (S138.tr (S152.tr (S165.tr (S184.tr (S209.tr (S214.tr (S231.tr (S242.tr (S260.tr (S273.tr (S281.tr S284))))))))))))) rfl rfl
       have f292 := f123.stp (S128.tr (S135.tr (S138.tr (S152.tr (S165.tr (S184.tr (S209.tr (S214.tr (S231.tr (S242.tr (S260.tr (S273.tr (S281.tr S284))))))))))))) rfl rfl
       refine WO.call rfl rfl rfl rfl rfl rfl Try.call32 (l_eqCircuit_ok (κ := fun b => mp [] 0 (K280 b)) (p0 := x91.1) (p1 := x31.1) (Sl.map f287.rdc (mp [] 0) rfl rfl) (Sl.map f288.rdc (mp [] 0) rfl rfl) (Sl.map f289.rdc (mp [] 0) rfl rfl) (Sl.map f290 (mp [] 0) rfl rfl) (Sl.map f291.rdc (mp [] 0) rfl rfl) (Sl.map f292 (mp [] 0) rfl rfl) hx96) ?_
       rintro _ w293 ⟨k294, rfl, e295⟩
       obtain ⟨K296, S297, m298⟩ := Ent.mixed (l := []) (κ := K280) e295 60 rfl
       refine ⟨trivial, ?_⟩
       refine WO.pn 2 rfl ?_
       obtain ⟨p102, h, hK300⟩ := Option.bind_eq_some_iff.mp h
       refine WO.meet [(5, 2), (6, 2), (7, 2), (8, 2)] [] (fun L w' => L = [(13, .pointer (some ⟨b13, 0, none⟩)), (16, .int .i64 x76.1), (102, .bool p102)] ∧ ∃ κ', Stp [] K296 w293 κ' w') trivial ?_ ?_
       ·
        revert h
        cases ht301 : (!x96) with
        | true =>
         intro h; replace h := cT h
         refine WO.pn 4 rfl ?_
         obtain rfl := Option.some.inj h
         exact WO.met _ trivial ⟨rfl, _, (Stp.refl _ _).wk rfl⟩ fun a ha => (ha.more (ha.more (ha.more ha.nil rfl) rfl) rfl)
        | false =>
         intro h; replace h := cF h
         refine WO.pn 4 rfl ?_
         obtain rfl := Option.some.inj h
         exact WO.met _ trivial ⟨rfl, _, (Stp.refl _ _).wk rfl⟩ fun a ha => (ha.more (ha.more (ha.more ha.nil rfl) rfl) rfl)
       rintro _ w302 _ ⟨rfl, K303, S304⟩
       have h := hK300
       refine WO.fin ?_
       refine DN.seq ?_
       revert h
       cases ht305 : p102 with
       | true =>
        intro h; replace h := cT h
        refine WC.ct rfl ?_
        refine WC.seq ?_
        refine WC.rs [(0, 2)] rfl ?_
        refine WO.pn 1 rfl ?_
        refine WO.fin ?_
        refine DN.seq ?_
        refine WC.ret ?_
        refine DN.retThen ?_
        have f306 := hE.stp (S3.tr (S12.tr (S28.tr (S35.tr (S40.tr (S45.tr (S57.tr (S65.tr (S68.tr (S81.tr (S89.tr (S92.tr (S104.tr (S112.tr (S115.tr (S128.tr (S135.tr (S138.tr (S152.tr (S165.tr (S184.tr (S209.tr (S214.tr (S231.tr (S242.tr (S260.tr (S273.tr (S281.tr (S284.tr (S297.tr S304)))))))))))))))))))))))))))))) rfl rfl
        refine DN.res (l := [.tmp 8]) Try.results14 (res_tmp rfl rfl) rfl ?_
        obtain rfl := Option.some.inj h
        exact ⟨K303, rfl, f306⟩
       | false =>
        intro h; replace h := cF h
        refine WC.cf rfl ?_
        refine WC.skip ?_
        refine DN.seq ?_
        refine WC.seq ?_
        refine WC.rs [(0, 2)] rfl ?_
        refine WO.pn 1 rfl ?_
        refine WO.fin ?_
        refine DN.seq ?_
        refine WC.seq ?_
        refine WC.rs [(0, 1), (1, 2), (2, 1), (3, 2)] rfl ?_
        have f307 := f237.stp (S242.tr (S260.tr (S273.tr (S281.tr (S284.tr (S297.tr S304)))))) rfl rfl
        refine WO.k1 trivial rfl rfl rfl rfl (rn_la (cs := [.int .i64 x41.1.Inputs, .int .i64 x41.1.Latches, .slice a41_0 x41.1.Next.length u41_0, .slice a41_1 x41.1.Gates.length u41_1, .slice a41_2 x41.1.Outs.length u41_2]) Try.isAgg50 Try.sizeOf50 rfl rfl rfl (haE f307.cells)) ?_
        refine WO.pn 1 rfl ?_
        obtain ⟨x105, hx105, h⟩ := Option.bind_eq_some_iff.mp h
        have f308 := f234.stp (S242.tr (S260.tr (S273.tr (S281.tr (S284.tr (S297.tr S304)))))) rfl rfl
        have f309 := f235.stp (S242.tr (S260.tr (S273.tr (S281.tr (S284.tr (S297.tr S304)))))) rfl rfl
        have f310 := f236.stp (S242.tr (S260.tr (S273.tr (S281.tr (S284.tr (S297.tr S304)))))) rfl rfl
        refine WO.call rfl rfl rfl rfl rfl rfl Try.call60 (Ret.cast (by simp only [(hn225), (hn227), (hn229)]) (l_heldCircuit_ok (κ := fun b => mp [] 0 (K303 b)) (p0 := (⟨x41.1.Inputs, x41.1.Latches, x76.2.1, x76.2.2.1, x76.2.2.2⟩ : Circuit)) (Sl.map f308.rdc (mp [] 0) rfl rfl) (Sl.map f309.rdc (mp [] 0) rfl rfl) (Sl.map f310.rdc (mp [] 0) rfl rfl) hx105)) ?_
        rintro _ w311 ⟨k312, rfl, e313⟩
        obtain ⟨K314, S315, m316⟩ := Ent.mixed (l := []) (κ := K303) e313 62 rfl
        refine ⟨trivial, ?_⟩
        refine WO.pn 1 rfl ?_
        refine WO.fin ?_
        refine DN.seq ?_
        refine WC.seq ?_
        refine WC.seq ?_
        refine WC.rs [(0, 2), (1, 2)] rfl ?_
        refine WO.pn 2 rfl ?_
        refine WO.fin ?_
        refine DN.seq ?_
        revert h
        cases ht318 : decide (x105 < 0) with
        | true =>
         intro h; replace h := cT h
         refine WC.ct rfl ?_
         refine WC.seq ?_
         refine WC.rs [(0, 2)] rfl ?_
         refine WO.pn 1 rfl ?_
         refine WO.fin ?_
         refine DN.seq ?_
         refine WC.ret ?_
         refine DN.retThen ?_
         have f319 := hE.stp (S3.tr (S12.tr (S28.tr (S35.tr (S40.tr (S45.tr (S57.tr (S65.tr (S68.tr (S81.tr (S89.tr (S92.tr (S104.tr (S112.tr (S115.tr (S128.tr (S135.tr (S138.tr (S152.tr (S165.tr (S184.tr (S209.tr (S214.tr (S231.tr (S242.tr (S260.tr (S273.tr (S281.tr (S284.tr (S297.tr (S304.tr S315))))))))))))))))))))))))))))))) rfl rfl
         refine DN.res (l := [.tmp 8]) Try.results14 (res_tmp rfl rfl) rfl ?_
         obtain rfl := Option.some.inj h
         exact ⟨K314, rfl, f319⟩
        | false =>
         intro h; replace h := cF h
         refine WC.cf rfl ?_
         refine WC.skip ?_
         refine DN.seq ?_
         refine WC.seq ?_
         refine WC.seq ?_
         refine WC.rs [(0, 2), (1, 2), (2, 2)] rfl ?_
         refine WO.pn 3 rfl ?_
         refine WO.fin ?_
         refine DN.seq ?_
         revert h
         cases ht320 : (x105 != x76.1) with
         | true =>
          intro h; replace h := cT h
          refine WC.ct rfl ?_
          refine WC.seq ?_
          refine WC.rs [(0, 2)] rfl ?_
          refine WO.pn 1 rfl ?_
          refine WO.fin ?_
          refine DN.seq ?_
          refine WC.ret ?_
          refine DN.retThen ?_
          have f321 := hE.stp (S3.tr (S12.tr (S28.tr (S35.tr (S40.tr (S45.tr (S57.tr (S65.tr (S68.tr (S81.tr (S89.tr (S92.tr (S104.tr (S112.tr (S115.tr (S128.tr (S135.tr (S138.tr (S152.tr (S165.tr (S184.tr (S209.tr (S214.tr (S231.tr (S242.tr (S260.tr (S273.tr (S281.tr (S284.tr (S297.tr (S304.tr S315))))))))))))))))))))))))))))))) rfl rfl
          refine DN.res (l := [.tmp 8]) Try.results14 (res_tmp rfl rfl) rfl ?_
          obtain rfl := Option.some.inj h
          exact ⟨K314, rfl, f321⟩
         | false =>
          intro h; replace h := cF h
          refine WC.cf rfl ?_
          refine WC.skip ?_
          refine DN.seq ?_
          refine WC.seq ?_
          refine WC.rs [(0, 2)] rfl ?_
          refine WO.pn 1 rfl ?_
          refine WO.fin ?_
          refine DN.seq ?_
          refine WC.ret ?_
          have f322 := hE.stp (S3.tr (S12.tr (S28.tr (S35.tr (S40.tr (S45.tr (S57.tr (S65.tr (S68.tr (S81.tr (S89.tr (S92.tr (S104.tr (S112.tr (S115.tr (S128.tr (S135.tr (S138.tr (S152.tr (S165.tr (S184.tr (S209.tr (S214.tr (S231.tr (S242.tr (S260.tr (S273.tr (S281.tr (S284.tr (S297.tr (S304.tr S315))))))))))))))))))))))))))))))) rfl rfl
          refine DN.res (l := [.tmp 8]) Try.results14 (res_tmp rfl rfl) rfl ?_
          obtain rfl := Option.some.inj h
          exact ⟨K314, rfl, f322⟩

/- loop.example/g00869/impl.StepOf -/
theorem i_StepOf_ok {w : World} {κ : Col} {a0_2 : Option Addr} {u0_2 : Nat} {a0_3 : Option Addr} {u0_3 : Nat} {a0_4 : Option Addr} {u0_4 : Nat} {p0 : Circuit} {p1 : Int} {p2 : Int} (g0_2 : Rd (Rp.int .i64) κ w 0 a0_2 u0_2 p0.Next) (g0_3 : Rd Gate.rp κ w 0 a0_3 u0_3 p0.Gates) (g0_4 : Rd (Rp.int .i64) κ w 0 a0_4 u0_4 p0.Outs) {r : Int × Int} (h : i_StepOf p0 p1 p2 = some r) : Ret Try.prog 31 [.agg #[.int .i64 p0.Inputs, .int .i64 p0.Latches, .slice a0_2 p0.Next.length u0_2, .slice a0_3 p0.Gates.length u0_3, .slice a0_4 p0.Outs.length u0_4], .int .i64 p1, .int .i64 p2] w (fun v w' => ∃ (κ' : Col), v = .tuple #[.int .i64 r.1, .int .i64 r.2] ∧ Ent κ w κ' w') := by
 unfold i_StepOf at h
 refine Ret.enter Try.func31 rfl Try.ntmps31 rfl ?_
 dsimp only [envOf]
 have hE := Ent.refl κ w
 refine WC.seq ?_
 refine WC.rs [(0, 1), (1, 2), (2, 2)] rfl ?_
 refine WO.box (κ := κ) 2 rfl rfl rfl rfl rfl rfl rfl fun b3 w1 K2 S3 f4 => ⟨trivial, ?_⟩
 refine WO.pn 2 rfl ?_
 refine WO.fin ?_
 refine DN.seq ?_
 refine WC.seq ?_
 refine WC.seq ?_
 refine WC.rs [(0, 1), (1, 1), (2, 2), (3, 2), (4, 2), (5, 2), (6, 2), (7, 2), (8, 2), (9, 2), (10, 1), (11, 2), (12, 2), (13, 2), (14, 2), (15, 2), (16, 2), (17, 2), (18, 2), (19, 2), (20, 2), (21, 1), (22, 2), (23, 2), (24, 2)] rfl ?_
 refine WO.k1 trivial rfl rfl rfl rfl (rn_la (cs := [.int .i64 p0.Inputs, .int .i64 p0.Latches, .slice a0_2 p0.Next.length u0_2, .slice a0_3 p0.Gates.length u0_3, .slice a0_4 p0.Outs.length u0_4]) Try.isAgg50 Try.sizeOf50 rfl rfl rfl (haE f4.cells)) ?_
 obtain ⟨x11, hx11, h⟩ := Option.bind_eq_some_iff.mp h
 have f5 := g0_2.stp S3 rfl rfl
 have f6 := g0_3.stp S3 rfl rfl
 have f7 := g0_4.stp S3 rfl rfl
 refine WO.call rfl rfl rfl rfl rfl rfl Try.call88 (i_isCircuit_ok (κ := fun b => mp [] 0 (K2 b)) (p0 := p0) (Sl.map f5 (mp [] 0) rfl rfl) (Sl.map f6 (mp [] 0) rfl rfl) (Sl.map f7 (mp [] 0) rfl rfl) hx11) ?_
 rintro _ w8 ⟨k9, rfl, e10⟩
 obtain ⟨K11, S12, m13⟩ := Ent.mixed (l := []) (κ := K2) e10 3 rfl
 refine ⟨trivial, ?_⟩
 refine WO.pn 2 rfl ?_
 obtain ⟨p16, h, hK15⟩ := Option.bind_eq_some_iff.mp h
 refine WO.meet [(4, 2), (5, 2), (6, 2)] [(7, 2), (8, 2), (9, 2), (10, 1), (11, 2), (12, 2), (13, 2), (14, 2), (15, 2), (16, 2), (17, 2), (18, 2), (19, 2), (20, 2), (21, 1), (22, 2), (23, 2), (24, 2)] (fun L w' => L = [(1, .int .i64 p1), (2, .int .i64 p2), (3, .pointer (some ⟨b3, 0, none⟩)), (16, .bool p16)] ∧ ∃ κ', Stp [] K11 w8 κ' w') trivial ?_ ?_
 ·
  revert h
  cases ht16 : (!x11) with
  | true =>
   intro h; replace h := cT h
   refine WO.pn 3 rfl ?_
   obtain rfl := Option.some.inj h
   exact WO.met _ trivial ⟨rfl, _, (Stp.refl _ _).wk rfl⟩ fun a ha => (ha.more (ha.more (ha.more (ha.more ha.nil rfl) rfl) rfl) rfl)
  | false =>
   intro h; replace h := cF h
   refine WO.pn 3 rfl ?_
   obtain rfl := Option.some.inj h
   exact WO.met _ trivial ⟨rfl, _, (Stp.refl _ _).wk rfl⟩ fun a ha => (ha.more (ha.more (ha.more (ha.more ha.nil rfl) rfl) rfl) rfl)
 rintro _ w17 _ ⟨rfl, K18, S19⟩
 have h := hK15
 refine WO.pn 1 rfl ?_
 obtain ⟨p23, h, hK20⟩ := Option.bind_eq_some_iff.mp h
 refine WO.meet [(8, 2), (9, 2), (10, 1), (11, 2), (12, 2), (13, 2)] [(14, 2), (15, 2), (16, 2), (17, 2), (18, 2), (19, 2), (20, 2), (21, 1), (22, 2), (23, 2), (24, 2)] (fun L w' => L = [(1, .int .i64 p1), (2, .int .i64 p2), (3, .pointer (some ⟨b3, 0, none⟩)), (23, .bool p23)] ∧ ∃ κ', Stp [] K18 w17 κ' w') trivial ?_ ?_
 ·
  revert h
  cases ht21 : p16 with
  | true =>
   intro h; replace h := cT h
   refine WO.pn 2 rfl ?_
   refine WO.ls rfl rfl rfl rfl ?_
   refine WO.pn 3 rfl ?_
   obtain rfl := Option.some.inj h
   exact WO.met _ trivial ⟨rfl, _, (Stp.refl _ _).wk rfl⟩ fun a ha => (ha.more (ha.more (ha.more (ha.more ha.nil rfl) rfl) rfl) rfl)
  | false =>
   intro h; replace h := cF h
   refine WO.pn 1 rfl ?_
   refine WO.k2 rfl rfl rfl rfl (rn_fieldAddr Try.runUnderlying50 rfl Try.sizeOf2 rfl rfl) ?_
   have f22 := f4.stp (S12.tr S19) rfl rfl
   refine WO.k1 trivial rfl rfl rfl rfl (rn_ld Try.isAgg2 rfl rfl (hvE (f22.ld 1 rfl rfl))) ?_
   obtain ⟨_z21, hz21, h⟩ := Option.bind_eq_some_iff.mp h
   refine WO.k2 rfl rfl rfl rfl (rn_shl rfl rfl rfl (nn_ok hz21)) ?_
   refine WO.pn 2 rfl ?_
   obtain rfl := Option.some.inj h
   exact WO.met _ trivial ⟨rfl, _, (Stp.refl _ _).wk rfl⟩ fun a ha => (ha.more (ha.more (ha.more (ha.more ha.nil rfl) rfl) rfl) rfl)
 rintro _ w23 _ ⟨rfl, K24, S25⟩
 have h := hK20
 refine WO.pn 1 rfl ?_
 obtain ⟨p27, h, hK26⟩ := Option.bind_eq_some_iff.mp h
 refine WO.meet [(15, 2), (16, 2), (17, 2)] [(18, 2), (19, 2), (20, 2), (21, 1), (22, 2), (23, 2), (24, 2)] (fun L w' => L = [(1, .int .i64 p1), (2, .int .i64 p2), (3, .pointer (some ⟨b3, 0, none⟩)), (27, .bool p27)] ∧ ∃ κ', Stp [] K24 w23 κ' w') trivial ?_ ?_
 ·
  revert h
  cases ht27 : p23 with
  | true =>
   intro h; replace h := cT h
   refine WO.pn 3 rfl ?_
   obtain rfl := Option.some.inj h
   exact WO.met _ trivial ⟨rfl, _, (Stp.refl _ _).wk rfl⟩ fun a ha => (ha.more (ha.more (ha.more (ha.more ha.nil rfl) rfl) rfl) rfl)
  | false =>
   intro h; replace h := cF h
   refine WO.pn 3 rfl ?_
   obtain rfl := Option.some.inj h
   exact WO.met _ trivial ⟨rfl, _, (Stp.refl _ _).wk rfl⟩ fun a ha => (ha.more (ha.more (ha.more (ha.more ha.nil rfl) rfl) rfl) rfl)
 rintro _ w28 _ ⟨rfl, K29, S30⟩
 have h := hK26
 refine WO.pn 1 rfl ?_
 obtain ⟨p34, h, hK31⟩ := Option.bind_eq_some_iff.mp h
 refine WO.meet [(19, 2), (20, 2), (21, 1), (22, 2), (23, 2), (24, 2)] [] (fun L w' => L = [(1, .int .i64 p1), (2, .int .i64 p2), (3, .pointer (some ⟨b3, 0, none⟩)), (34, .bool p34)] ∧ ∃ κ', Stp [] K29 w28 κ' w') trivial ?_ ?_
 ·
  revert h
  cases ht32 : p27 with
  | true =>
   intro h; replace h := cT h
   refine WO.pn 2 rfl ?_
   refine WO.ls rfl rfl rfl rfl ?_
   refine WO.pn 3 rfl ?_
   obtain rfl := Option.some.inj h
   exact WO.met _ trivial ⟨rfl, _, (Stp.refl _ _).wk rfl⟩ fun a ha => (ha.more (ha.more (ha.more (ha.more ha.nil rfl) rfl) rfl) rfl)
  | false =>
   intro h; replace h := cF h
   refine WO.pn 1 rfl ?_
   refine WO.k2 rfl rfl rfl rfl (rn_fieldAddr Try.runUnderlying50 rfl Try.sizeOf2 rfl rfl) ?_
   have f33 := f4.stp (S12.tr (S19.tr (S25.tr S30))) rfl rfl
   refine WO.k1 trivial rfl rfl rfl rfl (rn_ld Try.isAgg2 rfl rfl (hvE (f33.ld 0 rfl rfl))) ?_
   obtain ⟨_z32, hz32, h⟩ := Option.bind_eq_some_iff.mp h
   refine WO.k2 rfl rfl rfl rfl (rn_shl rfl rfl rfl (nn_ok hz32)) ?_
   refine WO.pn 2 rfl ?_
   obtain rfl := Option.some.inj h
   exact WO.met _ trivial ⟨rfl, _, (Stp.refl _ _).wk rfl⟩ fun a ha => (ha.more (ha.more (ha.more (ha.more ha.nil rfl) rfl) rfl) rfl)
 rintro _ w34 _ ⟨rfl, K35, S36⟩
 have h := hK31
 refine WO.fin ?_
 refine DN.seq ?_
 revert h
 cases ht37 : p34 with
 | true =>
  intro h; replace h := cT h
  refine WC.ct rfl ?_
  refine WC.seq ?_
  refine WC.rs [(0, 2), (1, 2)] rfl ?_
  refine WO.pn 2 rfl ?_
  refine WO.fin ?_
  refine DN.seq ?_
  refine WC.ret ?_
  refine DN.retThen ?_
  have f38 := hE.stp (S3.tr (S12.tr (S19.tr (S25.tr (S30.tr S36))))) rfl rfl
  refine DN.res (l := [.tmp 6, .tmp 7]) Try.results31 (res_tmp rfl (res_tmp rfl rfl)) rfl ?_
  obtain rfl := Option.some.inj h
  exact ⟨K35, rfl, f38⟩
 | false =>
  intro h; replace h := cF h
  refine WC.cf rfl ?_
  refine WC.skip ?_
  refine DN.seq ?_
  refine WC.seq ?_
  refine WC.rs [(0, 1), (1, 2), (2, 2), (3, 1), (4, 2), (5, 2), (6, 2), (7, 2), (8, 2)] rfl ?_
  have f39 := f4.stp (S12.tr (S19.tr (S25.tr (S30.tr S36)))) rfl rfl
  refine WO.k1 trivial rfl rfl rfl rfl (rn_la (cs := [.int .i64 p0.Inputs, .int .i64 p0.Latches, .slice a0_2 p0.Next.length u0_2, .slice a0_3 p0.Gates.length u0_3, .slice a0_4 p0.Outs.length u0_4]) Try.isAgg50 Try.sizeOf50 rfl rfl rfl (haE f39.cells)) ?_
  refine WO.pn 2 rfl ?_
  obtain ⟨x39, hx39, h⟩ := Option.bind_eq_some_iff.mp h
  have f40 := f5.stp (S12.tr (S19.tr (S25.tr (S30.tr S36)))) rfl rfl
  have f41 := f6.stp (S12.tr (S19.tr (S25.tr (S30.tr S36)))) rfl rfl
  have f42 := f7.stp (S12.tr (S19.tr (S25.tr (S30.tr S36)))) rfl rfl
  refine WO.call rfl rfl rfl rfl rfl rfl Try.call89 (i_stepOf_ok (κ := fun b => mp [] 0 (K35 b)) (p0 := p0) (Sl.map f40 (mp [] 0) rfl rfl) (Sl.map f41 (mp [] 0) rfl rfl) (Sl.map f42 (mp [] 0) rfl rfl) hx39) ?_
  rintro _ w43 ⟨k44, rfl, e45⟩
  obtain ⟨K46, S47, m48⟩ := Ent.mixed (l := []) (κ := K35) e45 5 rfl
  refine ⟨trivial, ?_⟩
  refine WO.pn 5 rfl ?_
  refine WO.fin ?_
  refine DN.seq ?_
  refine WC.seq ?_
  refine WC.rs [(0, 2), (1, 2), (2, 2), (3, 2)] rfl ?_
  refine WO.pn 4 rfl ?_
  refine WO.fin ?_
  refine DN.seq ?_
  refine WC.ret ?_
  have f50 := hE.stp (S3.tr (S12.tr (S19.tr (S25.tr (S30.tr (S36.tr S47)))))) rfl rfl
  refine DN.res (l := [.tmp 6, .tmp 7]) Try.results31 (res_tmp rfl (res_tmp rfl rfl)) rfl ?_
  obtain rfl := Option.some.inj h
  exact ⟨K46, rfl, f50⟩

end Go.Proofs.Ytgniipbjjkodaaa
