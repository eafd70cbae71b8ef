/- The walks, part 6. By program. -/
import Derived.Test.YtfmkhnlnomkcfaaFnsC64
import Derived.Test.YtfmkhnlnomkcfaaFnsC65
set_option linter.unusedVariables false
set_option linter.unusedSimpArgs false
namespace Go.Proofs.Ytfmkhnlnomkcfaa
open Go Go.Wk Go.Proofs
set_option maxRecDepth 100000
set_option maxHeartbeats 1000000

/- loop.example/g00869/spec.TidiedCircuit -/
theorem s_TidiedCircuit_ok {w : World} {κ : Col} {a0_2 : Option Addr} {u0_2 : Nat} {a0_3 : Option Addr} {u0_3 : Nat} {a0_4 : Option Addr} {u0_4 : Nat} {p0 : Circuit} (g0_2 : Rd (Rp.int .i64) κ w 0 a0_2 u0_2 p0.Next) (g0_3 : Rd Gate.rp κ w 0 a0_3 u0_3 p0.Gates) (g0_4 : Rd (Rp.int .i64) κ w 0 a0_4 u0_4 p0.Outs) {r : Circuit} (h : s_TidiedCircuit p0 = some r) : Ret Try.prog 37 [.agg #[.int .i64 p0.Inputs, .int .i64 p0.Latches, .slice a0_2 p0.Next.length u0_2, .slice a0_3 p0.Gates.length u0_3, .slice a0_4 p0.Outs.length u0_4]] w (fun v w' => ∃ (κ' : Col) (ra0 : Option Addr) (ru0 : Nat) (ra1 : Option Addr) (ru1 : Nat) (ra2 : Option Addr) (ru2 : Nat), v = .agg #[.int .i64 r.Inputs, .int .i64 r.Latches, .slice ra0 r.Next.length ru0, .slice ra1 r.Gates.length ru1, .slice ra2 r.Outs.length ru2] ∧ Ent κ w κ' w' ∧ Oc (Ep.int .i64) 2 κ' w' 2 ra0 ru0 r.Next ∧ Rd Gate.rp κ' w' 0 ra1 ru1 r.Gates ∧ Oc (Ep.int .i64) 2 κ' w' 4 ra2 ru2 r.Outs) := by
 unfold s_TidiedCircuit at h
 refine Ret.enter Try.func37 rfl Try.ntmps37 rfl ?_
 dsimp only [envOf]
 have hE := Ent.refl κ w
 refine WC.seq ?_
 refine WC.rs [(0, 1), (1, 1)] rfl ?_
 refine WO.box (κ := κ) 2 rfl rfl rfl rfl rfl rfl rfl fun b1 w1 K2 S3 f4 => ⟨trivial, ?_⟩
 refine WO.alloc (κ := K2) 3 rfl rfl rfl rfl rfl Try.zeroValue57 rfl fun b2 w5 K6 S7 f8 => ⟨trivial, ?_⟩
 refine WO.fin ?_
 refine DN.seq ?_
 refine WC.seq ?_
 refine WC.seq ?_
 refine WC.rs [(0, 1), (1, 1), (2, 2)] rfl ?_
 have f9 := f4.stp S7 rfl rfl
 refine WO.k1 trivial rfl rfl rfl rfl (rn_la (cs := [.int .i64 p0.Inputs, .int .i64 p0.Latches, .slice a0_2 p0.Next.length u0_2, .slice a0_3 p0.Gates.length u0_3, .slice a0_4 p0.Outs.length u0_4]) Try.isAgg57 Try.sizeOf57 rfl rfl rfl (haE f9.cells)) ?_
 obtain ⟨x16, hx16, h⟩ := Option.bind_eq_some_iff.mp h
 have f10 := g0_2.stp (S3.tr S7) rfl rfl
 have f11 := g0_3.stp (S3.tr S7) rfl rfl
 have f12 := g0_4.stp (S3.tr S7) rfl rfl
 refine WO.call rfl rfl rfl rfl rfl rfl Try.call115 (s_CircuitOk_ok (κ := fun b => mp [] 0 (K6 b)) (p0 := p0) (Sl.map f10 (mp [] 0) rfl rfl) (Sl.map f11 (mp [] 0) rfl rfl) (Sl.map f12 (mp [] 0) rfl rfl) hx16) ?_
 rintro _ w13 ⟨k14, rfl, e15⟩
 obtain ⟨K16, S17, m18⟩ := Ent.mixed (l := []) (κ := K6) e15 4 rfl
 refine ⟨trivial, ?_⟩
 refine WO.pn 1 rfl ?_
 refine WO.fin ?_
 refine DN.seq ?_
 revert h
 cases ht20 : (!x16) with
 | true =>
  intro h; replace h := cT h
  refine WC.ct rfl ?_
  refine WC.seq ?_
  refine WC.rs [(0, 2), (1, 1)] rfl ?_
  refine WO.k2 rfl rfl rfl rfl (rn_build (parts := []) (cells := [.int .i64 0, .int .i64 0, .slice none 0 0, .slice none 0 0, .slice none 0 0]) rfl rfl (by kernel_rfl)) ?_
  have f21 := f8.stp S17 rfl rfl
  refine WO.stB0 (κ := K16) 3 (vc := [.int .i64 0, .int .i64 0, .slice none 0 0, .slice none 0 0, .slice none 0 0]) rfl rfl rfl rfl rfl rfl rfl Try.sizeOf57 rfl rfl f21 rfl fun w22 S23 f24 => ⟨trivial, ?_⟩
  refine WO.fin ?_
  refine DN.seq ?_
  refine WC.ret ?_
  refine DN.retThen ?_
  have f25 := hE.stp (S3.tr (S7.tr (S17.tr S23))) rfl rfl
  refine DN.res (l := [.cell 2 57]) Try.results37 (res_cellA rfl f24 Try.isAgg57 Try.sizeOf57 rfl rfl) rfl ?_
  obtain rfl := Option.some.inj h
  exact ⟨K16, none, 0, none, 0, none, 0, rfl, f25, Ow.nil, Sl.nil, Ow.nil⟩
 | false =>
  intro h; replace h := cF h
  refine WC.cf rfl ?_
  refine WC.skip ?_
  refine DN.seq ?_
  refine WC.seq ?_
  refine WC.rs [(0, 2), (1, 1), (2, 2), (3, 1), (4, 2), (5, 1), (6, 1)] rfl ?_
  refine WO.k2 rfl rfl rfl rfl (rn_fieldAddr Try.runUnderlying57 rfl Try.sizeOf2 rfl rfl) ?_
  have f26 := f9.stp S17 rfl rfl
  refine WO.k1 trivial rfl rfl rfl rfl (rn_ld Try.isAgg2 rfl rfl (hvE (f26.ld 0 rfl rfl))) ?_
  refine WO.k2 rfl rfl rfl rfl (rn_fieldAddr Try.runUnderlying57 rfl Try.sizeOf2 rfl rfl) ?_
  refine WO.k1 trivial rfl rfl rfl rfl (rn_ld Try.isAgg2 rfl rfl (hvE (f26.ld 1 rfl rfl))) ?_
  refine WO.k2 rfl rfl rfl rfl (rn_build (parts := [(0, .tmp 20), (1, .tmp 22)]) (cells := [.int .i64 p0.Inputs, .int .i64 p0.Latches, .slice none 0 0, .slice none 0 0, .slice none 0 0]) rfl rfl (by kernel_rfl)) ?_
  refine WO.alloc (κ := K16) 6 rfl rfl rfl rfl rfl Try.zeroValue57 rfl fun b3 w27 K28 S29 f30 => ⟨trivial, ?_⟩
  refine WO.stB0 (κ := K28) 6 (vc := [.int .i64 p0.Inputs, .int .i64 p0.Latches, .slice none 0 0, .slice none 0 0, .slice none 0 0]) rfl rfl rfl rfl rfl rfl rfl Try.sizeOf57 rfl rfl f30 rfl fun w31 S32 f33 => ⟨trivial, ?_⟩
  refine WO.fin ?_
  refine DN.seq ?_
  refine WC.seq ?_
  refine WC.rs [(0, 1), (1, 2)] rfl ?_
  refine WO.bl0 (κ := K28) (E := (Ep.int .i64)) 7 rfl rfl rfl rfl rfl Try.underlying22 Tryinfo2 rfl fun a24 u24 w34 K35 S36 f37 => ⟨trivial, ?_⟩
  refine WO.pn 1 rfl ?_
  refine WO.fin ?_
  refine DN.seq ?_
  refine WC.seq ?_
  refine WC.seq ?_
  refine WC.rs [(0, 2)] rfl ?_
  refine WO.pn 1 rfl ?_
  refine WO.fin ?_
  refine DN.seq ?_
  obtain ⟨q2, hq40, hK39⟩ := Option.bind_eq_some_iff.mp h
  clear h
  refine WC.meet (fun L w' => ∃ (κ' : Col) (s3 : (List Int) × Int) (las3_0 : Option Addr) (lus3_0 : Nat), L = [(1, .pointer (some ⟨b1, 0, none⟩)), (2, .pointer (some ⟨b2, 0, none⟩)), (3, .pointer (some ⟨b3, 0, none⟩)), (4, .slice las3_0 s3.1.length lus3_0)] ∧ Stp [7] K35 w34 κ' w' ∧ Oc (Ep.int .i64) 2 κ' w' 7 las3_0 lus3_0 s3.1 ∧ q2 = Sum.inr s3) ?_ ?_
  ·
   refine WC.block ?_
   refine WC.loop (fun k L w' => ∃ (κ' : Col) (s1 : (List Int) × Int) (las1_0 : Option Addr) (lus1_0 : Nat), L = [(1, .pointer (some ⟨b1, 0, none⟩)), (2, .pointer (some ⟨b2, 0, none⟩)), (3, .pointer (some ⟨b3, 0, none⟩)), (4, .slice las1_0 s1.1.length lus1_0), (5, .int .i64 s1.2)] ∧ Stp [7] K35 w34 κ' w' ∧ Oc (Ep.int .i64) 2 κ' w' 7 las1_0 lus1_0 s1.1 ∧ whileM (s_TidiedCircuit_b0 p0) k s1 = some q2) ⟨_, _, ⟨K35, ((([] : List Int) : (List Int)), (0 : Int)), a24, u24, rfl, (Stp.refl _ _).wk rfl, f37, hq40⟩, fun a ha => (ha.more (ha.more (ha.more (ha.more (ha.more ha.nil rfl) rfl) rfl) rfl) rfl)⟩ ?_
   rintro k _ w45 ⟨K46, s1, las1_0, lus1_0, rfl, S47, f48, h⟩
   rcases k with _ | k
   ·
    cases h
   ·
    obtain ⟨o38, h, hk49⟩ := Option.bind_eq_some_iff.mp h; unfold s_TidiedCircuit_b0 at h
    refine WC.seq ?_
    refine WC.seq ?_
    refine WC.rs [(0, 2), (1, 2), (2, 1), (3, 2), (4, 1), (5, 2), (6, 2)] rfl ?_
    refine WO.pn 1 rfl ?_
    refine WO.k2 rfl rfl rfl rfl (rn_fieldAddr Try.runUnderlying57 rfl Try.sizeOf2 rfl rfl) ?_
    have f50 := f26.stp (S29.tr (S32.tr (S36.tr S47))) rfl rfl
    refine WO.k1 trivial rfl rfl rfl rfl (rn_ld Try.isAgg2 rfl rfl (hvE (f50.ld 0 rfl rfl))) ?_
    refine WO.k2 rfl rfl rfl rfl (rn_fieldAddr Try.runUnderlying57 rfl Try.sizeOf2 rfl rfl) ?_
    refine WO.k1 trivial rfl rfl rfl rfl (rn_ld Try.isAgg2 rfl rfl (hvE (f50.ld 1 rfl rfl))) ?_
    refine WO.pn 2 rfl ?_
    refine WO.fin ?_
    refine DN.seq ?_
    revert h
    cases ht51 : decide (s1.2 ≤ (IntKind.i64.wrap (p0.Inputs + p0.Latches))) with
    | true =>
     intro h; replace h := cT h
     refine WC.ct rfl ?_
     refine WC.skip ?_
     refine DN.seq ?_
     refine WC.seq ?_
     refine WC.block ?_
     refine WC.rs [(0, 2), (1, 2), (2, 2), (3, 1), (4, 1), (5, 2)] rfl ?_
     refine WO.pn 3 rfl ?_
     refine WO.bl (κ := K46) (E := (Ep.int .i64)) 8 [] (parts := [(0, .tmp 36)]) (cells := [.int .i64 (IntKind.i64.wrap (2 * s1.2))]) (xs := ([(IntKind.i64.wrap (2 * s1.2))] : List Int)) rfl rfl rfl rfl rfl rfl Try.underlying22 Tryinfo2 rfl rfl rfl rfl rfl rfl rfl rfl rfl rfl ⟨[.int .i64 (IntKind.i64.wrap (2 * s1.2))], [], Zl K46 w45 [], Zl K46 w45 [], rfl, Zl.sp (l1 := []) (l2 := []) rfl, Zl.sr (l1 := []) (l2 := []), rfl, rfl⟩ fun a37 u37 w52 K53 S54 f55 => ⟨trivial, ?_⟩
     obtain ⟨x38, hx38, h⟩ := Option.bind_eq_some_iff.mp h
     have f56 := f48.stp S54 rfl rfl
     refine WO.app (κ := K53) (E := (Ep.int .i64)) 7 [] rfl rfl rfl rfl rfl rfl rfl rfl rfl Try.underlying22 Tryinfo2 rfl rfl rfl rfl f56 (Sl.srcP (pu_int _) f55.rdc) sy_false hx38 rfl fun a38 u38 w57 K58 S59 f60 => ⟨trivial, ?_⟩
     refine WO.pn 1 rfl ?_
     refine WO.fin ?_
     refine DN.block ?_
     refine DN.seq ?_
     refine WC.rs [(0, 2), (1, 2), (2, 2)] rfl ?_
     refine WO.pn 3 rfl ?_
     refine WO.fin ?_
     obtain rfl := Option.some.inj h
     refine DN.round fun a ha => ?_
     exact ⟨k, _, Nat.lt_succ_self _, ⟨K58, ((x38 : (List Int)), ((IntKind.i64.wrap (s1.2 + 1)) : Int)), a38, u38, rfl, (S47.tr (S54.tr S59)).wk rfl, f60, hk49⟩, (ha.more (ha.more (ha.more (ha.more (ha.more ha.nil rfl) rfl) rfl) rfl) rfl)⟩
    | false =>
     intro h; replace h := cF h
     refine WC.cf rfl ?_
     refine WC.exit ?_
     refine DN.exitThen ?_
     refine DN.exitThen ?_
     obtain rfl := Option.some.inj h
     have h := hk49
     refine DN.hit ?_
     obtain rfl := Option.some.inj h
     exact DN.meet _ ⟨K46, ((s1.1 : (List Int)), (s1.2 : Int)), las1_0, lus1_0, rfl, S47.wk rfl, f48, rfl⟩ fun a ha => (ha.more (ha.more (ha.more (ha.more ha.nil rfl) rfl) rfl) rfl)
  rintro _ w41 ⟨K42, s3, las3_0, lus3_0, rfl, S43, f44, rfl⟩
  have h := hK39
  dsimp only [aft] at h
  refine DN.seq ?_
  refine WC.seq ?_
  refine WC.rs [(0, 1), (1, 1), (2, 1)] rfl ?_
  have f61 := f33.stp (S36.tr S43) rfl rfl
  refine WO.k1 trivial rfl rfl rfl rfl (rn_la (cs := [.int .i64 p0.Inputs, .int .i64 p0.Latches, .slice none 0 0, .slice none 0 0, .slice none 0 0]) Try.isAgg57 Try.sizeOf57 rfl rfl rfl (haE f61.cells)) ?_
  refine WO.alloc (κ := K42) 8 rfl rfl rfl rfl rfl Try.zeroValue57 rfl fun b6 w62 K63 S64 f65 => ⟨trivial, ?_⟩
  refine WO.stB0 (κ := K63) 8 (vc := [.int .i64 p0.Inputs, .int .i64 p0.Latches, .slice none 0 0, .slice none 0 0, .slice none 0 0]) rfl rfl rfl rfl rfl rfl rfl Try.sizeOf57 rfl rfl f65 rfl fun w66 S67 f68 => ⟨trivial, ?_⟩
  refine WO.fin ?_
  refine DN.seq ?_
  refine WC.seq ?_
  refine WC.seq ?_
  refine WC.rs [(0, 2)] rfl ?_
  refine WO.pn 1 rfl ?_
  refine WO.fin ?_
  refine DN.seq ?_
  have hN69 : (p0.Gates.length : Int) ≤ 9223372036854775807 := f11.len_le
  obtain ⟨q5, hq71, hK70⟩ := Option.bind_eq_some_iff.mp h
  clear h
  refine WC.meet (fun L w' => ∃ (κ' : Col) (s6 : (List Int) × Int × Int × (List Int) × (List Gate) × (List Int)) (las6_0 : Option Addr) (lus6_0 : Nat) (las6_1 : Option Addr) (lus6_1 : Nat) (las6_2 : Option Addr) (lus6_2 : Nat) (las6_3 : Option Addr) (lus6_3 : Nat), L = [(1, .pointer (some ⟨b1, 0, none⟩)), (2, .pointer (some ⟨b2, 0, none⟩)), (3, .pointer (some ⟨b3, 0, none⟩)), (4, .slice las6_0 s6.1.length lus6_0), (6, .pointer (some ⟨b6, 0, none⟩))] ∧ Stp [7, 8, 9, 10, 11, 12, 13, 14, 16, 21, 22, 23, 24] K63 w66 κ' w' ∧ Oc (Ep.int .i64) 2 κ' w' 7 las6_0 lus6_0 s6.1 ∧ Oc (Ep.int .i64) 2 κ' w' 9 las6_1 lus6_1 s6.2.2.2.1 ∧ Oc Gate.ep159 159 κ' w' 10 las6_2 lus6_2 s6.2.2.2.2.1 ∧ Oc (Ep.int .i64) 2 κ' w' 11 las6_3 lus6_3 s6.2.2.2.2.2 ∧ Bc κ' w' 8 b6 57 [.int .i64 s6.2.1, .int .i64 s6.2.2.1, .slice las6_1 s6.2.2.2.1.length lus6_1, .slice las6_2 s6.2.2.2.2.1.length lus6_2, .slice las6_3 s6.2.2.2.2.2.length lus6_3] ∧ q5 = Sum.inr s6) ?_ ?_
  ·
   refine WC.block ?_
   have f88 := f44.stp (S64.tr S67) rfl rfl
   refine WC.loop (fun k L w' => ∃ (κ' : Col) (v7 : Int) (s4 : (List Int) × Int × Int × (List Int) × (List Gate) × (List Int)) (las4_0 : Option Addr) (lus4_0 : Nat) (las4_1 : Option Addr) (lus4_1 : Nat) (las4_2 : Option Addr) (lus4_2 : Nat) (las4_3 : Option Addr) (lus4_3 : Nat), L = [(1, .pointer (some ⟨b1, 0, none⟩)), (2, .pointer (some ⟨b2, 0, none⟩)), (3, .pointer (some ⟨b3, 0, none⟩)), (4, .slice las4_0 s4.1.length lus4_0), (6, .pointer (some ⟨b6, 0, none⟩)), (7, .int .i64 v7)] ∧ Stp [7, 8, 9, 10, 11, 12, 13, 14, 16, 21, 22, 23, 24] K63 w66 κ' w' ∧ Oc (Ep.int .i64) 2 κ' w' 7 las4_0 lus4_0 s4.1 ∧ Oc (Ep.int .i64) 2 κ' w' 9 las4_1 lus4_1 s4.2.2.2.1 ∧ Oc Gate.ep159 159 κ' w' 10 las4_2 lus4_2 s4.2.2.2.2.1 ∧ Oc (Ep.int .i64) 2 κ' w' 11 las4_3 lus4_3 s4.2.2.2.2.2 ∧ Bc κ' w' 8 b6 57 [.int .i64 s4.2.1, .int .i64 s4.2.2.1, .slice las4_1 s4.2.2.2.1.length lus4_1, .slice las4_2 s4.2.2.2.2.1.length lus4_2, .slice las4_3 s4.2.2.2.2.2.length lus4_3] ∧ 0 ≤ v7 ∧ Int.toNat ((p0.Gates.length : Int) - v7) = k ∧ cntM (s_TidiedCircuit_b2 p0) k v7 s4 = some q5) ⟨_, _, ⟨K63, 0, ((s3.1 : (List Int)), (p0.Inputs : Int), (p0.Latches : Int), (([] : List Int) : (List Int)), (([] : List Gate) : (List Gate)), (([] : List Int) : (List Int))), las3_0, lus3_0, none, 0, none, 0, none, 0, rfl, (Stp.refl _ _).wk rfl, f88, Ow.nil, Ow.nil, Ow.nil, f68, (by decide), (by simp), hq71⟩, fun a ha => (ha.more (ha.more (ha.more (ha.more (ha.more (ha.more ha.nil rfl) rfl) rfl) rfl) rfl) rfl)⟩ ?_
   rintro k _ w80 ⟨K81, v7, s4, las4_0, lus4_0, las4_1, lus4_1, las4_2, lus4_2, las4_3, lus4_3, rfl, S82, f83, f84, f85, f86, f87, hj69, hJ69, h⟩
   rcases k with _ | k
   ·
    have hk89 := h; obtain ⟨o69, h⟩ := ex_eq (Sum.inr (Sum.inl s4) : Circuit ⊕ (((List Int) × Int × Int × (List Int) × (List Gate) × (List Int)) ⊕ ((List Int) × Int × Int × (List Int) × (List Gate) × (List Int))))
    have hc69 : decide (v7 < (p0.Gates.length : Int)) = false := decide_eq_false (by omega)
    refine WC.seq ?_
    refine WC.seq ?_
    refine WC.rs [(0, 2), (1, 2), (2, 1), (3, 2), (4, 2)] rfl ?_
    refine WO.pn 1 rfl ?_
    refine WO.k2 rfl rfl rfl rfl (rn_fieldAddr Try.runUnderlying57 rfl Try.sizeOf55 rfl rfl) ?_
    have f90 := f26.stp (S29.tr (S32.tr (S36.tr (S43.tr (S64.tr (S67.tr S82)))))) rfl rfl
    refine WO.k1 trivial rfl rfl rfl rfl (rn_ld Try.isAgg55 rfl rfl (hvE (f90.ld 3 rfl rfl))) ?_
    refine WO.k2 rfl rfl rfl rfl (rn_len Try.runUnderlying55 rfl rfl) ?_
    refine WO.pn 1 rfl ?_
    refine WO.fin ?_
    refine DN.seq ?_
    refine WC.cf' rfl hc69 ?_
    refine WC.exit ?_
    refine DN.exitThen ?_
    refine DN.exitThen ?_
    obtain rfl := Option.some.inj h
    have h := hk89
    refine DN.hit ?_
    obtain rfl := Option.some.inj h
    exact DN.meet _ ⟨K81, ((s4.1 : (List Int)), (s4.2.1 : Int), (s4.2.2.1 : Int), (s4.2.2.2.1 : (List Int)), (s4.2.2.2.2.1 : (List Gate)), (s4.2.2.2.2.2 : (List Int))), las4_0, lus4_0, las4_1, lus4_1, las4_2, lus4_2, las4_3, lus4_3, rfl, S82.wk rfl, f83, f84, f85, f86, f87, rfl⟩ fun a ha => (ha.more (ha.more (ha.more (ha.more (ha.more ha.nil rfl) rfl) rfl) rfl) rfl)
   ·
    obtain ⟨o69, h, hk89⟩ := Option.bind_eq_some_iff.mp h; unfold s_TidiedCircuit_b2 at h
    have hc69 : decide (v7 < (p0.Gates.length : Int)) = true := decide_eq_true (by omega)
    refine WC.seq ?_
    refine WC.seq ?_
    refine WC.rs [(0, 2), (1, 2), (2, 1), (3, 2), (4, 2)] rfl ?_
    refine WO.pn 1 rfl ?_
    refine WO.k2 rfl rfl rfl rfl (rn_fieldAddr Try.runUnderlying57 rfl Try.sizeOf55 rfl rfl) ?_
    have f91 := f26.stp (S29.tr (S32.tr (S36.tr (S43.tr (S64.tr (S67.tr S82)))))) rfl rfl
    refine WO.k1 trivial rfl rfl rfl rfl (rn_ld Try.isAgg55 rfl rfl (hvE (f91.ld 3 rfl rfl))) ?_
    refine WO.k2 rfl rfl rfl rfl (rn_len Try.runUnderlying55 rfl rfl) ?_
    refine WO.pn 1 rfl ?_
    refine WO.fin ?_
    refine DN.seq ?_
    refine WC.ct' rfl hc69 ?_
    refine WC.skip ?_
    refine DN.seq ?_
    refine WC.seq ?_
    refine WC.block ?_
    refine WC.seq ?_
    obtain ⟨x53, hx53, h⟩ := Option.bind_eq_some_iff.mp h
    obtain ⟨x61, hx61, h⟩ := Option.bind_eq_some_iff.mp h
    obtain ⟨x56, hx56, h⟩ := Option.bind_eq_some_iff.mp h
    obtain ⟨x64, hx64, h⟩ := Option.bind_eq_some_iff.mp h
    obtain ⟨x65, hx65, h⟩ := Option.bind_eq_some_iff.mp h
    refine WC.meet (fun L w' => ∃ (κ' : Col) (b8 : Nat) (lar95_0 : Option Addr) (lur95_0 : Nat) (lar95_1 : Option Addr) (lur95_1 : Nat) (lar95_2 : Option Addr) (lur95_2 : Nat), L = [(1, .pointer (some ⟨b1, 0, none⟩)), (2, .pointer (some ⟨b2, 0, none⟩)), (3, .pointer (some ⟨b3, 0, none⟩)), (4, .slice las4_0 s4.1.length lus4_0), (6, .pointer (some ⟨b6, 0, none⟩)), (7, .int .i64 v7), (8, .pointer (some ⟨b8, 0, none⟩)), (9, .int .i64 x65.2)] ∧ Stp [9, 10, 11, 12, 14, 16, 21, 22, 23, 24] K81 w80 κ' w' ∧ Oc (Ep.int .i64) 2 κ' w' 12 lar95_0 lur95_0 x65.1.Next ∧ Oc Gate.ep159 159 κ' w' 13 lar95_1 lur95_1 x65.1.Gates ∧ Oc (Ep.int .i64) 2 κ' w' 14 lar95_2 lur95_2 x65.1.Outs ∧ Bc κ' w' 15 b8 57 [.int .i64 x65.1.Inputs, .int .i64 x65.1.Latches, .slice lar95_0 x65.1.Next.length lur95_0, .slice lar95_1 x65.1.Gates.length lur95_1, .slice lar95_2 x65.1.Outs.length lur95_2]) ?_ ?_
    ·
     refine WC.rxt (κ := K81) [0, 2, 8] none (by kernel_rfl) fun w100 S101 => ?_
     refine WA.seg (fuel := 9) [(1, 2), (2, 2), (4, 2), (9, 2), (10, 2), (12, 2), (0, 0), (3, 0), (5, 2), (6, 2), (7, 0), (11, 0), (13, 2), (14, 2), (15, 0)] (by kernel_rfl) (by kernel_rfl) rfl ?_
     refine WO.pn 1 rfl ?_
     refine WO.k2 rfl rfl rfl rfl (rn_fieldAddr Try.runUnderlying57 rfl Try.sizeOf55 rfl rfl) ?_
     refine WO.pn 2 rfl ?_
     refine WO.k2 rfl rfl rfl rfl (rn_fieldAddr Try.runUnderlying57 rfl Try.sizeOf55 rfl rfl) ?_
     refine WO.pn 1 rfl ?_
     have f102 := f87.stp S101 rfl rfl
     refine WO.k0 rfl rfl rfl rfl (rn_la (cs := [.int .i64 s4.2.1, .int .i64 s4.2.2.1, .slice las4_1 s4.2.2.2.1.length lus4_1, .slice las4_2 s4.2.2.2.2.1.length lus4_2, .slice las4_3 s4.2.2.2.2.2.length lus4_3]) Try.isAgg57 Try.sizeOf57 rfl rfl rfl (haC f102.cells rfl)) ?_
     have f103 := f91.stp S101 rfl rfl
     refine WO.k0 rfl rfl rfl rfl (rn_ld Try.isAgg55 rfl rfl (hvC (f103.ld 3 rfl rfl) rfl)) ?_
     refine WO.k2 rfl rfl rfl rfl (rn_index f11 hx53 Try.runUnderlying55 Try.sizeOf159 rfl rfl rfl rfl) ?_
     refine WO.k2 rfl rfl rfl rfl (rn_fieldAddr Try.runUnderlying159 rfl Try.sizeOf2 rfl rfl) ?_
     have f104 := f11.stp (S17.tr (S29.tr (S32.tr (S36.tr (S43.tr (S64.tr (S67.tr (S82.tr S101)))))))) rfl rfl
     obtain ⟨cse105, hre105, hle105⟩ := (f104).gSt hx53
     obtain rfl := Gate.un hre105
     refine WO.k0 rfl rfl rfl rfl (rn_ld Try.isAgg2 rfl rfl (hvC (fun w' hw' => hle105 w' hw' 0 _ rfl) rfl)) ?_
     refine WO.k0 rfl rfl rfl rfl (rn_ld Try.isAgg55 rfl rfl (hvC (f103.ld 3 rfl rfl) rfl)) ?_
     refine WO.k2 rfl rfl rfl rfl (rn_index f104 hx61 Try.runUnderlying55 Try.sizeOf159 rfl rfl rfl rfl) ?_
     refine WO.k2 rfl rfl rfl rfl (rn_fieldAddr Try.runUnderlying159 rfl Try.sizeOf2 rfl rfl) ?_
     obtain ⟨cse106, hre106, hle106⟩ := (f104).gSt hx61
     obtain rfl := Gate.un hre106
     refine WO.k0 rfl rfl rfl rfl (rn_ld Try.isAgg2 rfl rfl (hvC (fun w' hw' => hle106 w' hw' 1 _ rfl) rfl)) ?_
     refine WO.wa ?_
     refine WA.fork2 (fuel := 8) 8 21 (by kernel_rfl) rfl ?_ ?_
     ·
      have f107 := f83.stp S101 rfl rfl
      refine WO.call rfl rfl rfl rfl rfl rfl Try.call117 (s_l31Became_ok (κ := fun b => mp [] 0 (K81 b)) (Sl.map f107.rdc (mp [] 0) rfl rfl) hx56) ?_
      rintro _ w108 ⟨k109, rfl, e110⟩
      obtain ⟨K111, S112, m113⟩ := Ent.mixed (l := []) (κ := K81) e110 12 rfl
      refine ⟨(S112.cl rfl), ?_⟩
      refine WO.wa ?_
      refine WA.fork2 (fuel := 7) 16 21 (by kernel_rfl) rfl ?_ ?_
      ·
       have f115 := f107.stp S112 rfl rfl
       refine WO.call rfl rfl rfl rfl rfl rfl Try.call117 (s_l31Became_ok (κ := fun b => mp [] 0 (K111 b)) (Sl.map f115.rdc (mp [] 0) rfl rfl) hx64) ?_
       rintro _ w116 ⟨k117, rfl, e118⟩
       obtain ⟨K119, S120, m121⟩ := Ent.mixed (l := []) (κ := K111) e118 14 rfl
       refine ⟨((S112.tr S120).cl rfl), ?_⟩
       refine WO.wa ?_
       refine WA.fork2 (fuel := 6) 17 21 (by kernel_rfl) rfl ?_ ?_
       ·
        have f123 := f84.stp (S101.tr (S112.tr S120)) rfl rfl
        have f124 := f85.stp (S101.tr (S112.tr S120)) rfl rfl
        have f125 := f86.stp (S101.tr (S112.tr S120)) rfl rfl
        refine WO.call rfl rfl rfl rfl rfl rfl Try.call116 (s_l31Join_ok (κ := fun b => mp [(9, 2), (10, 3), (11, 4)] 0 (K119 b)) (p0 := (⟨s4.2.1, s4.2.2.1, s4.2.2.2.1, s4.2.2.2.2.1, s4.2.2.2.2.2⟩ : Circuit)) (f123.map (mp [(9, 2), (10, 3), (11, 4)] 0) rfl rfl) (f124.map (mp [(9, 2), (10, 3), (11, 4)] 0) rfl rfl) (f125.map (mp [(9, 2), (10, 3), (11, 4)] 0) rfl rfl) hx65) ?_
        rintro _ w126 ⟨k127, a65_0, u65_0, a65_1, u65_1, a65_2, u65_2, rfl, e128, f129, f130, f131⟩
        obtain ⟨K132, S133, m134⟩ := Ent.mixed (l := [(9, 2), (10, 3), (11, 4)]) (κ := K119) e128 16 rfl
        refine ⟨((S112.tr (S120.tr S133)).cl rfl), ?_⟩
        have f136 := f129.mx (no_int _) m134 rfl (rfl : 16 + 5 = 21)
        have f137 := f130.mx Gate.no159 m134 rfl (rfl : 16 + 6 = 22)
        have f138 := f131.mx (no_int _) m134 rfl (rfl : 16 + 7 = 23)
        refine WO.wa ?_
        refine WA.seg (fuel := 0) [(18, 2), (19, 2), (20, 2), (21, 1), (22, 1), (23, 2)] (by kernel_rfl) (by kernel_rfl) rfl ?_
        refine WO.pn 3 rfl ?_
        refine WO.alloc (κ := K132) 24 rfl rfl rfl rfl rfl Try.zeroValue57 rfl fun b8 w139 K140 S141 f142 => ⟨((S112.tr (S120.tr (S133.tr S141))).cl rfl), ?_⟩
        refine WO.stB0 (κ := K140) 24 (vc := [.int .i64 x65.1.Inputs, .int .i64 x65.1.Latches, .slice a65_0 x65.1.Next.length u65_0, .slice a65_1 x65.1.Gates.length u65_1, .slice a65_2 x65.1.Outs.length u65_2]) rfl rfl rfl rfl rfl rfl rfl Try.sizeOf57 rfl rfl f142 rfl fun w143 S144 f145 => ⟨((S112.tr (S120.tr (S133.tr (S141.tr S144)))).cl rfl), ?_⟩
        refine WO.pn 1 rfl ?_
        refine WO.wa ?_
        refine WA.last [] (by kernel_rfl) (by kernel_rfl) rfl ?_
        refine WO.fin ?_
        have f146 := f136.stp (S141.tr S144) rfl rfl
        have f147 := f137.stp (S141.tr S144) rfl rfl
        have f148 := f138.stp (S141.tr S144) rfl rfl
        exact DN.meet _ ⟨(fun b => ren [(21, 12), (22, 13), (23, 14), (24, 15)] (K140 b)), b8, a65_0, u65_0, a65_1, u65_1, a65_2, u65_2, rfl, (Stp.ren ((S101.tr (S112.tr (S120.tr (S133.tr (S141.tr S144))))).wk rfl) [(21, 12), (22, 13), (23, 14), (24, 15)] rfl), (f146.map (ren [(21, 12), (22, 13), (23, 14), (24, 15)]) rfl rfl), (f147.map (ren [(21, 12), (22, 13), (23, 14), (24, 15)]) rfl rfl), (f148.map (ren [(21, 12), (22, 13), (23, 14), (24, 15)]) rfl rfl), (f145.map (ren [(21, 12), (22, 13), (23, 14), (24, 15)]) rfl rfl)⟩ fun a ha => (ha.more (ha.more (ha.more (ha.more (ha.more (ha.more (ha.more (ha.more ha.nil rfl) rfl) rfl) rfl) rfl) rfl) rfl) rfl)
       ·
        refine WO.alloc (κ := K119) 16 rfl rfl rfl rfl rfl Try.zeroValue57 rfl fun b8 w149 K150 S151 f152 => ⟨((S112.tr (S120.tr S151)).cl rfl), ?_⟩
        refine WO.wa ?_
        refine WA.seg (fuel := 0) [(17, 1), (18, 2), (19, 2), (20, 2), (22, 1), (23, 2)] (by kernel_rfl) (by kernel_rfl) rfl ?_
        have f153 := f84.stp (S101.tr (S112.tr (S120.tr S151))) rfl rfl
        have f154 := f85.stp (S101.tr (S112.tr (S120.tr S151))) rfl rfl
        have f155 := f86.stp (S101.tr (S112.tr (S120.tr S151))) rfl rfl
        refine WO.call rfl rfl rfl rfl rfl rfl Try.call116 (s_l31Join_ok (κ := fun b => mp [(9, 2), (10, 3), (11, 4)] 0 (K150 b)) (p0 := (⟨s4.2.1, s4.2.2.1, s4.2.2.2.1, s4.2.2.2.2.1, s4.2.2.2.2.2⟩ : Circuit)) (f153.map (mp [(9, 2), (10, 3), (11, 4)] 0) rfl rfl) (f154.map (mp [(9, 2), (10, 3), (11, 4)] 0) rfl rfl) (f155.map (mp [(9, 2), (10, 3), (11, 4)] 0) rfl rfl) hx65) ?_
        rintro _ w156 ⟨k157, a65_0, u65_0, a65_1, u65_1, a65_2, u65_2, rfl, e158, f159, f160, f161⟩
        obtain ⟨K162, S163, m164⟩ := Ent.mixed (l := [(9, 2), (10, 3), (11, 4)]) (κ := K150) e158 17 rfl
        refine ⟨((S112.tr (S120.tr (S151.tr S163))).cl rfl), ?_⟩
        have f166 := f159.mx (no_int _) m164 rfl (rfl : 17 + 5 = 22)
        have f167 := f160.mx Gate.no159 m164 rfl (rfl : 17 + 6 = 23)
        have f168 := f161.mx (no_int _) m164 rfl (rfl : 17 + 7 = 24)
        refine WO.pn 3 rfl ?_
        have f169 := f152.stp S163 rfl rfl
        refine WO.stB0 (κ := K162) 16 (vc := [.int .i64 x65.1.Inputs, .int .i64 x65.1.Latches, .slice a65_0 x65.1.Next.length u65_0, .slice a65_1 x65.1.Gates.length u65_1, .slice a65_2 x65.1.Outs.length u65_2]) rfl rfl rfl rfl rfl rfl rfl Try.sizeOf57 rfl rfl f169 rfl fun w170 S171 f172 => ⟨((S112.tr (S120.tr (S151.tr (S163.tr S171)))).cl rfl), ?_⟩
        refine WO.pn 1 rfl ?_
        refine WO.wa ?_
        refine WA.last [] (by kernel_rfl) (by kernel_rfl) rfl ?_
        refine WO.fin ?_
        have f173 := f166.stp S171 rfl rfl
        have f174 := f167.stp S171 rfl rfl
        have f175 := f168.stp S171 rfl rfl
        exact DN.meet _ ⟨(fun b => ren [(22, 12), (23, 13), (24, 14), (16, 15)] (K162 b)), b8, a65_0, u65_0, a65_1, u65_1, a65_2, u65_2, rfl, (Stp.ren ((S101.tr (S112.tr (S120.tr (S151.tr (S163.tr S171))))).wk rfl) [(22, 12), (23, 13), (24, 14), (16, 15)] rfl), (f173.map (ren [(22, 12), (23, 13), (24, 14), (16, 15)]) rfl rfl), (f174.map (ren [(22, 12), (23, 13), (24, 14), (16, 15)]) rfl rfl), (f175.map (ren [(22, 12), (23, 13), (24, 14), (16, 15)]) rfl rfl), (f172.map (ren [(22, 12), (23, 13), (24, 14), (16, 15)]) rfl rfl)⟩ fun a ha => (ha.more (ha.more (ha.more (ha.more (ha.more (ha.more (ha.more (ha.more ha.nil rfl) rfl) rfl) rfl) rfl) rfl) rfl) rfl)
      ·
       refine WO.alloc (κ := K111) 14 rfl rfl rfl rfl rfl Try.zeroValue57 rfl fun b8 w176 K177 S178 f179 => ⟨((S112.tr S178).cl rfl), ?_⟩
       refine WO.wa ?_
       refine WA.seg (fuel := 0) [(16, 1), (17, 1), (18, 2), (19, 2), (20, 2), (22, 1), (23, 2)] (by kernel_rfl) (by kernel_rfl) rfl ?_
       have f180 := f107.stp (S112.tr S178) rfl rfl
       refine WO.call rfl rfl rfl rfl rfl rfl Try.call117 (s_l31Became_ok (κ := fun b => mp [] 0 (K177 b)) (Sl.map f180.rdc (mp [] 0) rfl rfl) hx64) ?_
       rintro _ w181 ⟨k182, rfl, e183⟩
       obtain ⟨K184, S185, m186⟩ := Ent.mixed (l := []) (κ := K177) e183 15 rfl
       refine ⟨((S112.tr (S178.tr S185)).cl rfl), ?_⟩
       have f188 := f84.stp (S101.tr (S112.tr (S178.tr S185))) rfl rfl
       have f189 := f85.stp (S101.tr (S112.tr (S178.tr S185))) rfl rfl
       have f190 := f86.stp (S101.tr (S112.tr (S178.tr S185))) rfl rfl
       refine WO.call rfl rfl rfl rfl rfl rfl Try.call116 (s_l31Join_ok (κ := fun b => mp [(9, 2), (10, 3), (11, 4)] 0 (K184 b)) (p0 := (⟨s4.2.1, s4.2.2.1, s4.2.2.2.1, s4.2.2.2.2.1, s4.2.2.2.2.2⟩ : Circuit)) (f188.map (mp [(9, 2), (10, 3), (11, 4)] 0) rfl rfl) (f189.map (mp [(9, 2), (10, 3), (11, 4)] 0) rfl rfl) (f190.map (mp [(9, 2), (10, 3), (11, 4)] 0) rfl rfl) hx65) ?_
       rintro _ w191 ⟨k192, a65_0, u65_0, a65_1, u65_1, a65_2, u65_2, rfl, e193, f194, f195, f196⟩
       obtain ⟨K197, S198, m199⟩ := Ent.mixed (l := [(9, 2), (10, 3), (11, 4)]) (κ := K184) e193 17 rfl
       refine ⟨((S112.tr (S178.tr (S185.tr S198))).cl rfl), ?_⟩
       have f201 := f194.mx (no_int _) m199 rfl (rfl : 17 + 5 = 22)
       have f202 := f195.mx Gate.no159 m199 rfl (rfl : 17 + 6 = 23)
       have f203 := f196.mx (no_int _) m199 rfl (rfl : 17 + 7 = 24)
       refine WO.pn 3 rfl ?_
       have f204 := f179.stp (S185.tr S198) rfl rfl
       refine WO.stB0 (κ := K197) 14 (vc := [.int .i64 x65.1.Inputs, .int .i64 x65.1.Latches, .slice a65_0 x65.1.Next.length u65_0, .slice a65_1 x65.1.Gates.length u65_1, .slice a65_2 x65.1.Outs.length u65_2]) rfl rfl rfl rfl rfl rfl rfl Try.sizeOf57 rfl rfl f204 rfl fun w205 S206 f207 => ⟨((S112.tr (S178.tr (S185.tr (S198.tr S206)))).cl rfl), ?_⟩
       refine WO.pn 1 rfl ?_
       refine WO.wa ?_
       refine WA.last [] (by kernel_rfl) (by kernel_rfl) rfl ?_
       refine WO.fin ?_
       have f208 := f201.stp S206 rfl rfl
       have f209 := f202.stp S206 rfl rfl
       have f210 := f203.stp S206 rfl rfl
       exact DN.meet _ ⟨(fun b => ren [(22, 12), (23, 13), (24, 14), (14, 15)] (K197 b)), b8, a65_0, u65_0, a65_1, u65_1, a65_2, u65_2, rfl, (Stp.ren ((S101.tr (S112.tr (S178.tr (S185.tr (S198.tr S206))))).wk rfl) [(22, 12), (23, 13), (24, 14), (14, 15)] rfl), (f208.map (ren [(22, 12), (23, 13), (24, 14), (14, 15)]) rfl rfl), (f209.map (ren [(22, 12), (23, 13), (24, 14), (14, 15)]) rfl rfl), (f210.map (ren [(22, 12), (23, 13), (24, 14), (14, 15)]) rfl rfl), (f207.map (ren [(22, 12), (23, 13), (24, 14), (14, 15)]) rfl rfl)⟩ fun a ha => (ha.more (ha.more (ha.more (ha.more (ha.more (ha.more (ha.more (ha.more ha.nil rfl) rfl) rfl) rfl) rfl) rfl) rfl) rfl)
     ·
      refine WO.alloc (κ := K81) 12 rfl rfl rfl rfl rfl Try.zeroValue57 rfl fun b8 w211 K212 S213 f214 => ⟨(S213.cl rfl), ?_⟩
      refine WO.wa ?_
      refine WA.seg (fuel := 0) [(8, 1), (16, 1), (17, 1), (18, 2), (19, 2), (20, 2), (22, 1), (23, 2)] (by kernel_rfl) (by kernel_rfl) rfl ?_
      have f215 := f83.stp (S101.tr S213) rfl rfl
      refine WO.call rfl rfl rfl rfl rfl rfl Try.call117 (s_l31Became_ok (κ := fun b => mp [] 0 (K212 b)) (Sl.map f215.rdc (mp [] 0) rfl rfl) hx56) ?_
      rintro _ w216 ⟨k217, rfl, e218⟩
      obtain ⟨K219, S220, m221⟩ := Ent.mixed (l := []) (κ := K212) e218 13 rfl
      refine ⟨((S213.tr S220).cl rfl), ?_⟩
      have f223 := f215.stp S220 rfl rfl
      refine WO.call rfl rfl rfl rfl rfl rfl Try.call117 (s_l31Became_ok (κ := fun b => mp [] 0 (K219 b)) (Sl.map f223.rdc (mp [] 0) rfl rfl) hx64) ?_
      rintro _ w224 ⟨k225, rfl, e226⟩
      obtain ⟨K227, S228, m229⟩ := Ent.mixed (l := []) (κ := K219) e226 15 rfl
      refine ⟨((S213.tr (S220.tr S228)).cl rfl), ?_⟩
      have f231 := f84.stp (S101.tr (S213.tr (S220.tr S228))) rfl rfl
      have f232 := f85.stp (S101.tr (S213.tr (S220.tr S228))) rfl rfl
      have f233 := f86.stp (S101.tr (S213.tr (S220.tr S228))) rfl rfl
      refine WO.call rfl rfl rfl rfl rfl rfl Try.call116 (s_l31Join_ok (κ := fun b => mp [(9, 2), (10, 3), (11, 4)] 0 (K227 b)) (p0 := (⟨s4.2.1, s4.2.2.1, s4.2.2.2.1, s4.2.2.2.2.1, s4.2.2.2.2.2⟩ : Circuit)) (f231.map (mp [(9, 2), (10, 3), (11, 4)] 0) rfl rfl) (f232.map (mp [(9, 2), (10, 3), (11, 4)] 0) rfl rfl) (f233.map (mp [(9, 2), (10, 3), (11, 4)] 0) rfl rfl) hx65) ?_
      rintro _ w234 ⟨k235, a65_0, u65_0, a65_1, u65_1, a65_2, u65_2, rfl, e236, f237, f238, f239⟩
      obtain ⟨K240, S241, m242⟩ := Ent.mixed (l := [(9, 2), (10, 3), (11, 4)]) (κ := K227) e236 17 rfl
      refine ⟨((S213.tr (S220.tr (S228.tr S241))).cl rfl), ?_⟩
      have f244 := f237.mx (no_int _) m242 rfl (rfl : 17 + 5 = 22)
      have f245 := f238.mx Gate.no159 m242 rfl (rfl : 17 + 6 = 23)
      have f246 := f239.mx (no_int _) m242 rfl (rfl : 17 + 7 = 24)
      refine WO.pn 3 rfl ?_
      have f247 := f214.stp (S220.tr (S228.tr S241)) rfl rfl
      refine WO.stB0 (κ := K240) 12 (vc := [.int .i64 x65.1.Inputs, .int .i64 x65.1.Latches, .slice a65_0 x65.1.Next.length u65_0, .slice a65_1 x65.1.Gates.length u65_1, .slice a65_2 x65.1.Outs.length u65_2]) rfl rfl rfl rfl rfl rfl rfl Try.sizeOf57 rfl rfl f247 rfl fun w248 S249 f250 => ⟨((S213.tr (S220.tr (S228.tr (S241.tr S249)))).cl rfl), ?_⟩
      refine WO.pn 1 rfl ?_
      refine WO.wa ?_
      refine WA.last [] (by kernel_rfl) (by kernel_rfl) rfl ?_
      refine WO.fin ?_
      have f251 := f244.stp S249 rfl rfl
      have f252 := f245.stp S249 rfl rfl
      have f253 := f246.stp S249 rfl rfl
      exact DN.meet _ ⟨(fun b => ren [(22, 12), (23, 13), (24, 14), (12, 15)] (K240 b)), b8, a65_0, u65_0, a65_1, u65_1, a65_2, u65_2, rfl, (Stp.ren ((S101.tr (S213.tr (S220.tr (S228.tr (S241.tr S249))))).wk rfl) [(22, 12), (23, 13), (24, 14), (12, 15)] rfl), (f251.map (ren [(22, 12), (23, 13), (24, 14), (12, 15)]) rfl rfl), (f252.map (ren [(22, 12), (23, 13), (24, 14), (12, 15)]) rfl rfl), (f253.map (ren [(22, 12), (23, 13), (24, 14), (12, 15)]) rfl rfl), (f250.map (ren [(22, 12), (23, 13), (24, 14), (12, 15)]) rfl rfl)⟩ fun a ha => (ha.more (ha.more (ha.more (ha.more (ha.more (ha.more (ha.more (ha.more ha.nil rfl) rfl) rfl) rfl) rfl) rfl) rfl) rfl)
    rintro _ w92 ⟨K93, b8, lar95_0, lur95_0, lar95_1, lur95_1, lar95_2, lur95_2, rfl, S94, f96, f97, f98, f99⟩
    refine DN.seq ?_
    refine WC.seq ?_
    refine WC.rs [(0, 1), (1, 1)] rfl ?_
    refine WO.k1 trivial rfl rfl rfl rfl (rn_la (cs := [.int .i64 x65.1.Inputs, .int .i64 x65.1.Latches, .slice lar95_0 x65.1.Next.length lur95_0, .slice lar95_1 x65.1.Gates.length lur95_1, .slice lar95_2 x65.1.Outs.length lur95_2]) Try.isAgg57 Try.sizeOf57 rfl rfl rfl (haE f99.cells)) ?_
    have f254 := f87.stp S94 rfl rfl
    refine WO.stB0 (κ := K93) 8 (vc := [.int .i64 x65.1.Inputs, .int .i64 x65.1.Latches, .slice lar95_0 x65.1.Next.length lur95_0, .slice lar95_1 x65.1.Gates.length lur95_1, .slice lar95_2 x65.1.Outs.length lur95_2]) rfl rfl rfl rfl rfl rfl rfl Try.sizeOf57 rfl rfl f254 rfl fun w255 S256 f257 => ⟨trivial, ?_⟩
    refine WO.fin ?_
    refine DN.seq ?_
    refine WC.rs [(0, 2), (1, 2), (2, 1), (3, 1), (4, 2)] rfl ?_
    refine WO.pn 2 rfl ?_
    refine WO.bl (κ := K93) (E := (Ep.int .i64)) 16 [] (parts := [(0, .tmp 70)]) (cells := [.int .i64 x65.2]) (xs := ([x65.2] : List Int)) rfl rfl rfl rfl rfl rfl Try.underlying22 Tryinfo2 rfl rfl rfl rfl rfl rfl rfl rfl rfl rfl ⟨[.int .i64 x65.2], [], Zl K93 w255 [], Zl K93 w255 [], rfl, Zl.sp (l1 := []) (l2 := []) rfl, Zl.sr (l1 := []) (l2 := []), rfl, rfl⟩ fun a71 u71 w258 K259 S260 f261 => ⟨trivial, ?_⟩
    obtain ⟨x72, hx72, h⟩ := Option.bind_eq_some_iff.mp h
    have f262 := f83.stp (S94.tr (S256.tr S260)) rfl rfl
    refine WO.app (κ := K259) (E := (Ep.int .i64)) 7 [] rfl rfl rfl rfl rfl rfl rfl rfl rfl Try.underlying22 Tryinfo2 rfl rfl rfl rfl f262 (Sl.srcP (pu_int _) f261.rdc) sy_false hx72 rfl fun a72 u72 w263 K264 S265 f266 => ⟨trivial, ?_⟩
    refine WO.pn 1 rfl ?_
    refine WO.fin ?_
    refine DN.block ?_
    refine DN.seq ?_
    refine WC.rs [(0, 2), (1, 2), (2, 2)] rfl ?_
    refine WO.pn 3 rfl ?_
    refine WO.fin ?_
    have hw69 : IntKind.wrap .i64 (v7 + 1) = v7 + 1 := wr1 hj69 (of_decide_eq_true hc69) hN69
    rw [hw69]
    have hc69 := of_decide_eq_true hc69
    have f267 := f96.stp (S256.tr (S260.tr S265)) rfl rfl
    have f268 := f97.stp (S256.tr (S260.tr S265)) rfl rfl
    have f269 := f98.stp (S256.tr (S260.tr S265)) rfl rfl
    have f270 := f257.stp (S260.tr S265) rfl rfl
    obtain rfl := Option.some.inj h
    refine DN.round fun a ha => ?_
    exact ⟨k, _, Nat.lt_succ_self _, ⟨(fun b => ren [(12, 9), (13, 10), (14, 11)] (K264 b)), v7 + 1, ((x72 : (List Int)), (x65.1.Inputs : Int), (x65.1.Latches : Int), (x65.1.Next : (List Int)), (x65.1.Gates : (List Gate)), (x65.1.Outs : (List Int))), a72, u72, lar95_0, lur95_0, lar95_1, lur95_1, lar95_2, lur95_2, rfl, (Stp.ren ((S82.tr (S94.tr (S256.tr (S260.tr S265)))).wk rfl) [(12, 9), (13, 10), (14, 11)] rfl), (f266.map (ren [(12, 9), (13, 10), (14, 11)]) rfl rfl), (f267.map (ren [(12, 9), (13, 10), (14, 11)]) rfl rfl), (f268.map (ren [(12, 9), (13, 10), (14, 11)]) rfl rfl), (f269.map (ren [(12, 9), (13, 10), (14, 11)]) rfl rfl), (f270.map (ren [(12, 9), (13, 10), (14, 11)]) rfl rfl), by omega, by omega, hk89⟩, (ha.more (ha.more (ha.more (ha.more (ha.more (ha.more ha.nil rfl) rfl) rfl) rfl) rfl) rfl)⟩
  rintro _ w72 ⟨K73, s6, las6_0, lus6_0, las6_1, lus6_1, las6_2, lus6_2, las6_3, lus6_3, rfl, S74, f75, f76, f77, f78, f79, rfl⟩
  have h := hK70
  dsimp only [aft] at h
  refine DN.seq ?_
  refine WC.seq ?_
  refine WC.rs [(0, 1), (1, 1), (2, 2), (3, 1), (4, 1)] rfl ?_
  have f271 := f26.stp (S29.tr (S32.tr (S36.tr (S43.tr (S64.tr (S67.tr S74)))))) rfl rfl
  refine WO.k1 trivial rfl rfl rfl rfl (rn_la (cs := [.int .i64 p0.Inputs, .int .i64 p0.Latches, .slice a0_2 p0.Next.length u0_2, .slice a0_3 p0.Gates.length u0_3, .slice a0_4 p0.Outs.length u0_4]) Try.isAgg57 Try.sizeOf57 rfl rfl rfl (haE f271.cells)) ?_
  refine WO.k1 trivial rfl rfl rfl rfl (rn_la (cs := [.int .i64 s6.2.1, .int .i64 s6.2.2.1, .slice las6_1 s6.2.2.2.1.length lus6_1, .slice las6_2 s6.2.2.2.2.1.length lus6_2, .slice las6_3 s6.2.2.2.2.2.length lus6_3]) Try.isAgg57 Try.sizeOf57 rfl rfl rfl (haE f79.cells)) ?_
  refine WO.pn 1 rfl ?_
  obtain ⟨K272, S273, z274⟩ := fz_ex K73 w72 10
  have f275 := Sl.st z274 f77.rdc
  have f276 := f75.stp S273 rfl rfl
  obtain ⟨K277, S278, z279⟩ := fz_ex K272 w72 7
  have f280 := Sl.st z279 f276.rdc
  obtain ⟨x76, hx76, h⟩ := Option.bind_eq_some_iff.mp h
  have f281 := f10.stp (S17.tr (S29.tr (S32.tr (S36.tr (S43.tr (S64.tr (S67.tr (S74.tr (S273.tr S278))))))))) rfl rfl
  have f282 := f11.stp (S17.tr (S29.tr (S32.tr (S36.tr (S43.tr (S64.tr (S67.tr (S74.tr (S273.tr S278))))))))) rfl rfl
  have f283 := f12.stp (S17.tr (S29.tr (S32.tr (S36.tr (S43.tr (S64.tr (S67.tr (S74.tr (S273.tr S278))))))))) rfl rfl
  have f284 := f76.stp (S273.tr S278) rfl rfl
  have f285 := f275.stp S278 rfl rfl
  have f286 := f78.stp (S273.tr S278) rfl rfl
  refine WO.call rfl rfl rfl rfl rfl rfl Try.call118 (s_l31Ends_ok (κ := fun b => mp [(9, 2), (11, 3)] 1 (K277 b)) (p0 := p0) (p1 := (⟨s6.2.1, s6.2.2.1, s6.2.2.2.1, s6.2.2.2.2.1, s6.2.2.2.2.2⟩ : Circuit)) (Sl.map f281 (mp [(9, 2), (11, 3)] 1) rfl rfl) (Sl.map f282 (mp [(9, 2), (11, 3)] 1) rfl rfl) (Sl.map f283 (mp [(9, 2), (11, 3)] 1) rfl rfl) (f284.map (mp [(9, 2), (11, 3)] 1) rfl rfl) (Sl.map f285 (mp [(9, 2), (11, 3)] 1) rfl rfl) (f286.map (mp [(9, 2), (11, 3)] 1) rfl rfl) (Sl.map f280 (mp [(9, 2), (11, 3)] 1) rfl rfl) hx76) ?_
  rintro _ w287 ⟨k288, a76_0, u76_0, a76_1, u76_1, a76_2, u76_2, rfl, e289, f290, f291, f292⟩
  obtain ⟨K293, S294, m295, z296⟩ := Ent.mixed0 (l := [(9, 2), (11, 3)]) (κ := K277) e289 12 rfl
  refine ⟨trivial, ?_⟩
  have f297 := f290.mx (no_int _) m295 rfl (rfl : 12 + 4 = 16)
  have f298 := f291.mx z296
  have f299 := f292.mx (no_int _) m295 rfl (rfl : 12 + 6 = 18)
  have f300 := f79.stp (S273.tr (S278.tr S294)) rfl rfl
  refine WO.stB0 (κ := K293) 8 (vc := [.int .i64 x76.Inputs, .int .i64 x76.Latches, .slice a76_0 x76.Next.length u76_0, .slice a76_1 x76.Gates.length u76_1, .slice a76_2 x76.Outs.length u76_2]) rfl rfl rfl rfl rfl rfl rfl Try.sizeOf57 rfl rfl f300 rfl fun w301 S302 f303 => ⟨trivial, ?_⟩
  refine WO.fin ?_
  refine DN.seq ?_
  refine WC.seq ?_
  refine WC.rs [(0, 1), (1, 1), (2, 2)] rfl ?_
  refine WO.k1 trivial rfl rfl rfl rfl (rn_la (cs := [.int .i64 x76.Inputs, .int .i64 x76.Latches, .slice a76_0 x76.Next.length u76_0, .slice a76_1 x76.Gates.length u76_1, .slice a76_2 x76.Outs.length u76_2]) Try.isAgg57 Try.sizeOf57 rfl rfl rfl (haE f303.cells)) ?_
  obtain ⟨x78, hx78, h⟩ := Option.bind_eq_some_iff.mp h
  have f304 := f297.stp S302 rfl rfl
  have f305 := f298.stp S302 rfl rfl
  have f306 := f299.stp S302 rfl rfl
  refine WO.call rfl rfl rfl rfl rfl rfl Try.call119 (s_l31Needed_ok (κ := fun b => mp [] 0 (K293 b)) (p0 := x76) (Sl.map f304.rdc (mp [] 0) rfl rfl) (Sl.map f305 (mp [] 0) rfl rfl) (Sl.map f306.rdc (mp [] 0) rfl rfl) hx78) ?_
  rintro _ w307 ⟨k308, a78_0, u78_0, rfl, e309, f310⟩
  obtain ⟨K311, S312, m313⟩ := Ent.mixed (l := []) (κ := K293) e309 19 rfl
  refine ⟨trivial, ?_⟩
  have f315 := f310.mx no_bool m313 rfl (rfl : 19 + 2 = 21)
  refine WO.pn 1 rfl ?_
  refine WO.fin ?_
  refine DN.seq ?_
  refine WC.seq ?_
  refine WC.rs [(0, 1), (1, 1), (2, 1)] rfl ?_
  have f316 := f61.stp (S64.tr (S67.tr (S74.tr (S273.tr (S278.tr (S294.tr (S302.tr S312))))))) rfl rfl
  refine WO.k1 trivial rfl rfl rfl rfl (rn_la (cs := [.int .i64 p0.Inputs, .int .i64 p0.Latches, .slice none 0 0, .slice none 0 0, .slice none 0 0]) Try.isAgg57 Try.sizeOf57 rfl rfl rfl (haE f316.cells)) ?_
  refine WO.alloc (κ := K311) 22 rfl rfl rfl rfl rfl Try.zeroValue57 rfl fun b11 w317 K318 S319 f320 => ⟨trivial, ?_⟩
  refine WO.stB0 (κ := K318) 22 (vc := [.int .i64 p0.Inputs, .int .i64 p0.Latches, .slice none 0 0, .slice none 0 0, .slice none 0 0]) rfl rfl rfl rfl rfl rfl rfl Try.sizeOf57 rfl rfl f320 rfl fun w321 S322 f323 => ⟨trivial, ?_⟩
  refine WO.fin ?_
  refine DN.seq ?_
  refine WC.seq ?_
  refine WC.rs [(0, 1), (1, 2)] rfl ?_
  refine WO.bl0 (κ := K318) (E := (Ep.int .i64)) 23 rfl rfl rfl rfl rfl Try.underlying22 Tryinfo2 rfl fun a80 u80 w324 K325 S326 f327 => ⟨trivial, ?_⟩
  refine WO.pn 1 rfl ?_
  refine WO.fin ?_
  refine DN.seq ?_
  refine WC.seq ?_
  refine WC.seq ?_
  refine WC.rs [(0, 2)] rfl ?_
  refine WO.pn 1 rfl ?_
  refine WO.fin ?_
  refine DN.seq ?_
  obtain ⟨q8, hq330, hK329⟩ := Option.bind_eq_some_iff.mp h
  clear h
  refine WC.meet (fun L w' => ∃ (κ' : Col) (s9 : (List Int) × Int × (List Gate)) (las9_0 : Option Addr) (lus9_0 : Nat) (las9_1 : Option Addr) (lus9_1 : Nat), L = [(2, .pointer (some ⟨b2, 0, none⟩)), (6, .pointer (some ⟨b6, 0, none⟩)), (11, .pointer (some ⟨b11, 0, none⟩)), (12, .slice las9_0 s9.1.length lus9_0)] ∧ Stp [22, 23, 24] K325 w324 κ' w' ∧ Oc (Ep.int .i64) 2 κ' w' 23 las9_0 lus9_0 s9.1 ∧ Oc Gate.ep159 159 κ' w' 24 las9_1 lus9_1 s9.2.2 ∧ Bc κ' w' 22 b11 57 [.int .i64 p0.Inputs, .int .i64 p0.Latches, .slice none 0 0, .slice las9_1 s9.2.2.length lus9_1, .slice none 0 0] ∧ q8 = Sum.inr s9) ?_ ?_
  ·
   refine WC.block ?_
   have f343 := f323.stp S326 rfl rfl
   refine WC.loop (fun k L w' => ∃ (κ' : Col) (s7 : (List Int) × Int × (List Gate)) (las7_0 : Option Addr) (lus7_0 : Nat) (las7_1 : Option Addr) (lus7_1 : Nat), L = [(1, .pointer (some ⟨b1, 0, none⟩)), (2, .pointer (some ⟨b2, 0, none⟩)), (6, .pointer (some ⟨b6, 0, none⟩)), (10, .slice a78_0 x78.length u78_0), (11, .pointer (some ⟨b11, 0, none⟩)), (12, .slice las7_0 s7.1.length lus7_0), (13, .int .i64 s7.2.1)] ∧ Stp [22, 23, 24] K325 w324 κ' w' ∧ Oc (Ep.int .i64) 2 κ' w' 23 las7_0 lus7_0 s7.1 ∧ Oc Gate.ep159 159 κ' w' 24 las7_1 lus7_1 s7.2.2 ∧ Bc κ' w' 22 b11 57 [.int .i64 p0.Inputs, .int .i64 p0.Latches, .slice none 0 0, .slice las7_1 s7.2.2.length lus7_1, .slice none 0 0] ∧ whileM (s_TidiedCircuit_b4 p0 x76 x78) k s7 = some q8) ⟨_, _, ⟨K325, ((([] : List Int) : (List Int)), (0 : Int), (([] : List Gate) : (List Gate))), a80, u80, none, 0, rfl, (Stp.refl _ _).wk rfl, f327, Ow.nil, f343, hq330⟩, fun a ha => (ha.more (ha.more (ha.more (ha.more (ha.more (ha.more (ha.more ha.nil rfl) rfl) rfl) rfl) rfl) rfl) rfl)⟩ ?_
   rintro k _ w337 ⟨K338, s7, las7_0, lus7_0, las7_1, lus7_1, rfl, S339, f340, f341, f342, h⟩
   rcases k with _ | k
   ·
    cases h
   ·
    obtain ⟨o328, h, hk344⟩ := Option.bind_eq_some_iff.mp h; unfold s_TidiedCircuit_b4 at h
    refine WC.seq ?_
    refine WC.seq ?_
    refine WC.rs [(0, 2), (1, 1), (2, 1), (3, 2)] rfl ?_
    refine WO.pn 1 rfl ?_
    have f345 := f303.stp (S312.tr (S319.tr (S322.tr (S326.tr S339)))) rfl rfl
    refine WO.k1 trivial rfl rfl rfl rfl (rn_la (cs := [.int .i64 x76.Inputs, .int .i64 x76.Latches, .slice a76_0 x76.Next.length u76_0, .slice a76_1 x76.Gates.length u76_1, .slice a76_2 x76.Outs.length u76_2]) Try.isAgg57 Try.sizeOf57 rfl rfl rfl (haE f345.cells)) ?_
    obtain ⟨x83, hx83, h⟩ := Option.bind_eq_some_iff.mp h
    have f346 := f304.stp (S312.tr (S319.tr (S322.tr (S326.tr S339)))) rfl rfl
    have f347 := f305.stp (S312.tr (S319.tr (S322.tr (S326.tr S339)))) rfl rfl
    have f348 := f306.stp (S312.tr (S319.tr (S322.tr (S326.tr S339)))) rfl rfl
    refine WO.call rfl rfl rfl rfl rfl rfl Try.call120 (s_l31Signals_ok (κ := fun b => mp [] 0 (K338 b)) (p0 := x76) (Sl.map f346.rdc (mp [] 0) rfl rfl) (Sl.map f347 (mp [] 0) rfl rfl) (Sl.map f348.rdc (mp [] 0) rfl rfl) hx83) ?_
    rintro _ w349 ⟨k350, rfl, e351⟩
    obtain ⟨K352, S353, m354⟩ := Ent.mixed (l := []) (κ := K338) e351 25 rfl
    refine ⟨trivial, ?_⟩
    refine WO.pn 1 rfl ?_
    refine WO.fin ?_
    refine DN.seq ?_
    revert h
    cases ht356 : decide (s7.2.1 < x83) with
    | true =>
     intro h; replace h := cT h
     refine WC.ct rfl ?_
     refine WC.skip ?_
     refine DN.seq ?_
     refine WC.seq ?_
     refine WC.block ?_
     refine WC.seq ?_
     refine WC.rs [(0, 2), (1, 2), (2, 2), (3, 1), (4, 2), (5, 2), (6, 1), (7, 2), (8, 2)] rfl ?_
     refine WO.pn 2 rfl ?_
     refine WO.k2 rfl rfl rfl rfl (rn_fieldAddr Try.runUnderlying57 rfl Try.sizeOf2 rfl rfl) ?_
     have f357 := f271.stp (S273.tr (S278.tr (S294.tr (S302.tr (S312.tr (S319.tr (S322.tr (S326.tr (S339.tr S353))))))))) rfl rfl
     refine WO.k1 trivial rfl rfl rfl rfl (rn_ld Try.isAgg2 rfl rfl (hvE (f357.ld 0 rfl rfl))) ?_
     refine WO.pn 1 rfl ?_
     refine WO.k2 rfl rfl rfl rfl (rn_fieldAddr Try.runUnderlying57 rfl Try.sizeOf2 rfl rfl) ?_
     refine WO.k1 trivial rfl rfl rfl rfl (rn_ld Try.isAgg2 rfl rfl (hvE (f357.ld 1 rfl rfl))) ?_
     refine WO.pn 2 rfl ?_
     refine WO.fin ?_
     refine DN.seq ?_
     refine WC.seq ?_
     refine WC.seq ?_
     refine WC.rs [(0, 2), (1, 2)] rfl ?_
     refine WO.pn 2 rfl ?_
     refine WO.fin ?_
     refine DN.seq ?_
     revert h
     cases ht358 : decide ((IntKind.i64.wrap ((IntKind.i64.wrap ((IntKind.i64.wrap (s7.2.1 - 1)) - p0.Inputs)) - p0.Latches)) < 0) with
     | true =>
      intro h; replace h := cT h
      refine WC.ct rfl ?_
      refine WC.seq ?_
      refine WC.rs [(0, 2), (1, 2), (2, 2), (3, 1), (4, 1), (5, 2)] rfl ?_
      refine WO.pn 3 rfl ?_
      refine WO.bl (κ := K352) (E := (Ep.int .i64)) 27 [] (parts := [(0, .tmp 99)]) (cells := [.int .i64 (IntKind.i64.wrap (2 * s7.2.1))]) (xs := ([(IntKind.i64.wrap (2 * s7.2.1))] : List Int)) rfl rfl rfl rfl rfl rfl Try.underlying22 Tryinfo2 rfl rfl rfl rfl rfl rfl rfl rfl rfl rfl ⟨[.int .i64 (IntKind.i64.wrap (2 * s7.2.1))], [], Zl K352 w349 [], Zl K352 w349 [], rfl, Zl.sp (l1 := []) (l2 := []) rfl, Zl.sr (l1 := []) (l2 := []), rfl, rfl⟩ fun a100 u100 w359 K360 S361 f362 => ⟨trivial, ?_⟩
      obtain ⟨x101, hx101, h⟩ := Option.bind_eq_some_iff.mp h
      have f363 := f340.stp (S353.tr S361) rfl rfl
      refine WO.app (κ := K360) (E := (Ep.int .i64)) 23 [] rfl rfl rfl rfl rfl rfl rfl rfl rfl Try.underlying22 Tryinfo2 rfl rfl rfl rfl f363 (Sl.srcP (pu_int _) f362.rdc) sy_false hx101 rfl fun a101 u101 w364 K365 S366 f367 => ⟨trivial, ?_⟩
      refine WO.pn 1 rfl ?_
      refine WO.fin ?_
      refine DN.seq ?_
      refine WC.exit ?_
      refine DN.exitThen ?_
      refine DN.hit ?_
      refine DN.seq ?_
      refine WC.rs [(0, 2), (1, 2), (2, 2)] rfl ?_
      refine WO.pn 3 rfl ?_
      refine WO.fin ?_
      have f368 := f341.stp (S353.tr (S361.tr S366)) rfl rfl
      have f369 := f342.stp (S353.tr (S361.tr S366)) rfl rfl
      obtain rfl := Option.some.inj h
      refine DN.round fun a ha => ?_
      exact ⟨k, _, Nat.lt_succ_self _, ⟨K365, ((x101 : (List Int)), ((IntKind.i64.wrap (s7.2.1 + 1)) : Int), (s7.2.2 : (List Gate))), a101, u101, las7_1, lus7_1, rfl, (S339.tr (S353.tr (S361.tr S366))).wk rfl, f367, f368, f369, hk344⟩, (ha.more (ha.more (ha.more (ha.more (ha.more (ha.more (ha.more ha.nil rfl) rfl) rfl) rfl) rfl) rfl) rfl)⟩
     | false =>
      intro h; replace h := cF h
      refine WC.cf rfl ?_
      refine WC.skip ?_
      refine DN.seq ?_
      refine WC.seq ?_
      refine WC.rs [(0, 2), (1, 1), (2, 1), (3, 2), (4, 1), (5, 1), (6, 2)] rfl ?_
      refine WO.pn 1 rfl ?_
      have f370 := f342.stp S353 rfl rfl
      refine WO.k1 trivial rfl rfl rfl rfl (rn_la (cs := [.int .i64 p0.Inputs, .int .i64 p0.Latches, .slice none 0 0, .slice las7_1 s7.2.2.length lus7_1, .slice none 0 0]) Try.isAgg57 Try.sizeOf57 rfl rfl rfl (haE f370.cells)) ?_
      obtain ⟨x104, hx104, h⟩ := Option.bind_eq_some_iff.mp h
      have f371 := f341.stp S353 rfl rfl
      refine WO.call rfl rfl rfl rfl rfl rfl Try.call120 (s_l31Signals_ok (κ := fun b => mp [] 0 (K352 b)) (p0 := (⟨p0.Inputs, p0.Latches, ([] : List Int), s7.2.2, ([] : List Int)⟩ : Circuit)) Sl.nil (Sl.map f371.rdc (mp [] 0) rfl rfl) Sl.nil hx104) ?_
      rintro _ w372 ⟨k373, rfl, e374⟩
      obtain ⟨K375, S376, m377⟩ := Ent.mixed (l := []) (κ := K352) e374 27 rfl
      refine ⟨trivial, ?_⟩
      refine WO.pn 1 rfl ?_
      refine WO.bl (κ := K375) (E := (Ep.int .i64)) 29 [] (parts := [(0, .tmp 105)]) (cells := [.int .i64 (IntKind.i64.wrap (2 * x104))]) (xs := ([(IntKind.i64.wrap (2 * x104))] : List Int)) rfl rfl rfl rfl rfl rfl Try.underlying22 Tryinfo2 rfl rfl rfl rfl rfl rfl rfl rfl rfl rfl ⟨[.int .i64 (IntKind.i64.wrap (2 * x104))], [], Zl K375 w372 [], Zl K375 w372 [], rfl, Zl.sp (l1 := []) (l2 := []) rfl, Zl.sr (l1 := []) (l2 := []), rfl, rfl⟩ fun a106 u106 w379 K380 S381 f382 => ⟨trivial, ?_⟩
      obtain ⟨x107, hx107, h⟩ := Option.bind_eq_some_iff.mp h
      have f383 := f340.stp (S353.tr (S376.tr S381)) rfl rfl
      refine WO.app (κ := K380) (E := (Ep.int .i64)) 23 [] rfl rfl rfl rfl rfl rfl rfl rfl rfl Try.underlying22 Tryinfo2 rfl rfl rfl rfl f383 (Sl.srcP (pu_int _) f382.rdc) sy_false hx107 rfl fun a107 u107 w384 K385 S386 f387 => ⟨trivial, ?_⟩
      refine WO.pn 1 rfl ?_
      refine WO.fin ?_
      refine DN.seq ?_
      refine WC.seq ?_
      refine WC.rs [(0, 2), (1, 2), (2, 2), (3, 1)] rfl ?_
      refine WO.pn 2 rfl ?_
      obtain ⟨x110, hx110, h⟩ := Option.bind_eq_some_iff.mp h
      refine WO.k2 rfl rfl rfl rfl (rn_index f315.rdc hx110 Try.runUnderlying131 Try.sizeOf4 rfl rfl rfl rfl) ?_
      have f388 := f315.stp (S319.tr (S322.tr (S326.tr (S339.tr (S353.tr (S376.tr (S381.tr S386))))))) rfl rfl
      refine WO.k1 trivial rfl rfl rfl rfl (rn_ld Try.isAgg4 rfl rfl (hvE (f388.rdc.gBool hx110))) ?_
      refine WO.fin ?_
      refine DN.seq ?_
      obtain ⟨q10, h, hK389⟩ := Option.bind_eq_some_iff.mp h
      refine WC.meet (fun L w' => ∃ (κ' : Col) (laq10_0 : Option Addr) (luq10_0 : Nat), L = [(1, .pointer (some ⟨b1, 0, none⟩)), (2, .pointer (some ⟨b2, 0, none⟩)), (6, .pointer (some ⟨b6, 0, none⟩)), (10, .slice a78_0 x78.length u78_0), (11, .pointer (some ⟨b11, 0, none⟩)), (12, .slice a107 x107.length u107), (13, .int .i64 s7.2.1)] ∧ Stp [22, 24] K385 w384 κ' w' ∧ Oc Gate.ep159 159 κ' w' 24 laq10_0 luq10_0 q10 ∧ Bc κ' w' 22 b11 57 [.int .i64 p0.Inputs, .int .i64 p0.Latches, .slice none 0 0, .slice laq10_0 q10.length luq10_0, .slice none 0 0]) ?_ ?_
      ·
       revert h
       cases ht395 : x110 with
       | true =>
        intro h; replace h := cT h
        refine WC.ct rfl ?_
        refine WC.rx (κ := K385) [0, 8, 22] (some 22) [(0, 2), (2, 2), (3, 2), (5, 2), (10, 2), (11, 2), (13, 2), (1, 0), (4, 0), (6, 2), (7, 2), (8, 0), (12, 0), (14, 2), (15, 2), (16, 0), (9, 1), (17, 1), (18, 2), (19, 1), (20, 1), (21, 2)] [(22, 1)] (by kernel_rfl) (by kernel_rfl) fun w397 S396 => ?_
        refine WO.k2 rfl rfl rfl rfl (rn_fieldAddr Try.runUnderlying57 rfl Try.sizeOf55 rfl rfl) ?_
        refine WO.pn 1 rfl ?_
        refine WO.k2 rfl rfl rfl rfl (rn_fieldAddr Try.runUnderlying57 rfl Try.sizeOf55 rfl rfl) ?_
        refine WO.pn 2 rfl ?_
        refine WO.k2 rfl rfl rfl rfl (rn_fieldAddr Try.runUnderlying57 rfl Try.sizeOf55 rfl rfl) ?_
        refine WO.pn 1 rfl ?_
        have f398 := f370.stp (S376.tr (S381.tr (S386.tr S396))) rfl rfl
        refine WO.k0 rfl rfl rfl rfl (rn_ld Try.isAgg55 rfl rfl (hvC (f398.ld 3 rfl rfl) rfl)) ?_
        have f399 := f345.stp (S353.tr (S376.tr (S381.tr (S386.tr S396)))) rfl rfl
        refine WO.k0 rfl rfl rfl rfl (rn_ld Try.isAgg55 rfl rfl (hvC (f399.ld 3 rfl rfl) rfl)) ?_
        obtain ⟨x118, hx118, h⟩ := Option.bind_eq_some_iff.mp h
        refine WO.k2 rfl rfl rfl rfl (rn_index f347 hx118 Try.runUnderlying55 Try.sizeOf159 rfl rfl rfl rfl) ?_
        refine WO.k2 rfl rfl rfl rfl (rn_fieldAddr Try.runUnderlying159 rfl Try.sizeOf2 rfl rfl) ?_
        have f400 := f347.stp (S353.tr (S376.tr (S381.tr (S386.tr S396)))) rfl rfl
        obtain ⟨cse401, hre401, hle401⟩ := (f400).gSt hx118
        obtain rfl := Gate.un hre401
        refine WO.k0 rfl rfl rfl rfl (rn_ld Try.isAgg2 rfl rfl (hvC (fun w' hw' => hle401 w' hw' 0 _ rfl) rfl)) ?_
        refine WO.k0 rfl rfl rfl rfl (rn_ld Try.isAgg55 rfl rfl (hvC (f399.ld 3 rfl rfl) rfl)) ?_
        obtain ⟨x126, hx126, h⟩ := Option.bind_eq_some_iff.mp h
        refine WO.k2 rfl rfl rfl rfl (rn_index f400 hx126 Try.runUnderlying55 Try.sizeOf159 rfl rfl rfl rfl) ?_
        refine WO.k2 rfl rfl rfl rfl (rn_fieldAddr Try.runUnderlying159 rfl Try.sizeOf2 rfl rfl) ?_
        obtain ⟨cse402, hre402, hle402⟩ := (f400).gSt hx126
        obtain rfl := Gate.un hre402
        refine WO.k0 rfl rfl rfl rfl (rn_ld Try.isAgg2 rfl rfl (hvC (fun w' hw' => hle402 w' hw' 1 _ rfl) rfl)) ?_
        obtain ⟨x121, hx121, h⟩ := Option.bind_eq_some_iff.mp h
        have f403 := f387.stp S396 rfl rfl
        refine WO.call rfl rfl rfl rfl rfl rfl Try.call117 (s_l31Became_ok (κ := fun b => mp [] 0 (K385 b)) (Sl.map f403.rdc (mp [] 0) rfl rfl) hx121) ?_
        rintro _ w404 ⟨k405, rfl, e406⟩
        obtain ⟨K407, S408, m409⟩ := Ent.mixed (l := []) (κ := K385) e406 30 rfl
        refine ⟨(S408.cl rfl), ?_⟩
        obtain ⟨x129, hx129, h⟩ := Option.bind_eq_some_iff.mp h
        have f411 := f403.stp S408 rfl rfl
        refine WO.call rfl rfl rfl rfl rfl rfl Try.call117 (s_l31Became_ok (κ := fun b => mp [] 0 (K407 b)) (Sl.map f411.rdc (mp [] 0) rfl rfl) hx129) ?_
        rintro _ w412 ⟨k413, rfl, e414⟩
        obtain ⟨K415, S416, m417⟩ := Ent.mixed (l := []) (κ := K407) e414 32 rfl
        refine ⟨((S408.tr S416).cl rfl), ?_⟩
        refine WO.k2 rfl rfl rfl rfl (rn_build (parts := [(0, .tmp 121), (1, .tmp 129)]) (cells := [.int .i64 x121, .int .i64 x129]) rfl rfl (by kernel_rfl)) ?_
        refine WO.bl (κ := K415) (E := Gate.ep159) 34 [] (parts := [(0, .tmp 130)]) (cells := [.int .i64 x121, .int .i64 x129]) (xs := ([(⟨x121, x129⟩ : Gate)] : List Gate)) rfl rfl rfl rfl rfl rfl Try.underlying55 Tryinfo159 rfl rfl rfl rfl rfl rfl rfl rfl rfl rfl ⟨[.int .i64 x121, .int .i64 x129], [], Zl K415 w412 [], Zl K415 w412 [], rfl, Zl.sp (l1 := []) (l2 := []) rfl, Zl.sr (l1 := []) (l2 := []), ⟨[.int .i64 x121], [.int .i64 x129], Zl K415 w412 [], Zl K415 w412 [], rfl, Zl.sp (l1 := []) (l2 := []) rfl, Zl.sr (l1 := []) (l2 := []), rfl, rfl⟩, rfl⟩ fun a131 u131 w419 K420 S421 f422 => ⟨((S408.tr (S416.tr S421)).cl rfl), ?_⟩
        obtain ⟨x132, hx132, h⟩ := Option.bind_eq_some_iff.mp h
        have f423 := f371.stp (S376.tr (S381.tr (S386.tr (S396.tr (S408.tr (S416.tr S421)))))) rfl rfl
        refine WO.app (κ := K420) (E := Gate.ep159) 24 [] rfl rfl rfl rfl rfl rfl rfl rfl rfl Try.underlying55 Tryinfo159 rfl rfl rfl rfl f423 (Sl.srcP Gate.pu159 f422.rdc) sy_false hx132 rfl fun a132 u132 w424 K425 S426 f427 => ⟨((S408.tr (S416.tr (S421.tr S426))).cl rfl), ?_⟩
        refine WO.k2 rfl rfl rfl rfl (rn_fieldAddr Try.runUnderlying57 rfl Try.sizeOf55 rfl rfl) ?_
        refine WO.nx ?_
        have f428 := f398.stp (S408.tr (S416.tr (S421.tr S426))) rfl rfl
        refine WO.stB (κ := K425) 22 (off := 3) (vc := [.slice a132 x132.length u132]) (cs' := [.int .i64 p0.Inputs, .int .i64 p0.Latches, .slice none 0 0, .slice a132 x132.length u132, .slice none 0 0]) rfl rfl rfl rfl rfl rfl rfl Try.sizeOf55 rfl rfl f428 rfl rfl fun w429 S430 f431 => ⟨trivial, ?_⟩
        refine WO.fin ?_
        have f432 := f427.stp S430 rfl rfl
        obtain rfl := Option.some.inj h
        exact DN.meet _ ⟨K425, a132, u132, rfl, (S396.tr (S408.tr (S416.tr (S421.tr (S426.tr S430))))).wk rfl, f432, f431⟩ fun a ha => (ha.more (ha.more (ha.more (ha.more (ha.more (ha.more (ha.more ha.nil rfl) rfl) rfl) rfl) rfl) rfl) rfl)
       | false =>
        intro h; replace h := cF h
        refine WC.cf rfl ?_
        refine WC.skip ?_
        have f433 := f371.stp (S376.tr (S381.tr S386)) rfl rfl
        have f434 := f370.stp (S376.tr (S381.tr S386)) rfl rfl
        obtain rfl := Option.some.inj h
        exact DN.meet _ ⟨K385, las7_1, lus7_1, rfl, (Stp.refl _ _).wk rfl, f433, f434⟩ fun a ha => (ha.more (ha.more (ha.more (ha.more (ha.more (ha.more (ha.more ha.nil rfl) rfl) rfl) rfl) rfl) rfl) rfl)
      rintro _ w390 ⟨K391, laq10_0, luq10_0, rfl, S392, f393, f394⟩
      have h := hK389
      refine DN.block ?_
      refine DN.seq ?_
      refine WC.rs [(0, 2), (1, 2), (2, 2)] rfl ?_
      refine WO.pn 3 rfl ?_
      refine WO.fin ?_
      have f435 := f387.stp S392 rfl rfl
      obtain rfl := Option.some.inj h
      refine DN.round fun a ha => ?_
      exact ⟨k, _, Nat.lt_succ_self _, ⟨K391, ((x107 : (List Int)), ((IntKind.i64.wrap (s7.2.1 + 1)) : Int), (q10 : (List Gate))), a107, u107, laq10_0, luq10_0, rfl, (S339.tr (S353.tr (S376.tr (S381.tr (S386.tr S392))))).wk rfl, f435, f393, f394, hk344⟩, (ha.more (ha.more (ha.more (ha.more (ha.more (ha.more (ha.more ha.nil rfl) rfl) rfl) rfl) rfl) rfl) rfl)⟩
    | false =>
     intro h; replace h := cF h
     refine WC.cf rfl ?_
     refine WC.exit ?_
     refine DN.exitThen ?_
     refine DN.exitThen ?_
     obtain rfl := Option.some.inj h
     have h := hk344
     refine DN.hit ?_
     have f436 := f340.stp S353 rfl rfl
     have f437 := f341.stp S353 rfl rfl
     have f438 := f342.stp S353 rfl rfl
     obtain rfl := Option.some.inj h
     exact DN.meet _ ⟨K352, ((s7.1 : (List Int)), (s7.2.1 : Int), (s7.2.2 : (List Gate))), las7_0, lus7_0, las7_1, lus7_1, rfl, (S339.tr S353).wk rfl, f436, f437, f438, rfl⟩ fun a ha => (ha.more (ha.more (ha.more (ha.more ha.nil rfl) rfl) rfl) rfl)
  rintro _ w331 ⟨K332, s9, las9_0, lus9_0, las9_1, lus9_1, rfl, S333, f334, f335, f336, rfl⟩
  have h := hK329
  dsimp only [aft] at h
  refine DN.seq ?_
  refine WC.seq ?_
  refine WC.rs [(0, 1), (1, 1), (2, 2), (3, 1), (4, 1)] rfl ?_
  have f439 := f303.stp (S312.tr (S319.tr (S322.tr (S326.tr S333)))) rfl rfl
  refine WO.k1 trivial rfl rfl rfl rfl (rn_la (cs := [.int .i64 x76.Inputs, .int .i64 x76.Latches, .slice a76_0 x76.Next.length u76_0, .slice a76_1 x76.Gates.length u76_1, .slice a76_2 x76.Outs.length u76_2]) Try.isAgg57 Try.sizeOf57 rfl rfl rfl (haE f439.cells)) ?_
  refine WO.k1 trivial rfl rfl rfl rfl (rn_la (cs := [.int .i64 p0.Inputs, .int .i64 p0.Latches, .slice none 0 0, .slice las9_1 s9.2.2.length lus9_1, .slice none 0 0]) Try.isAgg57 Try.sizeOf57 rfl rfl rfl (haE f336.cells)) ?_
  refine WO.pn 1 rfl ?_
  have f440 := f304.stp (S312.tr (S319.tr (S322.tr (S326.tr S333)))) rfl rfl
  obtain ⟨K441, S442, z443⟩ := fz_ex K332 w331 16
  have f444 := Sl.st z443 f440.rdc
  have f445 := f306.stp (S312.tr (S319.tr (S322.tr (S326.tr (S333.tr S442))))) rfl rfl
  obtain ⟨K446, S447, z448⟩ := fz_ex K441 w331 18
  have f449 := Sl.st z448 f445.rdc
  have f450 := f335.stp (S442.tr S447) rfl rfl
  obtain ⟨K451, S452, z453⟩ := fz_ex K446 w331 24
  have f454 := Sl.st z453 f450.rdc
  have f455 := f334.stp (S442.tr (S447.tr S452)) rfl rfl
  obtain ⟨K456, S457, z458⟩ := fz_ex K451 w331 23
  have f459 := Sl.st z458 f455.rdc
  have f460 : Oc (Ep.int .i64) 2 K456 w331 25 none 0 ([] : List Int) := Ow.nil
  have f461 : Oc (Ep.int .i64) 2 K456 w331 26 none 0 ([] : List Int) := Ow.nil
  obtain ⟨x137, hx137, h⟩ := Option.bind_eq_some_iff.mp h
  have f462 := f444.stp (S447.tr (S452.tr S457)) rfl rfl
  have f463 := f305.stp (S312.tr (S319.tr (S322.tr (S326.tr (S333.tr (S442.tr (S447.tr (S452.tr S457)))))))) rfl rfl
  have f464 := f449.stp (S452.tr S457) rfl rfl
  have f465 := f454.stp S457 rfl rfl
  refine WO.call rfl rfl rfl rfl rfl rfl Try.call118 (s_l31Ends_ok (κ := fun b => mp [(25, 2), (26, 3)] 1 (K456 b)) (p0 := x76) (p1 := (⟨p0.Inputs, p0.Latches, ([] : List Int), s9.2.2, ([] : List Int)⟩ : Circuit)) (Sl.map f462 (mp [(25, 2), (26, 3)] 1) rfl rfl) (Sl.map f463 (mp [(25, 2), (26, 3)] 1) rfl rfl) (Sl.map f464 (mp [(25, 2), (26, 3)] 1) rfl rfl) (f460.map (mp [(25, 2), (26, 3)] 1) rfl rfl) (Sl.map f465 (mp [(25, 2), (26, 3)] 1) rfl rfl) (f461.map (mp [(25, 2), (26, 3)] 1) rfl rfl) (Sl.map f459 (mp [(25, 2), (26, 3)] 1) rfl rfl) hx137) ?_
  rintro _ w466 ⟨k467, a137_0, u137_0, a137_1, u137_1, a137_2, u137_2, rfl, e468, f469, f470, f471⟩
  obtain ⟨K472, S473, m474, z475⟩ := Ent.mixed0 (l := [(25, 2), (26, 3)]) (κ := K456) e468 27 rfl
  refine ⟨trivial, ?_⟩
  have f476 := f469.mx (no_int _) m474 rfl (rfl : 27 + 4 = 31)
  have f477 := f470.mx z475
  have f478 := f471.mx (no_int _) m474 rfl (rfl : 27 + 6 = 33)
  have f479 := f8.stp (S17.tr (S29.tr (S32.tr (S36.tr (S43.tr (S64.tr (S67.tr (S74.tr (S273.tr (S278.tr (S294.tr (S302.tr (S312.tr (S319.tr (S322.tr (S326.tr (S333.tr (S442.tr (S447.tr (S452.tr (S457.tr S473))))))))))))))))))))) rfl rfl
  refine WO.stB0 (κ := K472) 3 (vc := [.int .i64 x137.Inputs, .int .i64 x137.Latches, .slice a137_0 x137.Next.length u137_0, .slice a137_1 x137.Gates.length u137_1, .slice a137_2 x137.Outs.length u137_2]) rfl rfl rfl rfl rfl rfl rfl Try.sizeOf57 rfl rfl f479 rfl fun w480 S481 f482 => ⟨trivial, ?_⟩
  refine WO.fin ?_
  refine DN.seq ?_
  refine WC.ret ?_
  have f483 := hE.stp (S3.tr (S7.tr (S17.tr (S29.tr (S32.tr (S36.tr (S43.tr (S64.tr (S67.tr (S74.tr (S273.tr (S278.tr (S294.tr (S302.tr (S312.tr (S319.tr (S322.tr (S326.tr (S333.tr (S442.tr (S447.tr (S452.tr (S457.tr (S473.tr S481)))))))))))))))))))))))) rfl rfl
  have f484 := f476.stp S481 rfl rfl
  have f485 := f477.stp S481 rfl rfl
  have f486 := f478.stp S481 rfl rfl
  refine DN.res (l := [.cell 2 57]) Try.results37 (res_cellA rfl f482 Try.isAgg57 Try.sizeOf57 rfl rfl) rfl ?_
  obtain rfl := Option.some.inj h
  exact ⟨(fun b => ren [(31, 2), (33, 4)] (K472 b)), a137_0, u137_0, a137_1, u137_1, a137_2, u137_2, rfl, (f483.map (ren [(31, 2), (33, 4)]) rfl rfl), (f484.map (ren [(31, 2), (33, 4)]) rfl rfl), (f485.map (ren [(31, 2), (33, 4)]) rfl rfl), (f486.map (ren [(31, 2), (33, 4)]) rfl rfl)⟩

/- loop.example/g00869/impl.areLetters -/
theorem i_areLetters_ok {w : World} {κ : Col} {a0 : Option Addr} {u0 : Nat} {p0 : (List Int)} {p1 : Int} (g0 : Rd (Rp.int .i64) κ w 0 a0 u0 p0) {r : Bool} (h : i_areLetters p0 p1 = some r) : Ret Try.prog 170 [.slice a0 p0.length u0, .int .i64 p1] w (fun v w' => ∃ (κ' : Col), v = .bool r ∧ Ent κ w κ' w') := by
 unfold i_areLetters at h
 refine Ret.enter Try.func170 rfl Try.ntmps170 rfl ?_
 dsimp only [envOf]
 have hE := Ent.refl κ w
 refine WC.seq ?_
 refine WC.rs [(0, 1), (1, 2)] rfl ?_
 refine WO.box (κ := κ) 2 rfl rfl rfl rfl rfl rfl rfl fun b3 w1 K2 S3 f4 => ⟨trivial, ?_⟩
 refine WO.pn 1 rfl ?_
 refine WO.fin ?_
 refine DN.seq ?_
 refine WC.seq ?_
 refine WC.rs [(0, 2), (1, 2), (2, 1), (3, 2), (4, 2)] rfl ?_
 refine WO.pn 1 rfl ?_
 refine WO.k2 rfl rfl rfl rfl (rn_makeFunc (first := []) (captured := [.tmp 3]) rfl rfl rfl ⟨_, rfl⟩) ?_
 obtain ⟨x7, hx7, h⟩ := Option.bind_eq_some_iff.mp h
 have f5 := g0.stp S3 rfl rfl
 refine WO.call rfl rfl rfl rfl rfl rfl Try.call212 (slices_ContainsFunc_I_int64__i_areLetters_1_ok (κ := fun b => mp [] 0 (K2 b)) (Sl.map f5 (mp [] 0) rfl rfl) (f4.map (mp [] 0) rfl rfl) hx7) ?_
 rintro _ w6 ⟨k7, rfl, e8⟩
 obtain ⟨K9, S10, m11⟩ := Ent.mixed (l := []) (κ := K2) e8 3 rfl
 refine ⟨trivial, ?_⟩
 refine WO.pn 2 rfl ?_
 refine WO.fin ?_
 refine DN.seq ?_
 refine WC.ret ?_
 have f13 := hE.stp (S3.tr S10) rfl rfl
 refine DN.res (l := [.tmp 4]) Try.results170 (res_tmp rfl rfl) rfl ?_
 obtain rfl := Option.some.inj h
 exact ⟨K9, rfl, f13⟩

/- loop.example/g00869/impl.isCircuit -/
theorem i_isCircuit_ok {w : World} {κ : Col} {a0_2 : Option Addr} {u0_2 : Nat} {a0_3 : Option Addr} {u0_3 : Nat} {a0_4 : Option Addr} {u0_4 : Nat} {p0 : Circuit} (g0_2 : Rd (Rp.int .i64) κ w 0 a0_2 u0_2 p0.Next) (g0_3 : Rd Gate.rp κ w 0 a0_3 u0_3 p0.Gates) (g0_4 : Rd (Rp.int .i64) κ w 0 a0_4 u0_4 p0.Outs) {r : Bool} (h : i_isCircuit p0 = some r) : Ret Try.prog 105 [.agg #[.int .i64 p0.Inputs, .int .i64 p0.Latches, .slice a0_2 p0.Next.length u0_2, .slice a0_3 p0.Gates.length u0_3, .slice a0_4 p0.Outs.length u0_4]] w (fun v w' => ∃ (κ' : Col), v = .bool r ∧ Ent κ w κ' w') := by
 unfold i_isCircuit at h
 refine Ret.enter Try.func105 rfl Try.ntmps105 rfl ?_
 dsimp only [envOf]
 have hE := Ent.refl κ w
 refine WC.seq ?_
 refine WC.rs [(0, 1), (1, 2)] rfl ?_
 refine WO.box (κ := κ) 2 rfl rfl rfl rfl rfl rfl rfl fun b1 w1 K2 S3 f4 => ⟨trivial, ?_⟩
 refine WO.pn 1 rfl ?_
 refine WO.fin ?_
 refine DN.seq ?_
 refine WC.seq ?_
 refine WC.seq ?_
 refine WC.rs [(0, 2), (1, 1), (2, 2), (3, 2), (4, 2), (5, 1), (6, 2), (7, 2), (8, 2), (9, 2), (10, 1), (11, 2), (12, 2), (13, 2), (14, 2), (15, 1), (16, 2), (17, 2), (18, 2), (19, 2), (20, 1), (21, 2), (22, 2), (23, 1), (24, 2), (25, 2), (26, 2), (27, 2), (28, 1), (29, 2), (30, 2), (31, 2), (32, 2), (33, 2), (34, 1), (35, 2), (36, 2), (37, 2)] rfl ?_
 refine WO.k2 rfl rfl rfl rfl (rn_fieldAddr Try.runUnderlying57 rfl Try.sizeOf2 rfl rfl) ?_
 refine WO.k1 trivial rfl rfl rfl rfl (rn_ld Try.isAgg2 rfl rfl (hvE (f4.ld 0 rfl rfl))) ?_
 refine WO.pn 2 rfl ?_
 obtain ⟨p13, h, hK5⟩ := Option.bind_eq_some_iff.mp h
 refine WO.meet [(4, 2), (5, 1), (6, 2), (7, 2)] [(8, 2), (9, 2), (10, 1), (11, 2), (12, 2), (13, 2), (14, 2), (15, 1), (16, 2), (17, 2), (18, 2), (19, 2), (20, 1), (21, 2), (22, 2), (23, 1), (24, 2), (25, 2), (26, 2), (27, 2), (28, 1), (29, 2), (30, 2), (31, 2), (32, 2), (33, 2), (34, 1), (35, 2), (36, 2), (37, 2)] (fun L w' => L = [(1, .pointer (some ⟨b1, 0, none⟩)), (13, .bool p13)] ∧ ∃ κ', Stp [] K2 w1 κ' w') trivial ?_ ?_
 ·
  revert h
  cases ht6 : decide (p0.Inputs < 0) with
  | true =>
   intro h; replace h := cT h
   refine WO.pn 1 rfl ?_
   refine WO.ls rfl rfl rfl rfl ?_
   refine WO.pn 2 rfl ?_
   obtain rfl := Option.some.inj h
   exact WO.met _ trivial ⟨rfl, _, (Stp.refl _ _).wk rfl⟩ fun a ha => (ha.more (ha.more ha.nil rfl) rfl)
  | false =>
   intro h; replace h := cF h
   refine WO.k2 rfl rfl rfl rfl (rn_fieldAddr Try.runUnderlying57 rfl Try.sizeOf2 rfl rfl) ?_
   refine WO.k1 trivial rfl rfl rfl rfl (rn_ld Try.isAgg2 rfl rfl (hvE (f4.ld 0 rfl rfl))) ?_
   refine WO.pn 2 rfl ?_
   obtain rfl := Option.some.inj h
   exact WO.met _ trivial ⟨rfl, _, (Stp.refl _ _).wk rfl⟩ fun a ha => (ha.more (ha.more ha.nil rfl) rfl)
 rintro _ w7 _ ⟨rfl, K8, S9⟩
 have h := hK5
 refine WO.pn 1 rfl ?_
 obtain ⟨p18, h, hK10⟩ := Option.bind_eq_some_iff.mp h
 refine WO.meet [(9, 2), (10, 1), (11, 2), (12, 2)] [(13, 2), (14, 2), (15, 1), (16, 2), (17, 2), (18, 2), (19, 2), (20, 1), (21, 2), (22, 2), (23, 1), (24, 2), (25, 2), (26, 2), (27, 2), (28, 1), (29, 2), (30, 2), (31, 2), (32, 2), (33, 2), (34, 1), (35, 2), (36, 2), (37, 2)] (fun L w' => L = [(1, .pointer (some ⟨b1, 0, none⟩)), (18, .bool p18)] ∧ ∃ κ', Stp [] K8 w7 κ' w') trivial ?_ ?_
 ·
  revert h
  cases ht11 : p13 with
  | true =>
   intro h; replace h := cT h
   refine WO.pn 1 rfl ?_
   refine WO.ls rfl rfl rfl rfl ?_
   refine WO.pn 2 rfl ?_
   obtain rfl := Option.some.inj h
   exact WO.met _ trivial ⟨rfl, _, (Stp.refl _ _).wk rfl⟩ fun a ha => (ha.more (ha.more ha.nil rfl) rfl)
  | false =>
   intro h; replace h := cF h
   refine WO.k2 rfl rfl rfl rfl (rn_fieldAddr Try.runUnderlying57 rfl Try.sizeOf2 rfl rfl) ?_
   have f12 := f4.stp S9 rfl rfl
   refine WO.k1 trivial rfl rfl rfl rfl (rn_ld Try.isAgg2 rfl rfl (hvE (f12.ld 1 rfl rfl))) ?_
   refine WO.pn 2 rfl ?_
   obtain rfl := Option.some.inj h
   exact WO.met _ trivial ⟨rfl, _, (Stp.refl _ _).wk rfl⟩ fun a ha => (ha.more (ha.more ha.nil rfl) rfl)
 rintro _ w13 _ ⟨rfl, K14, S15⟩
 have h := hK10
 refine WO.pn 1 rfl ?_
 obtain ⟨p23, h, hK16⟩ := Option.bind_eq_some_iff.mp h
 refine WO.meet [(14, 2), (15, 1), (16, 2), (17, 2)] [(18, 2), (19, 2), (20, 1), (21, 2), (22, 2), (23, 1), (24, 2), (25, 2), (26, 2), (27, 2), (28, 1), (29, 2), (30, 2), (31, 2), (32, 2), (33, 2), (34, 1), (35, 2), (36, 2), (37, 2)] (fun L w' => L = [(1, .pointer (some ⟨b1, 0, none⟩)), (23, .bool p23)] ∧ ∃ κ', Stp [] K14 w13 κ' w') trivial ?_ ?_
 ·
  revert h
  cases ht17 : p18 with
  | true =>
   intro h; replace h := cT h
   refine WO.pn 1 rfl ?_
   refine WO.ls rfl rfl rfl rfl ?_
   refine WO.pn 2 rfl ?_
   obtain rfl := Option.some.inj h
   exact WO.met _ trivial ⟨rfl, _, (Stp.refl _ _).wk rfl⟩ fun a ha => (ha.more (ha.more ha.nil rfl) rfl)
  | false =>
   intro h; replace h := cF h
   refine WO.k2 rfl rfl rfl rfl (rn_fieldAddr Try.runUnderlying57 rfl Try.sizeOf2 rfl rfl) ?_
   have f18 := f4.stp (S9.tr S15) rfl rfl
   refine WO.k1 trivial rfl rfl rfl rfl (rn_ld Try.isAgg2 rfl rfl (hvE (f18.ld 1 rfl rfl))) ?_
   refine WO.pn 2 rfl ?_
   obtain rfl := Option.some.inj h
   exact WO.met _ trivial ⟨rfl, _, (Stp.refl _ _).wk rfl⟩ fun a ha => (ha.more (ha.more ha.nil rfl) rfl)
 rintro _ w19 _ ⟨rfl, K20, S21⟩
 have h := hK16
 refine WO.pn 1 rfl ?_
 obtain ⟨p31, h, hK22⟩ := Option.bind_eq_some_iff.mp h
 refine WO.meet [(19, 2), (20, 1), (21, 2), (22, 2), (23, 1), (24, 2), (25, 2)] [(26, 2), (27, 2), (28, 1), (29, 2), (30, 2), (31, 2), (32, 2), (33, 2), (34, 1), (35, 2), (36, 2), (37, 2)] (fun L w' => L = [(1, .pointer (some ⟨b1, 0, none⟩)), (31, .bool p31)] ∧ ∃ κ', Stp [] K20 w19 κ' w') trivial ?_ ?_
 ·
  revert h
  cases ht23 : p23 with
  | true =>
   intro h; replace h := cT h
   refine WO.pn 1 rfl ?_
   refine WO.ls rfl rfl rfl rfl ?_
   refine WO.pn 2 rfl ?_
   refine WO.ls rfl rfl rfl rfl ?_
   refine WO.pn 2 rfl ?_
   obtain rfl := Option.some.inj h
   exact WO.met _ trivial ⟨rfl, _, (Stp.refl _ _).wk rfl⟩ fun a ha => (ha.more (ha.more ha.nil rfl) rfl)
  | false =>
   intro h; replace h := cF h
   refine WO.k2 rfl rfl rfl rfl (rn_fieldAddr Try.runUnderlying57 rfl Try.sizeOf22 rfl rfl) ?_
   have f24 := f4.stp (S9.tr (S15.tr S21)) rfl rfl
   refine WO.k1 trivial rfl rfl rfl rfl (rn_ld Try.isAgg22 rfl rfl (hvE (f24.ld 2 rfl rfl))) ?_
   refine WO.k2 rfl rfl rfl rfl (rn_len Try.runUnderlying22 rfl rfl) ?_
   refine WO.k2 rfl rfl rfl rfl (rn_fieldAddr Try.runUnderlying57 rfl Try.sizeOf2 rfl rfl) ?_
   refine WO.k1 trivial rfl rfl rfl rfl (rn_ld Try.isAgg2 rfl rfl (hvE (f24.ld 1 rfl rfl))) ?_
   refine WO.pn 2 rfl ?_
   obtain rfl := Option.some.inj h
   exact WO.met _ trivial ⟨rfl, _, (Stp.refl _ _).wk rfl⟩ fun a ha => (ha.more (ha.more ha.nil rfl) rfl)
 rintro _ w25 _ ⟨rfl, K26, S27⟩
 have h := hK22
 refine WO.pn 1 rfl ?_
 obtain ⟨p37, h, hK28⟩ := Option.bind_eq_some_iff.mp h
 refine WO.meet [(27, 2), (28, 1), (29, 2), (30, 2), (31, 2)] [(32, 2), (33, 2), (34, 1), (35, 2), (36, 2), (37, 2)] (fun L w' => L = [(1, .pointer (some ⟨b1, 0, none⟩)), (37, .bool p37)] ∧ ∃ κ', Stp [] K26 w25 κ' w') trivial ?_ ?_
 ·
  revert h
  cases ht29 : p31 with
  | true =>
   intro h; replace h := cT h
   refine WO.pn 1 rfl ?_
   refine WO.ls rfl rfl rfl rfl ?_
   refine WO.pn 3 rfl ?_
   obtain rfl := Option.some.inj h
   exact WO.met _ trivial ⟨rfl, _, (Stp.refl _ _).wk rfl⟩ fun a ha => (ha.more (ha.more ha.nil rfl) rfl)
  | false =>
   intro h; replace h := cF h
   refine WO.k2 rfl rfl rfl rfl (rn_fieldAddr Try.runUnderlying57 rfl Try.sizeOf55 rfl rfl) ?_
   have f30 := f4.stp (S9.tr (S15.tr (S21.tr S27))) rfl rfl
   refine WO.k1 trivial rfl rfl rfl rfl (rn_ld Try.isAgg55 rfl rfl (hvE (f30.ld 3 rfl rfl))) ?_
   refine WO.k2 rfl rfl rfl rfl (rn_len Try.runUnderlying55 rfl rfl) ?_
   refine WO.pn 2 rfl ?_
   obtain rfl := Option.some.inj h
   exact WO.met _ trivial ⟨rfl, _, (Stp.refl _ _).wk rfl⟩ fun a ha => (ha.more (ha.more ha.nil rfl) rfl)
 rintro _ w31 _ ⟨rfl, K32, S33⟩
 have h := hK28
 refine WO.pn 1 rfl ?_
 obtain ⟨p43, h, hK34⟩ := Option.bind_eq_some_iff.mp h
 refine WO.meet [(33, 2), (34, 1), (35, 2), (36, 2), (37, 2)] [] (fun L w' => L = [(1, .pointer (some ⟨b1, 0, none⟩)), (43, .bool p43)] ∧ ∃ κ', Stp [] K32 w31 κ' w') trivial ?_ ?_
 ·
  revert h
  cases ht35 : p37 with
  | true =>
   intro h; replace h := cT h
   refine WO.pn 1 rfl ?_
   refine WO.ls rfl rfl rfl rfl ?_
   refine WO.pn 3 rfl ?_
   obtain rfl := Option.some.inj h
   exact WO.met _ trivial ⟨rfl, _, (Stp.refl _ _).wk rfl⟩ fun a ha => (ha.more (ha.more ha.nil rfl) rfl)
  | false =>
   intro h; replace h := cF h
   refine WO.k2 rfl rfl rfl rfl (rn_fieldAddr Try.runUnderlying57 rfl Try.sizeOf22 rfl rfl) ?_
   have f36 := f4.stp (S9.tr (S15.tr (S21.tr (S27.tr S33)))) rfl rfl
   refine WO.k1 trivial rfl rfl rfl rfl (rn_ld Try.isAgg22 rfl rfl (hvE (f36.ld 4 rfl rfl))) ?_
   refine WO.k2 rfl rfl rfl rfl (rn_len Try.runUnderlying22 rfl rfl) ?_
   refine WO.pn 2 rfl ?_
   obtain rfl := Option.some.inj h
   exact WO.met _ trivial ⟨rfl, _, (Stp.refl _ _).wk rfl⟩ fun a ha => (ha.more (ha.more ha.nil rfl) rfl)
 rintro _ w37 _ ⟨rfl, K38, S39⟩
 have h := hK34
 refine WO.fin ?_
 refine DN.seq ?_
 revert h
 cases ht40 : p43 with
 | true =>
  intro h; replace h := cT h
  refine WC.ct rfl ?_
  refine WC.seq ?_
  refine WC.rs [(0, 2)] rfl ?_
  refine WO.pn 1 rfl ?_
  refine WO.fin ?_
  refine DN.seq ?_
  refine WC.ret ?_
  refine DN.retThen ?_
  have f41 := hE.stp (S3.tr (S9.tr (S15.tr (S21.tr (S27.tr (S33.tr S39)))))) rfl rfl
  refine DN.res (l := [.tmp 2]) Try.results105 (res_tmp rfl rfl) rfl ?_
  obtain rfl := Option.some.inj h
  exact ⟨K38, rfl, f41⟩
 | false =>
  intro h; replace h := cF h
  refine WC.cf rfl ?_
  refine WC.skip ?_
  refine DN.seq ?_
  refine WC.seq ?_
  refine WC.rs [(0, 2), (1, 1), (2, 2), (3, 2), (4, 1), (5, 2), (6, 2)] rfl ?_
  refine WO.k2 rfl rfl rfl rfl (rn_fieldAddr Try.runUnderlying57 rfl Try.sizeOf2 rfl rfl) ?_
  have f42 := f4.stp (S9.tr (S15.tr (S21.tr (S27.tr (S33.tr S39))))) rfl rfl
  refine WO.k1 trivial rfl rfl rfl rfl (rn_ld Try.isAgg2 rfl rfl (hvE (f42.ld 0 rfl rfl))) ?_
  refine WO.pn 1 rfl ?_
  refine WO.k2 rfl rfl rfl rfl (rn_fieldAddr Try.runUnderlying57 rfl Try.sizeOf2 rfl rfl) ?_
  refine WO.k1 trivial rfl rfl rfl rfl (rn_ld Try.isAgg2 rfl rfl (hvE (f42.ld 1 rfl rfl))) ?_
  refine WO.pn 2 rfl ?_
  refine WO.fin ?_
  refine DN.seq ?_
  refine WC.seq ?_
  refine WC.seq ?_
  refine WC.rs [(0, 2), (1, 1), (2, 2), (3, 2)] rfl ?_
  refine WO.k2 rfl rfl rfl rfl (rn_fieldAddr Try.runUnderlying57 rfl Try.sizeOf55 rfl rfl) ?_
  refine WO.k1 trivial rfl rfl rfl rfl (rn_ld Try.isAgg55 rfl rfl (hvE (f42.ld 3 rfl rfl))) ?_
  refine WO.k2 rfl rfl rfl rfl (rn_len Try.runUnderlying55 rfl rfl) ?_
  refine WO.pn 1 rfl ?_
  refine WO.fin ?_
  refine DN.seq ?_
  have hN43 : (p0.Gates.length : Int) ≤ 9223372036854775807 := g0_3.len_le
  obtain ⟨q2, hq45, hK44⟩ := Option.bind_eq_some_iff.mp h
  clear h
  refine WC.meet (fun L w' => ∃ (κ' : Col), L = [(1, .pointer (some ⟨b1, 0, none⟩))] ∧ Stp [3] K38 w37 κ' w' ∧ q2 = Sum.inr ()) ?_ ?_
  ·
   refine WC.block ?_
   refine WC.loop (fun k L w' => ∃ (κ' : Col) (v53 : Int), L = [(1, .pointer (some ⟨b1, 0, none⟩)), (3, .int .i64 (IntKind.i64.wrap ((IntKind.i64.wrap (1 + p0.Inputs)) + p0.Latches))), (51, .slice a0_3 p0.Gates.length u0_3), (52, .int .i64 (p0.Gates.length : Int)), (53, .int .i64 v53)] ∧ Stp [3] K38 w37 κ' w' ∧ 0 ≤ v53 ∧ Int.toNat ((p0.Gates.length : Int) - v53) = k ∧ cntM (i_isCircuit_b0 p0) k v53 () = some q2) ⟨_, _, ⟨K38, 0, rfl, (Stp.refl _ _).wk rfl, (by decide), (by simp), hq45⟩, fun a ha => (ha.more (ha.more (ha.more (ha.more (ha.more ha.nil rfl) rfl) rfl) rfl) rfl)⟩ ?_
   rintro k _ w49 ⟨K50, v53, rfl, S51, hj43, hJ43, h⟩
   rcases k with _ | k
   ·
    have hk52 := h; obtain ⟨o43, h⟩ := ex_eq (Sum.inr (Sum.inl ()) : Bool ⊕ ((Unit) ⊕ (Unit)))
    have hc43 : decide (v53 < (p0.Gates.length : Int)) = false := decide_eq_false (by omega)
    refine WC.seq ?_
    refine WC.rs [(0, 2)] rfl ?_
    refine WO.pn 1 rfl ?_
    refine WO.fin ?_
    refine DN.seq ?_
    refine WC.seq ?_
    refine WC.cf' rfl hc43 ?_
    refine WC.exit ?_
    refine DN.exitThen ?_
    refine DN.exitThen ?_
    obtain rfl := Option.some.inj h
    have h := hk52
    refine DN.hit ?_
    obtain rfl := Option.some.inj h
    exact DN.meet _ ⟨K50, rfl, S51.wk rfl, rfl⟩ fun a ha => (ha.more ha.nil rfl)
   ·
    obtain ⟨o43, h, hk52⟩ := Option.bind_eq_some_iff.mp h; unfold i_isCircuit_b0 at h
    have hc43 : decide (v53 < (p0.Gates.length : Int)) = true := decide_eq_true (by omega)
    refine WC.seq ?_
    refine WC.rs [(0, 2)] rfl ?_
    refine WO.pn 1 rfl ?_
    refine WO.fin ?_
    refine DN.seq ?_
    refine WC.seq ?_
    refine WC.ct' rfl hc43 ?_
    refine WC.skip ?_
    refine DN.seq ?_
    refine WC.seq ?_
    refine WC.block ?_
    refine WC.seq ?_
    refine WC.rs [(0, 2), (1, 2), (2, 1), (3, 1), (4, 2), (5, 1)] rfl ?_
    refine WO.pn 1 rfl ?_
    obtain ⟨x56, hx56, h⟩ := Option.bind_eq_some_iff.mp h
    refine WO.k2 rfl rfl rfl rfl (rn_index g0_3 hx56 Try.runUnderlying55 Try.sizeOf159 rfl rfl rfl rfl) ?_
    have f53 := g0_3.stp (S3.tr (S9.tr (S15.tr (S21.tr (S27.tr (S33.tr (S39.tr S51))))))) rfl rfl
    obtain ⟨cse54, hre54, hle54⟩ := (f53).gSt hx56
    obtain rfl := Gate.un hre54
    refine WO.k1 trivial rfl rfl rfl rfl (rn_la (cs := [.int .i64 x56.A, .int .i64 x56.B]) Try.isAgg159 Try.sizeOf159 rfl rfl rfl (haE hle54)) ?_
    refine WO.alloc (κ := K50) 3 rfl rfl rfl rfl rfl Try.zeroValue159 rfl fun b5 w55 K56 S57 f58 => ⟨trivial, ?_⟩
    refine WO.pn 1 rfl ?_
    refine WO.stB0 (κ := K56) 3 (vc := [.int .i64 x56.A, .int .i64 x56.B]) rfl rfl rfl rfl rfl rfl rfl Try.sizeOf159 rfl rfl f58 rfl fun w59 S60 f61 => ⟨trivial, ?_⟩
    refine WO.fin ?_
    refine DN.seq ?_
    refine WC.seq ?_
    refine WC.rs [(0, 2), (1, 1), (2, 2), (3, 1), (4, 1), (5, 2), (6, 2), (7, 2), (8, 2), (9, 1), (10, 2)] rfl ?_
    refine WO.k2 rfl rfl rfl rfl (rn_fieldAddr Try.runUnderlying159 rfl Try.sizeOf2 rfl rfl) ?_
    refine WO.k1 trivial rfl rfl rfl rfl (rn_ld Try.isAgg2 rfl rfl (hvE (f61.ld 0 rfl rfl))) ?_
    refine WO.k2 rfl rfl rfl rfl (rn_fieldAddr Try.runUnderlying159 rfl Try.sizeOf2 rfl rfl) ?_
    refine WO.k1 trivial rfl rfl rfl rfl (rn_ld Try.isAgg2 rfl rfl (hvE (f61.ld 1 rfl rfl))) ?_
    refine WO.bl (κ := K56) (E := (Ep.int .i64)) 4 [] (parts := [(0, .tmp 59), (1, .tmp 61)]) (cells := [.int .i64 x56.A, .int .i64 x56.B]) (xs := ([x56.A, x56.B] : List Int)) rfl rfl rfl rfl rfl rfl Try.underlying22 Tryinfo2 rfl rfl rfl rfl rfl rfl rfl rfl rfl rfl ⟨[.int .i64 x56.A], [.int .i64 x56.B], Zl K56 w59 [], Zl K56 w59 [], rfl, Zl.sp (l1 := []) (l2 := []) rfl, Zl.sr (l1 := []) (l2 := []), rfl, ⟨[.int .i64 x56.B], [], Zl K56 w59 [], Zl K56 w59 [], rfl, Zl.sp (l1 := []) (l2 := []) rfl, Zl.sr (l1 := []) (l2 := []), rfl, rfl⟩⟩ fun a62 u62 w62 K63 S64 f65 => ⟨trivial, ?_⟩
    refine WO.pn 4 rfl ?_
    obtain ⟨x67, hx67, h⟩ := Option.bind_eq_some_iff.mp h
    refine WO.call rfl rfl rfl rfl rfl rfl Try.call170 (i_areLetters_ok (κ := fun b => mp [] 0 (K63 b)) (Sl.map f65.rdc (mp [] 0) rfl rfl) hx67) ?_
    rintro _ w66 ⟨k67, rfl, e68⟩
    obtain ⟨K69, S70, m71⟩ := Ent.mixed (l := []) (κ := K63) e68 5 rfl
    refine ⟨trivial, ?_⟩
    refine WO.pn 1 rfl ?_
    refine WO.fin ?_
    refine DN.seq ?_
    revert h
    cases ht73 : (!x67) with
    | true =>
     intro h; replace h := cT h
     refine WC.ct rfl ?_
     refine WC.seq ?_
     refine WC.rs [(0, 2)] rfl ?_
     refine WO.pn 1 rfl ?_
     refine WO.fin ?_
     refine DN.seq ?_
     refine WC.ret ?_
     refine DN.retBlock ?_
     refine DN.retThen ?_
     refine DN.retThen ?_
     obtain rfl := Option.some.inj h
     obtain rfl := Option.some.inj hk52
     have h := hK44
     dsimp only [aft] at h
     refine DN.retBlock ?_
     refine DN.retMeet ?_
     refine DN.retThen ?_
     have f74 := hE.stp (S3.tr (S9.tr (S15.tr (S21.tr (S27.tr (S33.tr (S39.tr (S51.tr (S57.tr (S60.tr (S64.tr S70))))))))))) rfl rfl
     refine DN.res (l := [.tmp 2]) Try.results105 (res_tmp rfl rfl) rfl ?_
     obtain rfl := Option.some.inj h
     exact ⟨K69, rfl, f74⟩
    | false =>
     intro h; replace h := cF h
     refine WC.cf rfl ?_
     refine WC.skip ?_
     refine DN.block ?_
     refine DN.seq ?_
     refine WC.rs [(0, 2), (1, 2)] rfl ?_
     refine WO.pn 2 rfl ?_
     refine WO.fin ?_
     have hw43 : IntKind.wrap .i64 (v53 + 1) = v53 + 1 := wr1 hj43 (of_decide_eq_true hc43) hN43
     rw [hw43]
     have hc43 := of_decide_eq_true hc43
     obtain rfl := Option.some.inj h
     refine DN.round fun a ha => ?_
     exact ⟨k, _, Nat.lt_succ_self _, ⟨K69, v53 + 1, rfl, (S51.tr (S57.tr (S60.tr (S64.tr S70)))).wk rfl, by omega, by omega, hk52⟩, (ha.more (ha.more (ha.more (ha.more (ha.more ha.nil rfl) rfl) rfl) rfl) rfl)⟩
  rintro _ w46 ⟨K47, rfl, S48, rfl⟩
  have h := hK44
  dsimp only [aft] at h
  refine DN.seq ?_
  refine WC.seq ?_
  refine WC.rx (κ := K47) [2] none [(0, 2), (1, 0), (2, 0), (3, 1), (4, 2), (5, 1), (6, 2), (7, 2), (8, 0), (9, 0), (10, 1), (11, 2), (12, 1), (13, 2), (14, 2)] [] (by kernel_rfl) (by kernel_rfl) fun w76 S75 => ?_
  refine WO.k2 rfl rfl rfl rfl (rn_fieldAddr Try.runUnderlying57 rfl Try.sizeOf22 rfl rfl) ?_
  have f77 := f42.stp (S48.tr S75) rfl rfl
  refine WO.k0 rfl rfl rfl rfl (rn_ld Try.isAgg22 rfl rfl (hvC (f77.ld 2 rfl rfl) rfl)) ?_
  refine WO.k0 rfl rfl rfl rfl (rn_la (cs := [.int .i64 p0.Inputs, .int .i64 p0.Latches, .slice a0_2 p0.Next.length u0_2, .slice a0_3 p0.Gates.length u0_3, .slice a0_4 p0.Outs.length u0_4]) Try.isAgg57 Try.sizeOf57 rfl rfl rfl (haC f77.cells rfl)) ?_
  obtain ⟨x73, hx73, h⟩ := Option.bind_eq_some_iff.mp h
  have f78 := g0_2.stp (S3.tr (S9.tr (S15.tr (S21.tr (S27.tr (S33.tr (S39.tr (S48.tr S75)))))))) rfl rfl
  have f79 := g0_3.stp (S3.tr (S9.tr (S15.tr (S21.tr (S27.tr (S33.tr (S39.tr (S48.tr S75)))))))) rfl rfl
  have f80 := g0_4.stp (S3.tr (S9.tr (S15.tr (S21.tr (S27.tr (S33.tr (S39.tr (S48.tr S75)))))))) rfl rfl
  refine WO.call rfl rfl rfl rfl rfl rfl Try.call171 (i_signalsOf_ok (κ := fun b => mp [] 0 (K47 b)) (p0 := p0) (Sl.map f78 (mp [] 0) rfl rfl) (Sl.map f79 (mp [] 0) rfl rfl) (Sl.map f80 (mp [] 0) rfl rfl) hx73) ?_
  rintro _ w81 ⟨k82, rfl, e83⟩
  obtain ⟨K84, S85, m86⟩ := Ent.mixed (l := []) (κ := K47) e83 3 rfl
  refine ⟨(S85.cl rfl), ?_⟩
  refine WO.pn 1 rfl ?_
  obtain ⟨x75, hx75, h⟩ := Option.bind_eq_some_iff.mp h
  have f88 := f78.stp S85 rfl rfl
  refine WO.call rfl rfl rfl rfl rfl rfl Try.call170 (i_areLetters_ok (κ := fun b => mp [] 0 (K84 b)) (Sl.map f88 (mp [] 0) rfl rfl) hx75) ?_
  rintro _ w89 ⟨k90, rfl, e91⟩
  obtain ⟨K92, S93, m94⟩ := Ent.mixed (l := []) (κ := K84) e91 5 rfl
  refine ⟨((S85.tr S93).cl rfl), ?_⟩
  refine WO.pn 1 rfl ?_
  obtain ⟨p83, h, hK96⟩ := Option.bind_eq_some_iff.mp h
  refine WO.meet [(7, 2), (8, 0), (9, 0), (10, 1), (11, 2), (12, 1), (13, 2)] [(14, 2)] (fun L w' => L = [(83, .bool p83)] ∧ ∃ κ', Stp [] K92 w89 κ' w') ((S85.tr S93).cl rfl) ?_ ?_
  ·
   revert h
   cases ht97 : x75 with
   | true =>
    intro h; replace h := cT h
    refine WO.k2 rfl rfl rfl rfl (rn_fieldAddr Try.runUnderlying57 rfl Try.sizeOf22 rfl rfl) ?_
    refine WO.k0 rfl rfl rfl rfl (rn_ld Try.isAgg22 rfl rfl (hvC (f77.ld 4 rfl rfl) rfl)) ?_
    refine WO.k0 rfl rfl rfl rfl (rn_la (cs := [.int .i64 p0.Inputs, .int .i64 p0.Latches, .slice a0_2 p0.Next.length u0_2, .slice a0_3 p0.Gates.length u0_3, .slice a0_4 p0.Outs.length u0_4]) Try.isAgg57 Try.sizeOf57 rfl rfl rfl (haC f77.cells rfl)) ?_
    obtain ⟨x80, hx80, h⟩ := Option.bind_eq_some_iff.mp h
    have f98 := f88.stp S93 rfl rfl
    have f99 := f79.stp (S85.tr S93) rfl rfl
    have f100 := f80.stp (S85.tr S93) rfl rfl
    refine WO.call rfl rfl rfl rfl rfl rfl Try.call171 (i_signalsOf_ok (κ := fun b => mp [] 0 (K92 b)) (p0 := p0) (Sl.map f98 (mp [] 0) rfl rfl) (Sl.map f99 (mp [] 0) rfl rfl) (Sl.map f100 (mp [] 0) rfl rfl) hx80) ?_
    rintro _ w101 ⟨k102, rfl, e103⟩
    obtain ⟨K104, S105, m106⟩ := Ent.mixed (l := []) (κ := K92) e103 7 rfl
    refine ⟨((S85.tr (S93.tr S105)).cl rfl), ?_⟩
    refine WO.pn 1 rfl ?_
    obtain ⟨x82, hx82, h⟩ := Option.bind_eq_some_iff.mp h
    have f108 := f100.stp S105 rfl rfl
    refine WO.call rfl rfl rfl rfl rfl rfl Try.call170 (i_areLetters_ok (κ := fun b => mp [] 0 (K104 b)) (Sl.map f108 (mp [] 0) rfl rfl) hx82) ?_
    rintro _ w109 ⟨k110, rfl, e111⟩
    obtain ⟨K112, S113, m114⟩ := Ent.mixed (l := []) (κ := K104) e111 9 rfl
    refine ⟨((S85.tr (S93.tr (S105.tr S113))).cl rfl), ?_⟩
    refine WO.pn 1 rfl ?_
    obtain rfl := Option.some.inj h
    exact WO.met _ ((S85.tr (S93.tr (S105.tr S113))).cl rfl) ⟨rfl, _, (S105.tr S113).wk rfl⟩ fun a ha => (ha.more ha.nil rfl)
   | false =>
    intro h; replace h := cF h
    refine WO.pn 1 rfl ?_
    refine WO.qs rfl rfl rfl rfl ?_
    refine WO.qs rfl rfl rfl rfl ?_
    refine WO.ls rfl rfl rfl rfl ?_
    refine WO.pn 1 rfl ?_
    refine WO.ls rfl rfl rfl rfl ?_
    refine WO.pn 1 rfl ?_
    obtain rfl := Option.some.inj h
    exact WO.met _ ((S85.tr S93).cl rfl) ⟨rfl, _, (Stp.refl _ _).wk rfl⟩ fun a ha => (ha.more ha.nil rfl)
  rintro _ w116 _ ⟨rfl, K117, S118⟩
  have h := hK96
  refine WO.pn 1 rfl ?_
  refine WO.nx ?_
  refine WO.fin ?_
  refine DN.seq ?_
  refine WC.ret ?_
  have f119 := hE.stp (S3.tr (S9.tr (S15.tr (S21.tr (S27.tr (S33.tr (S39.tr (S48.tr (S75.tr (S85.tr (S93.tr S118))))))))))) rfl rfl
  refine DN.res (l := [.tmp 2]) Try.results105 (res_tmp rfl rfl) rfl ?_
  obtain rfl := Option.some.inj h
  exact ⟨K117, rfl, f119⟩

/- loop.example/g00869/impl.TidiedCircuit -/
theorem i_TidiedCircuit_ok {w : World} {κ : Col} {a0_2 : Option Addr} {u0_2 : Nat} {a0_3 : Option Addr} {u0_3 : Nat} {a0_4 : Option Addr} {u0_4 : Nat} {p0 : Circuit} (g0_2 : Rd (Rp.int .i64) κ w 0 a0_2 u0_2 p0.Next) (g0_3 : Rd Gate.rp κ w 0 a0_3 u0_3 p0.Gates) (g0_4 : Rd (Rp.int .i64) κ w 0 a0_4 u0_4 p0.Outs) {r : Circuit} (h : i_TidiedCircuit p0 = some r) : Ret Try.prog 38 [.agg #[.int .i64 p0.Inputs, .int .i64 p0.Latches, .slice a0_2 p0.Next.length u0_2, .slice a0_3 p0.Gates.length u0_3, .slice a0_4 p0.Outs.length u0_4]] w (fun v w' => ∃ (κ' : Col) (ra0 : Option Addr) (ru0 : Nat) (ra1 : Option Addr) (ru1 : Nat) (ra2 : Option Addr) (ru2 : Nat), v = .agg #[.int .i64 r.Inputs, .int .i64 r.Latches, .slice ra0 r.Next.length ru0, .slice ra1 r.Gates.length ru1, .slice ra2 r.Outs.length ru2] ∧ Ent κ w κ' w' ∧ Oc (Ep.int .i64) 2 κ' w' 2 ra0 ru0 r.Next ∧ Oc Gate.ep159 159 κ' w' 3 ra1 ru1 r.Gates ∧ Oc (Ep.int .i64) 2 κ' w' 4 ra2 ru2 r.Outs) := by
 unfold i_TidiedCircuit at h
 refine Ret.enter Try.func38 rfl Try.ntmps38 rfl ?_
 dsimp only [envOf]
 have hE := Ent.refl κ w
 refine WC.seq ?_
 refine WC.rs [(0, 1), (1, 1)] rfl ?_
 refine WO.box (κ := κ) 2 rfl rfl rfl rfl rfl rfl rfl fun b1 w1 K2 S3 f4 => ⟨trivial, ?_⟩
 refine WO.alloc (κ := K2) 3 rfl rfl rfl rfl rfl Try.zeroValue57 rfl fun b2 w5 K6 S7 f8 => ⟨trivial, ?_⟩
 refine WO.fin ?_
 refine DN.seq ?_
 refine WC.seq ?_
 refine WC.seq ?_
 refine WC.rs [(0, 1), (1, 1), (2, 2)] rfl ?_
 have f9 := f4.stp S7 rfl rfl
 refine WO.k1 trivial rfl rfl rfl rfl (rn_la (cs := [.int .i64 p0.Inputs, .int .i64 p0.Latches, .slice a0_2 p0.Next.length u0_2, .slice a0_3 p0.Gates.length u0_3, .slice a0_4 p0.Outs.length u0_4]) Try.isAgg57 Try.sizeOf57 rfl rfl rfl (haE f9.cells)) ?_
 obtain ⟨x4, hx4, h⟩ := Option.bind_eq_some_iff.mp h
 have f10 := g0_2.stp (S3.tr S7) rfl rfl
 have f11 := g0_3.stp (S3.tr S7) rfl rfl
 have f12 := g0_4.stp (S3.tr S7) rfl rfl
 refine WO.call rfl rfl rfl rfl rfl rfl Try.call105 (i_isCircuit_ok (κ := fun b => mp [] 0 (K6 b)) (p0 := p0) (Sl.map f10 (mp [] 0) rfl rfl) (Sl.map f11 (mp [] 0) rfl rfl) (Sl.map f12 (mp [] 0) rfl rfl) hx4) ?_
 rintro _ w13 ⟨k14, rfl, e15⟩
 obtain ⟨K16, S17, m18⟩ := Ent.mixed (l := []) (κ := K6) e15 4 rfl
 refine ⟨trivial, ?_⟩
 refine WO.pn 1 rfl ?_
 refine WO.fin ?_
 refine DN.seq ?_
 revert h
 cases ht20 : (!x4) with
 | true =>
  intro h; replace h := cT h
  refine WC.ct rfl ?_
  refine WC.seq ?_
  refine WC.rs [(0, 2), (1, 1)] rfl ?_
  refine WO.k2 rfl rfl rfl rfl (rn_build (parts := []) (cells := [.int .i64 0, .int .i64 0, .slice none 0 0, .slice none 0 0, .slice none 0 0]) rfl rfl (by kernel_rfl)) ?_
  have f21 := f8.stp S17 rfl rfl
  refine WO.stB0 (κ := K16) 3 (vc := [.int .i64 0, .int .i64 0, .slice none 0 0, .slice none 0 0, .slice none 0 0]) rfl rfl rfl rfl rfl rfl rfl Try.sizeOf57 rfl rfl f21 rfl fun w22 S23 f24 => ⟨trivial, ?_⟩
  refine WO.fin ?_
  refine DN.seq ?_
  refine WC.ret ?_
  refine DN.retThen ?_
  have f25 := hE.stp (S3.tr (S7.tr (S17.tr S23))) rfl rfl
  refine DN.res (l := [.cell 2 57]) Try.results38 (res_cellA rfl f24 Try.isAgg57 Try.sizeOf57 rfl rfl) rfl ?_
  obtain rfl := Option.some.inj h
  exact ⟨K16, none, 0, none, 0, none, 0, rfl, f25, Ow.nil, Ow.nil, Ow.nil⟩
 | false =>
  intro h; replace h := cF h
  refine WC.cf rfl ?_
  refine WC.skip ?_
  refine DN.seq ?_
  refine WC.seq ?_
  refine WC.rs [(0, 1), (1, 1), (2, 1)] rfl ?_
  have f26 := f9.stp S17 rfl rfl
  refine WO.k1 trivial rfl rfl rfl rfl (rn_la (cs := [.int .i64 p0.Inputs, .int .i64 p0.Latches, .slice a0_2 p0.Next.length u0_2, .slice a0_3 p0.Gates.length u0_3, .slice a0_4 p0.Outs.length u0_4]) Try.isAgg57 Try.sizeOf57 rfl rfl rfl (haE f26.cells)) ?_
  obtain ⟨x8, hx8, h⟩ := Option.bind_eq_some_iff.mp h
  have f27 := f10.stp S17 rfl rfl
  have f28 := f11.stp S17 rfl rfl
  have f29 := f12.stp S17 rfl rfl
  refine WO.call rfl rfl rfl rfl rfl rfl Try.call121 (i_tidied_ok (κ := fun b => mp [] 0 (K16 b)) (p0 := p0) (Sl.map f27 (mp [] 0) rfl rfl) (Sl.map f28 (mp [] 0) rfl rfl) (Sl.map f29 (mp [] 0) rfl rfl) hx8) ?_
  rintro _ w30 ⟨k31, a8_0, u8_0, a8_1, u8_1, a8_2, u8_2, rfl, e32, f33, f34, f35⟩
  obtain ⟨K36, S37, m38⟩ := Ent.mixed (l := []) (κ := K16) e32 6 rfl
  refine ⟨trivial, ?_⟩
  have f40 := f33.mx (no_int _) m38 rfl (rfl : 6 + 2 = 8)
  have f41 := f34.mx Gate.no159 m38 rfl (rfl : 6 + 3 = 9)
  have f42 := f35.mx (no_int _) m38 rfl (rfl : 6 + 4 = 10)
  have f43 := f8.stp (S17.tr S37) rfl rfl
  refine WO.stB0 (κ := K36) 3 (vc := [.int .i64 x8.Inputs, .int .i64 x8.Latches, .slice a8_0 x8.Next.length u8_0, .slice a8_1 x8.Gates.length u8_1, .slice a8_2 x8.Outs.length u8_2]) rfl rfl rfl rfl rfl rfl rfl Try.sizeOf57 rfl rfl f43 rfl fun w44 S45 f46 => ⟨trivial, ?_⟩
  refine WO.fin ?_
  refine DN.seq ?_
  refine WC.ret ?_
  have f47 := hE.stp (S3.tr (S7.tr (S17.tr (S37.tr S45)))) rfl rfl
  have f48 := f40.stp S45 rfl rfl
  have f49 := f41.stp S45 rfl rfl
  have f50 := f42.stp S45 rfl rfl
  refine DN.res (l := [.cell 2 57]) Try.results38 (res_cellA rfl f46 Try.isAgg57 Try.sizeOf57 rfl rfl) rfl ?_
  obtain rfl := Option.some.inj h
  exact ⟨(fun b => ren [(8, 2), (9, 3), (10, 4)] (K36 b)), a8_0, u8_0, a8_1, u8_1, a8_2, u8_2, rfl, (f47.map (ren [(8, 2), (9, 3), (10, 4)]) rfl rfl), (f48.map (ren [(8, 2), (9, 3), (10, 4)]) rfl rfl), (f49.map (ren [(8, 2), (9, 3), (10, 4)]) rfl rfl), (f50.map (ren [(8, 2), (9, 3), (10, 4)]) rfl rfl)⟩

end Go.Proofs.Ytfmkhnlnomkcfaa
