/- The walks, part 1. By program. -/
import Derived.Test.YtfmkhnlnomkcfaaFnsC120
set_option linter.unusedVariables false
set_option linter.unusedSimpArgs false
namespace Go.Proofs.Ytfmkhnlnomkcfaa
open Go Go.Wk Go.Proofs
set_option maxRecDepth 100000
set_option maxHeartbeats 1000000

/- loop.example/g00869/laws.w9Machine -/
theorem l_w9Machine_ok {w : World} {κ : Col} {a0_0 : Option Addr} {u0_0 : Nat} {p0 : dice} {p1 : Sig} {p2 : Int} {b0 : Nat} (g0_0 : Rd (Rp.int .u8) κ w 0 a0_0 u0_0 p0.b) (gb0 : Bc κ w 2 b0 199 [.slice a0_0 p0.b.length u0_0, .int .i64 p0.i, .int .u64 p0.h]) {r : Machine × Int × Int} (h : l_w9Machine p0 p1 p2 = some r) : Ret Try.prog 74 [.pointer (some ⟨b0, 0, none⟩), .agg #[.int .i64 p1.In, .int .i64 p1.Out], .int .i64 p2] w (fun v w' => ∃ (κ' : Col) (ra0 : Option Addr) (ru0 : Nat) (ra1 : Option Addr) (ru1 : Nat), v = .agg #[.slice ra0 r.1.Next.length ru0, .slice ra1 r.1.Out.length ru1] ∧ Ent κ w κ' w' ∧ Oc (Ep.own (Ep.int .i64) 2) 22 κ' w' 3 ra0 ru0 r.1.Next ∧ Oc (Ep.own (Ep.int .i64) 2) 22 κ' w' 4 ra1 ru1 r.1.Out ∧ Bc κ' w' 2 b0 199 [.slice a0_0 p0.b.length u0_0, .int .i64 r.2.1, .int .u64 r.2.2]) := by
 unfold l_w9Machine at h
 refine Ret.enter Try.func74 rfl Try.ntmps74 rfl ?_
 dsimp only [envOf]
 have hE := Ent.refl κ w
 refine WC.seq ?_
 refine WC.rs [(0, 1), (1, 1)] rfl ?_
 refine WO.box (κ := κ) 3 rfl rfl rfl rfl rfl rfl rfl fun b4 w1 K2 S3 f4 => ⟨trivial, ?_⟩
 refine WO.alloc (κ := K2) 4 rfl rfl rfl rfl rfl Try.zeroValue50 rfl fun b6 w5 K6 S7 f8 => ⟨trivial, ?_⟩
 refine WO.fin ?_
 refine DN.seq ?_
 refine WC.seq ?_
 refine WC.rs [(0, 2), (1, 2), (2, 1), (3, 2), (4, 2)] rfl ?_
 refine WO.pn 2 rfl ?_
 obtain ⟨x17, hx17, h⟩ := Option.bind_eq_some_iff.mp h
 have f9 := g0_0.stp (S3.tr S7) rfl rfl
 have f10 := gb0.stp (S3.tr S7) rfl rfl
 refine WO.call rfl rfl rfl rfl rfl rfl Try.call73 (l_dice_below_ok (κ := fun b => mp [(2, 2)] 0 (K6 b)) (p0 := p0) (Sl.map f9 (mp [(2, 2)] 0) rfl rfl) (f10.map (mp [(2, 2)] 0) rfl rfl) hx17) ?_
 rintro _ w11 ⟨k12, rfl, e13, f14⟩
 obtain ⟨K15, S16, m17⟩ := Ent.mixed (l := [(2, 2)]) (κ := K6) e13 5 rfl
 refine ⟨trivial, ?_⟩
 have f19 := f14.mx m17 rfl (rfl : 5 + 2 = 7)
 refine WO.pn 2 rfl ?_
 refine WO.fin ?_
 refine DN.seq ?_
 refine WC.seq ?_
 refine WC.rs [(0, 2), (1, 1), (2, 1)] rfl ?_
 refine WO.k2 rfl rfl rfl rfl (rn_build (parts := []) (cells := [.slice none 0 0, .slice none 0 0]) rfl rfl (by kernel_rfl)) ?_
 refine WO.alloc (κ := K15) 8 rfl rfl rfl rfl rfl Try.zeroValue50 rfl fun b8 w20 K21 S22 f23 => ⟨trivial, ?_⟩
 refine WO.stB0 (κ := K21) 8 (vc := [.slice none 0 0, .slice none 0 0]) rfl rfl rfl rfl rfl rfl rfl Try.sizeOf50 rfl rfl f23 rfl fun w24 S25 f26 => ⟨trivial, ?_⟩
 refine WO.fin ?_
 refine DN.seq ?_
 refine WC.seq ?_
 refine WC.rs [(0, 2)] rfl ?_
 refine WO.pn 1 rfl ?_
 refine WO.fin ?_
 refine DN.seq ?_
 refine WC.seq ?_
 refine WC.rs [(0, 2)] rfl ?_
 refine WO.pn 1 rfl ?_
 refine WO.fin ?_
 refine DN.seq ?_
 refine WC.seq ?_
 refine WC.seq ?_
 refine WC.rs [(0, 2), (1, 1), (2, 2)] rfl ?_
 refine WO.k2 rfl rfl rfl rfl (rn_fieldAddr Try.runUnderlying53 rfl Try.sizeOf2 rfl rfl) ?_
 have f27 := f4.stp (S7.tr (S16.tr (S22.tr S25))) rfl rfl
 refine WO.k1 trivial rfl rfl rfl rfl (rn_ld Try.isAgg2 rfl rfl (hvE (f27.ld 0 rfl rfl))) ?_
 refine WO.pn 1 rfl ?_
 refine WO.fin ?_
 refine DN.seq ?_
 obtain ⟨q1, h, hK28⟩ := Option.bind_eq_some_iff.mp h
 refine WC.meet (fun L w' => ∃ (κ' : Col), L = [(0, .pointer (some ⟨b0, 0, none⟩)), (4, .pointer (some ⟨b4, 0, none⟩)), (6, .pointer (some ⟨b6, 0, none⟩)), (7, .int .i64 (IntKind.i64.wrap (1 + x17.1))), (8, .pointer (some ⟨b8, 0, none⟩)), (9, .int .i64 q1), (10, .int .i64 2)] ∧ Stp [] K21 w24 κ' w') ?_ ?_
 ·
  revert h
  cases ht32 : (p1.In == 2) with
  | true =>
   intro h; replace h := cT h
   refine WC.ct rfl ?_
   refine WC.rs [(0, 2)] rfl ?_
   refine WO.pn 1 rfl ?_
   refine WO.fin ?_
   obtain rfl := Option.some.inj h
   exact DN.meet _ ⟨K21, rfl, (Stp.refl _ _).wk rfl⟩ fun a ha => (ha.more (ha.more (ha.more (ha.more (ha.more (ha.more (ha.more ha.nil rfl) rfl) rfl) rfl) rfl) rfl) rfl)
  | false =>
   intro h; replace h := cF h
   refine WC.cf rfl ?_
   refine WC.skip ?_
   obtain rfl := Option.some.inj h
   exact DN.meet _ ⟨K21, rfl, (Stp.refl _ _).wk rfl⟩ fun a ha => (ha.more (ha.more (ha.more (ha.more (ha.more (ha.more (ha.more ha.nil rfl) rfl) rfl) rfl) rfl) rfl) rfl)
 rintro _ w29 ⟨K30, rfl, S31⟩
 have h := hK28
 refine DN.seq ?_
 refine WC.seq ?_
 refine WC.seq ?_
 refine WC.rs [(0, 2), (1, 1), (2, 2)] rfl ?_
 refine WO.k2 rfl rfl rfl rfl (rn_fieldAddr Try.runUnderlying53 rfl Try.sizeOf2 rfl rfl) ?_
 have f33 := f27.stp S31 rfl rfl
 refine WO.k1 trivial rfl rfl rfl rfl (rn_ld Try.isAgg2 rfl rfl (hvE (f33.ld 1 rfl rfl))) ?_
 refine WO.pn 1 rfl ?_
 refine WO.fin ?_
 refine DN.seq ?_
 obtain ⟨q2, h, hK34⟩ := Option.bind_eq_some_iff.mp h
 refine WC.meet (fun L w' => ∃ (κ' : Col), L = [(0, .pointer (some ⟨b0, 0, none⟩)), (6, .pointer (some ⟨b6, 0, none⟩)), (7, .int .i64 (IntKind.i64.wrap (1 + x17.1))), (8, .pointer (some ⟨b8, 0, none⟩)), (9, .int .i64 q1), (10, .int .i64 q2)] ∧ Stp [] K30 w29 κ' w') ?_ ?_
 ·
  revert h
  cases ht38 : (p1.Out == 2) with
  | true =>
   intro h; replace h := cT h
   refine WC.ct rfl ?_
   refine WC.rs [(0, 2)] rfl ?_
   refine WO.pn 1 rfl ?_
   refine WO.fin ?_
   obtain rfl := Option.some.inj h
   exact DN.meet _ ⟨K30, rfl, (Stp.refl _ _).wk rfl⟩ fun a ha => (ha.more (ha.more (ha.more (ha.more (ha.more (ha.more ha.nil rfl) rfl) rfl) rfl) rfl) rfl)
  | false =>
   intro h; replace h := cF h
   refine WC.cf rfl ?_
   refine WC.skip ?_
   obtain rfl := Option.some.inj h
   exact DN.meet _ ⟨K30, rfl, (Stp.refl _ _).wk rfl⟩ fun a ha => (ha.more (ha.more (ha.more (ha.more (ha.more (ha.more ha.nil rfl) rfl) rfl) rfl) rfl) rfl)
 rintro _ w35 ⟨K36, rfl, S37⟩
 have h := hK34
 refine DN.seq ?_
 refine WC.seq ?_
 refine WC.seq ?_
 refine WC.rs [(0, 2)] rfl ?_
 refine WO.pn 1 rfl ?_
 refine WO.fin ?_
 refine DN.seq ?_
 obtain ⟨_, hr39, h⟩ := Option.bind_eq_some_iff.mp h
 have hN39 := rng_ok hr39
 obtain ⟨q4, hq41, hK40⟩ := Option.bind_eq_some_iff.mp h
 clear h
 refine WC.meet (fun L w' => ∃ (κ' : Col) (s5 : Int × Int × (List (List Int)) × (List (List Int))) (las5_0 : Option Addr) (lus5_0 : Nat) (las5_1 : Option Addr) (lus5_1 : Nat), L = [(0, .pointer (some ⟨b0, 0, none⟩)), (6, .pointer (some ⟨b6, 0, none⟩)), (8, .pointer (some ⟨b8, 0, none⟩))] ∧ Stp [7, 8, 9, 10, 11, 12, 13, 14, 15, 19] K36 w35 κ' w' ∧ Oc (Ep.own (Ep.int .i64) 2) 22 κ' w' 9 las5_0 lus5_0 s5.2.2.1 ∧ Oc (Ep.own (Ep.int .i64) 2) 22 κ' w' 10 las5_1 lus5_1 s5.2.2.2 ∧ Bc κ' w' 7 b0 199 [.slice a0_0 p0.b.length u0_0, .int .i64 s5.1, .int .u64 s5.2.1] ∧ Bc κ' w' 8 b8 50 [.slice las5_0 s5.2.2.1.length lus5_0, .slice las5_1 s5.2.2.2.length lus5_1] ∧ q4 = Sum.inr s5) ?_ ?_
 ·
  refine WC.block ?_
  have f56 := f19.stp (S22.tr (S25.tr (S31.tr S37))) rfl rfl
  have f57 := f26.stp (S31.tr S37) rfl rfl
  refine WC.loop (fun k L w' => ∃ (κ' : Col) (v11 : Int) (s3 : Int × Int × (List (List Int)) × (List (List Int))) (las3_0 : Option Addr) (lus3_0 : Nat) (las3_1 : Option Addr) (lus3_1 : Nat), L = [(0, .pointer (some ⟨b0, 0, none⟩)), (6, .pointer (some ⟨b6, 0, none⟩)), (7, .int .i64 (IntKind.i64.wrap (1 + x17.1))), (8, .pointer (some ⟨b8, 0, none⟩)), (9, .int .i64 q1), (10, .int .i64 q2), (11, .int .i64 v11)] ∧ Stp [7, 8, 9, 10, 11, 12, 13, 14, 15, 19] K36 w35 κ' w' ∧ Oc (Ep.own (Ep.int .i64) 2) 22 κ' w' 9 las3_0 lus3_0 s3.2.2.1 ∧ Oc (Ep.own (Ep.int .i64) 2) 22 κ' w' 10 las3_1 lus3_1 s3.2.2.2 ∧ Bc κ' w' 7 b0 199 [.slice a0_0 p0.b.length u0_0, .int .i64 s3.1, .int .u64 s3.2.1] ∧ Bc κ' w' 8 b8 50 [.slice las3_0 s3.2.2.1.length lus3_0, .slice las3_1 s3.2.2.2.length lus3_1] ∧ 0 ≤ v11 ∧ Int.toNat ((IntKind.i64.wrap (1 + x17.1)) - v11) = k ∧ cntM (l_w9Machine_b0 p0 x17 q1 q2) k v11 s3 = some q4) ⟨_, _, ⟨K36, 0, ((x17.2.1 : Int), (x17.2.2 : Int), (([] : List (List Int)) : (List (List Int))), (([] : List (List Int)) : (List (List Int)))), none, 0, none, 0, rfl, (Stp.refl _ _).wk rfl, Ow.nil, Ow.nil, f56, f57, (by decide), (by simp), hq41⟩, fun a ha => (ha.more (ha.more (ha.more (ha.more (ha.more (ha.more (ha.more ha.nil rfl) rfl) rfl) rfl) rfl) rfl) rfl)⟩ ?_
  rintro k _ w49 ⟨K50, v11, s3, las3_0, lus3_0, las3_1, lus3_1, rfl, S51, f52, f53, f54, f55, hj39, hJ39, h⟩
  rcases k with _ | k
  ·
   have hk58 := h; obtain ⟨o39, h⟩ := ex_eq (Sum.inr (Sum.inl s3) : (Machine × Int × Int) ⊕ ((Int × Int × (List (List Int)) × (List (List Int))) ⊕ (Int × Int × (List (List Int)) × (List (List Int)))))
   have hc39 : decide (v11 < (IntKind.i64.wrap (1 + x17.1))) = false := decide_eq_false (by omega)
   refine WC.seq ?_
   refine WC.seq ?_
   refine WC.rs [(0, 2), (1, 2), (2, 2)] rfl ?_
   refine WO.pn 3 rfl ?_
   refine WO.fin ?_
   refine DN.seq ?_
   refine WC.cf' rfl hc39 ?_
   refine WC.exit ?_
   refine DN.exitThen ?_
   refine DN.exitThen ?_
   obtain rfl := Option.some.inj h
   have h := hk58
   refine DN.hit ?_
   obtain rfl := Option.some.inj h
   exact DN.meet _ ⟨K50, ((s3.1 : Int), (s3.2.1 : Int), (s3.2.2.1 : (List (List Int))), (s3.2.2.2 : (List (List Int)))), las3_0, lus3_0, las3_1, lus3_1, rfl, S51.wk rfl, f52, f53, f54, f55, rfl⟩ fun a ha => (ha.more (ha.more (ha.more ha.nil rfl) rfl) rfl)
  ·
   obtain ⟨o39, h, hk58⟩ := Option.bind_eq_some_iff.mp h; unfold l_w9Machine_b0 at h
   have hc39 : decide (v11 < (IntKind.i64.wrap (1 + x17.1))) = true := decide_eq_true (by omega)
   refine WC.seq ?_
   refine WC.seq ?_
   refine WC.rs [(0, 2), (1, 2), (2, 2)] rfl ?_
   refine WO.pn 3 rfl ?_
   refine WO.fin ?_
   refine DN.seq ?_
   refine WC.ct' rfl hc39 ?_
   refine WC.skip ?_
   refine DN.seq ?_
   refine WC.seq ?_
   refine WC.block ?_
   refine WC.seq ?_
   refine WC.rs [(0, 1), (1, 2)] rfl ?_
   refine WO.bl0 (κ := K50) (E := (Ep.int .i64)) 11 rfl rfl rfl rfl rfl Try.underlying22 Tryinfo2 rfl fun a31 u31 w59 K60 S61 f62 => ⟨trivial, ?_⟩
   refine WO.pn 1 rfl ?_
   refine WO.fin ?_
   refine DN.seq ?_
   refine WC.seq ?_
   refine WC.rs [(0, 1), (1, 2)] rfl ?_
   refine WO.bl0 (κ := K60) (E := (Ep.int .i64)) 12 rfl rfl rfl rfl rfl Try.underlying22 Tryinfo2 rfl fun a32 u32 w63 K64 S65 f66 => ⟨trivial, ?_⟩
   refine WO.pn 1 rfl ?_
   refine WO.fin ?_
   refine DN.seq ?_
   refine WC.seq ?_
   refine WC.seq ?_
   refine WC.rs [(0, 2)] rfl ?_
   refine WO.pn 1 rfl ?_
   refine WO.fin ?_
   refine DN.seq ?_
   obtain ⟨_, hr67, h⟩ := Option.bind_eq_some_iff.mp h
   have hN67 := rng_ok hr67
   obtain ⟨q7, hq69, hK68⟩ := Option.bind_eq_some_iff.mp h
   clear h
   refine WC.meet (fun L w' => ∃ (κ' : Col) (s8 : (List Int) × (List Int) × Int × Int) (las8_0 : Option Addr) (lus8_0 : Nat) (las8_1 : Option Addr) (lus8_1 : Nat), L = [(0, .pointer (some ⟨b0, 0, none⟩)), (6, .pointer (some ⟨b6, 0, none⟩)), (7, .int .i64 (IntKind.i64.wrap (1 + x17.1))), (8, .pointer (some ⟨b8, 0, none⟩)), (9, .int .i64 q1), (10, .int .i64 q2), (11, .int .i64 v11), (12, .slice las8_0 s8.1.length lus8_0), (13, .slice las8_1 s8.2.1.length lus8_1)] ∧ Stp [7, 11, 12, 15, 19] K64 w63 κ' w' ∧ Oc (Ep.int .i64) 2 κ' w' 11 las8_0 lus8_0 s8.1 ∧ Oc (Ep.int .i64) 2 κ' w' 12 las8_1 lus8_1 s8.2.1 ∧ Bc κ' w' 7 b0 199 [.slice a0_0 p0.b.length u0_0, .int .i64 s8.2.2.1, .int .u64 s8.2.2.2] ∧ q7 = Sum.inr s8) ?_ ?_
   ·
    refine WC.block ?_
    have f82 := f62.stp S65 rfl rfl
    have f83 := f54.stp (S61.tr S65) rfl rfl
    refine WC.loop (fun k L w' => ∃ (κ' : Col) (v14 : Int) (s6 : (List Int) × (List Int) × Int × Int) (las6_0 : Option Addr) (lus6_0 : Nat) (las6_1 : Option Addr) (lus6_1 : Nat), L = [(0, .pointer (some ⟨b0, 0, none⟩)), (6, .pointer (some ⟨b6, 0, none⟩)), (7, .int .i64 (IntKind.i64.wrap (1 + x17.1))), (8, .pointer (some ⟨b8, 0, none⟩)), (9, .int .i64 q1), (10, .int .i64 q2), (11, .int .i64 v11), (12, .slice las6_0 s6.1.length lus6_0), (13, .slice las6_1 s6.2.1.length lus6_1), (14, .int .i64 v14)] ∧ Stp [7, 11, 12, 15, 19] K64 w63 κ' w' ∧ Oc (Ep.int .i64) 2 κ' w' 11 las6_0 lus6_0 s6.1 ∧ Oc (Ep.int .i64) 2 κ' w' 12 las6_1 lus6_1 s6.2.1 ∧ Bc κ' w' 7 b0 199 [.slice a0_0 p0.b.length u0_0, .int .i64 s6.2.2.1, .int .u64 s6.2.2.2] ∧ 0 ≤ v14 ∧ Int.toNat (q1 - v14) = k ∧ cntM (l_w9Machine_b2 p0 x17 q2) k v14 s6 = some q7) ⟨_, _, ⟨K64, 0, ((([] : List Int) : (List Int)), (([] : List Int) : (List Int)), (s3.1 : Int), (s3.2.1 : Int)), a31, u31, a32, u32, rfl, (Stp.refl _ _).wk rfl, f82, f66, f83, (by decide), (by simp), hq69⟩, fun a ha => (ha.more (ha.more (ha.more (ha.more (ha.more (ha.more (ha.more (ha.more (ha.more (ha.more ha.nil rfl) rfl) rfl) rfl) rfl) rfl) rfl) rfl) rfl) rfl)⟩ ?_
    rintro k _ w76 ⟨K77, v14, s6, las6_0, lus6_0, las6_1, lus6_1, rfl, S78, f79, f80, f81, hj67, hJ67, h⟩
    rcases k with _ | k
    ·
     have hk84 := h; obtain ⟨o67, h⟩ := ex_eq (Sum.inr (Sum.inl s6) : (Machine × Int × Int) ⊕ (((List Int) × (List Int) × Int × Int) ⊕ ((List Int) × (List Int) × Int × Int)))
     have hc67 : decide (v14 < q1) = false := decide_eq_false (by omega)
     refine WC.seq ?_
     refine WC.seq ?_
     refine WC.rs [(0, 2), (1, 2), (2, 2)] rfl ?_
     refine WO.pn 3 rfl ?_
     refine WO.fin ?_
     refine DN.seq ?_
     refine WC.cf' rfl hc67 ?_
     refine WC.exit ?_
     refine DN.exitThen ?_
     refine DN.exitThen ?_
     obtain rfl := Option.some.inj h
     have h := hk84
     refine DN.hit ?_
     obtain rfl := Option.some.inj h
     exact DN.meet _ ⟨K77, ((s6.1 : (List Int)), (s6.2.1 : (List Int)), (s6.2.2.1 : Int), (s6.2.2.2 : Int)), las6_0, lus6_0, las6_1, lus6_1, rfl, S78.wk rfl, f79, f80, f81, rfl⟩ fun a ha => (ha.more (ha.more (ha.more (ha.more (ha.more (ha.more (ha.more (ha.more (ha.more ha.nil rfl) rfl) rfl) rfl) rfl) rfl) rfl) rfl) rfl)
    ·
     obtain ⟨o67, h, hk84⟩ := Option.bind_eq_some_iff.mp h; unfold l_w9Machine_b2 at h
     have hc67 : decide (v14 < q1) = true := decide_eq_true (by omega)
     refine WC.seq ?_
     refine WC.seq ?_
     refine WC.rs [(0, 2), (1, 2), (2, 2)] rfl ?_
     refine WO.pn 3 rfl ?_
     refine WO.fin ?_
     refine DN.seq ?_
     refine WC.ct' rfl hc67 ?_
     refine WC.skip ?_
     refine DN.seq ?_
     refine WC.seq ?_
     refine WC.block ?_
     refine WC.seq ?_
     refine WC.rs [(0, 2), (1, 2), (2, 2), (3, 1), (4, 1), (5, 1), (6, 2)] rfl ?_
     refine WO.pn 3 rfl ?_
     obtain ⟨x41, hx41, h⟩ := Option.bind_eq_some_iff.mp h
     have f85 := f9.stp (S16.tr (S22.tr (S25.tr (S31.tr (S37.tr (S51.tr (S61.tr (S65.tr S78)))))))) rfl rfl
     refine WO.call rfl rfl rfl rfl rfl rfl Try.call73 (l_dice_below_ok (κ := fun b => mp [(7, 2)] 0 (K77 b)) (p0 := (⟨p0.b, s6.2.2.1, s6.2.2.2⟩ : dice)) (Sl.map f85 (mp [(7, 2)] 0) rfl rfl) (f81.map (mp [(7, 2)] 0) rfl rfl) hx41) ?_
     rintro _ w86 ⟨k87, rfl, e88, f89⟩
     obtain ⟨K90, S91, m92⟩ := Ent.mixed (l := [(7, 2)]) (κ := K77) e88 13 rfl
     refine ⟨trivial, ?_⟩
     have f94 := f89.mx m92 rfl (rfl : 13 + 2 = 15)
     refine WO.bl (κ := K90) (E := (Ep.int .i64)) 16 [] (parts := [(0, .tmp 41)]) (cells := [.int .i64 x41.1]) (xs := ([x41.1] : List Int)) rfl rfl rfl rfl rfl rfl Try.underlying22 Tryinfo2 rfl rfl rfl rfl rfl rfl rfl rfl rfl rfl ⟨[.int .i64 x41.1], [], Zl K90 w86 [], Zl K90 w86 [], rfl, Zl.sp (l1 := []) (l2 := []) rfl, Zl.sr (l1 := []) (l2 := []), rfl, rfl⟩ fun a42 u42 w95 K96 S97 f98 => ⟨trivial, ?_⟩
     obtain ⟨x43, hx43, h⟩ := Option.bind_eq_some_iff.mp h
     have f99 := f79.stp (S91.tr S97) rfl rfl
     refine WO.app (κ := K96) (E := (Ep.int .i64)) 11 [] rfl rfl rfl rfl rfl rfl rfl rfl rfl Try.underlying22 Tryinfo2 rfl rfl rfl rfl f99 (Sl.srcP (pu_int _) f98.rdc) sy_false hx43 rfl fun a43 u43 w100 K101 S102 f103 => ⟨trivial, ?_⟩
     refine WO.pn 1 rfl ?_
     refine WO.fin ?_
     refine DN.seq ?_
     refine WC.rs [(0, 2), (1, 2), (2, 2), (3, 1), (4, 1), (5, 1), (6, 2)] rfl ?_
     refine WO.pn 3 rfl ?_
     obtain ⟨x47, hx47, h⟩ := Option.bind_eq_some_iff.mp h
     have f104 := f85.stp (S91.tr (S97.tr S102)) rfl rfl
     have f105 := f94.stp (S97.tr S102) rfl rfl
     refine WO.call rfl rfl rfl rfl rfl rfl Try.call73 (l_dice_below_ok (κ := fun b => mp [(15, 2)] 0 (K101 b)) (p0 := (⟨p0.b, x41.2.1, x41.2.2⟩ : dice)) (Sl.map f104 (mp [(15, 2)] 0) rfl rfl) (f105.map (mp [(15, 2)] 0) rfl rfl) hx47) ?_
     rintro _ w106 ⟨k107, rfl, e108, f109⟩
     obtain ⟨K110, S111, m112⟩ := Ent.mixed (l := [(15, 2)]) (κ := K101) e108 17 rfl
     refine ⟨trivial, ?_⟩
     have f114 := f109.mx m112 rfl (rfl : 17 + 2 = 19)
     refine WO.bl (κ := K110) (E := (Ep.int .i64)) 20 [] (parts := [(0, .tmp 47)]) (cells := [.int .i64 x47.1]) (xs := ([x47.1] : List Int)) rfl rfl rfl rfl rfl rfl Try.underlying22 Tryinfo2 rfl rfl rfl rfl rfl rfl rfl rfl rfl rfl ⟨[.int .i64 x47.1], [], Zl K110 w106 [], Zl K110 w106 [], rfl, Zl.sp (l1 := []) (l2 := []) rfl, Zl.sr (l1 := []) (l2 := []), rfl, rfl⟩ fun a48 u48 w115 K116 S117 f118 => ⟨trivial, ?_⟩
     obtain ⟨x49, hx49, h⟩ := Option.bind_eq_some_iff.mp h
     have f119 := f80.stp (S91.tr (S97.tr (S102.tr (S111.tr S117)))) rfl rfl
     refine WO.app (κ := K116) (E := (Ep.int .i64)) 12 [] rfl rfl rfl rfl rfl rfl rfl rfl rfl Try.underlying22 Tryinfo2 rfl rfl rfl rfl f119 (Sl.srcP (pu_int _) f118.rdc) sy_false hx49 rfl fun a49 u49 w120 K121 S122 f123 => ⟨trivial, ?_⟩
     refine WO.pn 1 rfl ?_
     refine WO.fin ?_
     refine DN.block ?_
     refine DN.seq ?_
     refine WC.rs [(0, 2), (1, 2), (2, 2)] rfl ?_
     refine WO.pn 3 rfl ?_
     refine WO.fin ?_
     have hw67 : IntKind.wrap .i64 (v14 + 1) = v14 + 1 := wr1 hj67 (of_decide_eq_true hc67) hN67
     rw [hw67]
     have hc67 := of_decide_eq_true hc67
     have f124 := f103.stp (S111.tr (S117.tr S122)) rfl rfl
     have f125 := f114.stp (S117.tr S122) rfl rfl
     obtain rfl := Option.some.inj h
     refine DN.round fun a ha => ?_
     exact ⟨k, _, Nat.lt_succ_self _, ⟨(fun b => ren [(19, 7)] (K121 b)), v14 + 1, ((x43 : (List Int)), (x49 : (List Int)), (x47.2.1 : Int), (x47.2.2 : Int)), a43, u43, a49, u49, rfl, (Stp.ren ((S78.tr (S91.tr (S97.tr (S102.tr (S111.tr (S117.tr S122)))))).wk rfl) [(19, 7)] rfl), (f124.map (ren [(19, 7)]) rfl rfl), (f123.map (ren [(19, 7)]) rfl rfl), (f125.map (ren [(19, 7)]) rfl rfl), by omega, by omega, hk84⟩, (ha.more (ha.more (ha.more (ha.more (ha.more (ha.more (ha.more (ha.more (ha.more (ha.more ha.nil rfl) rfl) rfl) rfl) rfl) rfl) rfl) rfl) rfl) rfl)⟩
   rintro _ w70 ⟨K71, s8, las8_0, lus8_0, las8_1, lus8_1, rfl, S72, f73, f74, f75, rfl⟩
   have h := hK68
   dsimp only [aft] at h
   refine DN.seq ?_
   refine WC.seq ?_
   refine WC.rs [(0, 2), (1, 1), (2, 2), (3, 1), (4, 1), (5, 2), (6, 1)] rfl ?_
   refine WO.k2 rfl rfl rfl rfl (rn_fieldAddr Try.runUnderlying50 rfl Try.sizeOf23 rfl rfl) ?_
   have f126 := f55.stp (S61.tr (S65.tr S72)) rfl rfl
   refine WO.k1 trivial rfl rfl rfl rfl (rn_ld Try.isAgg23 rfl rfl (hvE (f126.ld 0 rfl rfl))) ?_
   refine WO.pn 1 rfl ?_
   refine WO.bl (κ := K71) (E := (Ep.own (Ep.int .i64) 2)) 13 [11] (parts := [(0, .tmp 52)]) (cells := [.slice las8_0 s8.1.length lus8_0]) (xs := ([s8.1] : List (List Int))) rfl rfl rfl rfl rfl rfl Try.underlying23 Tryinfo22 rfl rfl rfl rfl rfl rfl rfl rfl rfl rfl ⟨[.slice las8_0 s8.1.length lus8_0], [], Zl K71 w70 [11], Zl K71 w70 [], rfl, Zl.sp (l1 := [11]) (l2 := []) rfl, Zl.sr (l1 := [11]) (l2 := []), ⟨_, _, rfl, f73⟩, rfl⟩ fun a53 u53 w127 K128 S129 f130 => ⟨trivial, ?_⟩
   obtain ⟨x54, hx54, h⟩ := Option.bind_eq_some_iff.mp h
   have f131 := f52.stp (S61.tr (S65.tr (S72.tr S129))) rfl rfl
   refine WO.app (κ := K128) (E := (Ep.own (Ep.int .i64) 2)) 9 [13] rfl rfl rfl rfl rfl rfl rfl rfl rfl Try.underlying23 Tryinfo22 rfl rfl rfl rfl f131 f130.src (sy_one rfl) hx54 rfl fun a54 u54 w132 K133 S134 f135 => ⟨trivial, ?_⟩
   refine WO.k2 rfl rfl rfl rfl (rn_fieldAddr Try.runUnderlying50 rfl Try.sizeOf23 rfl rfl) ?_
   have f136 := f126.stp (S129.tr S134) rfl rfl
   refine WO.stB (κ := K133) 8 (off := 0) (vc := [.slice a54 x54.length u54]) (cs' := [.slice a54 x54.length u54, .slice las3_1 s3.2.2.2.length lus3_1]) rfl rfl rfl rfl rfl rfl rfl Try.sizeOf23 rfl rfl f136 rfl rfl fun w137 S138 f139 => ⟨trivial, ?_⟩
   refine WO.fin ?_
   refine DN.seq ?_
   refine WC.rs [(0, 2), (1, 1), (2, 2), (3, 1), (4, 1), (5, 2), (6, 1)] rfl ?_
   refine WO.k2 rfl rfl rfl rfl (rn_fieldAddr Try.runUnderlying50 rfl Try.sizeOf23 rfl rfl) ?_
   refine WO.k1 trivial rfl rfl rfl rfl (rn_ld Try.isAgg23 rfl rfl (hvE (f139.ld 1 rfl rfl))) ?_
   refine WO.pn 1 rfl ?_
   have f140 := f74.stp (S129.tr (S134.tr S138)) rfl rfl
   refine WO.bl (κ := K133) (E := (Ep.own (Ep.int .i64) 2)) 14 [12] (parts := [(0, .tmp 58)]) (cells := [.slice las8_1 s8.2.1.length lus8_1]) (xs := ([s8.2.1] : List (List Int))) rfl rfl rfl rfl rfl rfl Try.underlying23 Tryinfo22 rfl rfl rfl rfl rfl rfl rfl rfl rfl rfl ⟨[.slice las8_1 s8.2.1.length lus8_1], [], Zl K133 w137 [12], Zl K133 w137 [], rfl, Zl.sp (l1 := [12]) (l2 := []) rfl, Zl.sr (l1 := [12]) (l2 := []), ⟨_, _, rfl, f140⟩, rfl⟩ fun a59 u59 w141 K142 S143 f144 => ⟨trivial, ?_⟩
   obtain ⟨x60, hx60, h⟩ := Option.bind_eq_some_iff.mp h
   have f145 := f53.stp (S61.tr (S65.tr (S72.tr (S129.tr (S134.tr (S138.tr S143)))))) rfl rfl
   refine WO.app (κ := K142) (E := (Ep.own (Ep.int .i64) 2)) 10 [14] rfl rfl rfl rfl rfl rfl rfl rfl rfl Try.underlying23 Tryinfo22 rfl rfl rfl rfl f145 f144.src (sy_one rfl) hx60 rfl fun a60 u60 w146 K147 S148 f149 => ⟨trivial, ?_⟩
   refine WO.k2 rfl rfl rfl rfl (rn_fieldAddr Try.runUnderlying50 rfl Try.sizeOf23 rfl rfl) ?_
   have f150 := f139.stp (S143.tr S148) rfl rfl
   refine WO.stB (κ := K147) 8 (off := 1) (vc := [.slice a60 x60.length u60]) (cs' := [.slice a54 x54.length u54, .slice a60 x60.length u60]) rfl rfl rfl rfl rfl rfl rfl Try.sizeOf23 rfl rfl f150 rfl rfl fun w151 S152 f153 => ⟨trivial, ?_⟩
   refine WO.fin ?_
   refine DN.block ?_
   refine DN.seq ?_
   refine WC.rs [(0, 2), (1, 2), (2, 2)] rfl ?_
   refine WO.pn 3 rfl ?_
   refine WO.fin ?_
   have hw39 : IntKind.wrap .i64 (v11 + 1) = v11 + 1 := wr1 hj39 (of_decide_eq_true hc39) hN39
   rw [hw39]
   have hc39 := of_decide_eq_true hc39
   have f154 := f135.stp (S138.tr (S143.tr (S148.tr S152))) rfl rfl
   have f155 := f149.stp S152 rfl rfl
   have f156 := f75.stp (S129.tr (S134.tr (S138.tr (S143.tr (S148.tr S152))))) rfl rfl
   obtain rfl := Option.some.inj h
   refine DN.round fun a ha => ?_
   exact ⟨k, _, Nat.lt_succ_self _, ⟨K147, v11 + 1, ((s8.2.2.1 : Int), (s8.2.2.2 : Int), (x54 : (List (List Int))), (x60 : (List (List Int)))), a54, u54, a60, u60, rfl, (S51.tr (S61.tr (S65.tr (S72.tr (S129.tr (S134.tr (S138.tr (S143.tr (S148.tr S152))))))))).wk rfl, f154, f155, f156, f153, by omega, by omega, hk58⟩, (ha.more (ha.more (ha.more (ha.more (ha.more (ha.more (ha.more ha.nil rfl) rfl) rfl) rfl) rfl) rfl) rfl)⟩
 rintro _ w42 ⟨K43, s5, las5_0, lus5_0, las5_1, lus5_1, rfl, S44, f45, f46, f47, f48, rfl⟩
 have h := hK40
 dsimp only [aft] at h
 refine DN.seq ?_
 refine WC.seq ?_
 refine WC.rs [(0, 1), (1, 1)] rfl ?_
 refine WO.k1 trivial rfl rfl rfl rfl (rn_la (cs := [.slice las5_0 s5.2.2.1.length lus5_0, .slice las5_1 s5.2.2.2.length lus5_1]) Try.isAgg50 Try.sizeOf50 rfl rfl rfl (haE f48.cells)) ?_
 have f157 := f8.stp (S16.tr (S22.tr (S25.tr (S31.tr (S37.tr S44))))) rfl rfl
 refine WO.stB0 (κ := K43) 4 (vc := [.slice las5_0 s5.2.2.1.length lus5_0, .slice las5_1 s5.2.2.2.length lus5_1]) rfl rfl rfl rfl rfl rfl rfl Try.sizeOf50 rfl rfl f157 rfl fun w158 S159 f160 => ⟨trivial, ?_⟩
 refine WO.fin ?_
 refine DN.seq ?_
 refine WC.ret ?_
 have f161 := hE.stp (S3.tr (S7.tr (S16.tr (S22.tr (S25.tr (S31.tr (S37.tr (S44.tr S159)))))))) rfl rfl
 have f162 := f45.stp S159 rfl rfl
 have f163 := f46.stp S159 rfl rfl
 have f164 := f47.stp S159 rfl rfl
 refine DN.res (l := [.cell 6 50]) Try.results74 (res_cellA rfl f160 Try.isAgg50 Try.sizeOf50 rfl rfl) rfl ?_
 obtain rfl := Option.some.inj h
 exact ⟨(fun b => ren [(9, 3), (10, 4), (7, 2)] (K43 b)), las5_0, lus5_0, las5_1, lus5_1, rfl, (f161.map (ren [(9, 3), (10, 4), (7, 2)]) rfl rfl), (f162.map (ren [(9, 3), (10, 4), (7, 2)]) rfl rfl), (f163.map (ren [(9, 3), (10, 4), (7, 2)]) rfl rfl), (f164.map (ren [(9, 3), (10, 4), (7, 2)]) rfl rfl)⟩

/- slices.IndexFunc[[]int64,int64] -/
theorem slices_IndexFunc_I_int64__i_areLetters_1_ok {w : World} {κ : Col} {a0 : Option Addr} {u0 : Nat} {p0 : (List Int)} {c1_0 : Int} {b1_0 : Nat} (g0 : Rd (Rp.int .i64) κ w 0 a0 u0 p0) (gb1_0 : Bc κ w 0 b1_0 2 [.int .i64 c1_0]) {r : Int} (h : slices_IndexFunc_I_int64__i_areLetters_1 p0 c1_0 = some r) : Ret Try.prog 229 [.slice a0 p0.length u0, .func (.func 213) #[] #[.pointer (some ⟨b1_0, 0, none⟩)]] w (fun v w' => ∃ (κ' : Col), v = .int .i64 r ∧ Ent κ w κ' w') := by
 unfold slices_IndexFunc_I_int64__i_areLetters_1 at h
 refine Ret.enter Try.func229 rfl Try.ntmps229 rfl ?_
 dsimp only [envOf]
 have hE := Ent.refl κ w
 refine WC.seq ?_
 refine WC.rs [(0, 2)] rfl ?_
 refine WO.pn 1 rfl ?_
 refine WO.fin ?_
 refine DN.seq ?_
 refine WC.seq ?_
 refine WC.seq ?_
 refine WC.rs [(0, 2), (1, 2), (2, 2)] rfl ?_
 refine WO.pn 1 rfl ?_
 refine WO.k2 rfl rfl rfl rfl (rn_len Try.runUnderlying22 rfl rfl) ?_
 refine WO.pn 1 rfl ?_
 refine WO.fin ?_
 refine DN.seq ?_
 have hN1 : (p0.length : Int) ≤ 9223372036854775807 := g0.len_le
 obtain ⟨q2, hq3, hK2⟩ := Option.bind_eq_some_iff.mp h
 clear h
 refine WC.meet (fun L w' => ∃ (κ' : Col), L = [(1, .func (.func 213) #[] #[.pointer (some ⟨b1_0, 0, none⟩)])] ∧ Stp [] κ w κ' w' ∧ q2 = Sum.inr ()) ?_ ?_
 ·
  refine WC.block ?_
  refine WC.loop (fun k L w' => ∃ (κ' : Col) (v8 : Int), L = [(0, .slice a0 p0.length u0), (1, .func (.func 213) #[] #[.pointer (some ⟨b1_0, 0, none⟩)]), (7, .int .i64 (p0.length : Int)), (8, .int .i64 v8)] ∧ Stp [] κ w κ' w' ∧ 0 ≤ v8 ∧ Int.toNat ((p0.length : Int) - v8) = k ∧ cntM (slices_IndexFunc_I_int64__i_areLetters_1_b0 p0 c1_0) k v8 () = some q2) ⟨_, _, ⟨κ, 0, rfl, (Stp.refl _ _).wk rfl, (by decide), (by simp), hq3⟩, fun a ha => (ha.more (ha.more (ha.more (ha.more ha.nil rfl) rfl) rfl) rfl)⟩ ?_
  rintro k _ w7 ⟨K8, v8, rfl, S9, hj1, hJ1, h⟩
  rcases k with _ | k
  ·
   have hk10 := h; obtain ⟨o1, h⟩ := ex_eq (Sum.inr (Sum.inl ()) : Int ⊕ ((Unit) ⊕ (Unit)))
   have hc1 : decide (v8 < (p0.length : Int)) = false := decide_eq_false (by omega)
   refine WC.seq ?_
   refine WC.rs [(0, 2)] rfl ?_
   refine WO.pn 1 rfl ?_
   refine WO.fin ?_
   refine DN.seq ?_
   refine WC.seq ?_
   refine WC.cf' rfl hc1 ?_
   refine WC.exit ?_
   refine DN.exitThen ?_
   refine DN.exitThen ?_
   obtain rfl := Option.some.inj h
   have h := hk10
   refine DN.hit ?_
   obtain rfl := Option.some.inj h
   exact DN.meet _ ⟨K8, rfl, S9.wk rfl, rfl⟩ fun a ha => (ha.more ha.nil rfl)
  ·
   obtain ⟨o1, h, hk10⟩ := Option.bind_eq_some_iff.mp h; unfold slices_IndexFunc_I_int64__i_areLetters_1_b0 at h
   have hc1 : decide (v8 < (p0.length : Int)) = true := decide_eq_true (by omega)
   refine WC.seq ?_
   refine WC.rs [(0, 2)] rfl ?_
   refine WO.pn 1 rfl ?_
   refine WO.fin ?_
   refine DN.seq ?_
   refine WC.seq ?_
   refine WC.ct' rfl hc1 ?_
   refine WC.skip ?_
   refine DN.seq ?_
   refine WC.seq ?_
   refine WC.block ?_
   refine WC.seq ?_
   refine WC.rs [(0, 2), (1, 2)] rfl ?_
   refine WO.pn 2 rfl ?_
   refine WO.fin ?_
   refine DN.seq ?_
   refine WC.seq ?_
   refine WC.rs [(0, 2), (1, 2), (2, 2), (3, 2), (4, 1), (5, 1)] rfl ?_
   refine WO.pn 3 rfl ?_
   obtain ⟨x14, hx14, h⟩ := Option.bind_eq_some_iff.mp h
   refine WO.k2 rfl rfl rfl rfl (rn_index g0 hx14 Try.runUnderlying22 Try.sizeOf2 rfl rfl rfl rfl) ?_
   have f11 := g0.stp S9 rfl rfl
   refine WO.k1 trivial rfl rfl rfl rfl (rn_ld Try.isAgg2 rfl rfl (hvE (f11.gInt hx14))) ?_
   obtain ⟨x16, hx16, h⟩ := Option.bind_eq_some_iff.mp h
   have f12 := gb1_0.stp S9 rfl rfl
   refine WO.callV rfl rfl rfl rfl rfl rfl rfl rfl Try.call213 (i_areLetters_1_ok (κ := fun b => mp [] 0 (K8 b)) (f12.map (mp [] 0) rfl rfl) hx16) ?_
   rintro _ w13 ⟨k14, rfl, e15⟩
   obtain ⟨K16, S17, m18⟩ := Ent.mixed (l := []) (κ := K8) e15 2 rfl
   refine ⟨trivial, ?_⟩
   refine WO.fin ?_
   refine DN.seq ?_
   revert h
   cases ht20 : x16 with
   | true =>
    intro h; replace h := cT h
    refine WC.ct rfl ?_
    refine WC.seq ?_
    refine WC.rs [(0, 2), (1, 2)] rfl ?_
    refine WO.pn 2 rfl ?_
    refine WO.fin ?_
    refine DN.seq ?_
    refine WC.ret ?_
    refine DN.retBlock ?_
    refine DN.retThen ?_
    refine DN.retThen ?_
    obtain rfl := Option.some.inj h
    obtain rfl := Option.some.inj hk10
    have h := hK2
    dsimp only [aft] at h
    refine DN.retBlock ?_
    refine DN.retMeet ?_
    refine DN.retThen ?_
    have f21 := hE.stp (S9.tr S17) rfl rfl
    refine DN.res (l := [.tmp 4]) Try.results229 (res_tmp rfl rfl) rfl ?_
    obtain rfl := Option.some.inj h
    exact ⟨K16, rfl, f21⟩
   | false =>
    intro h; replace h := cF h
    refine WC.cf rfl ?_
    refine WC.skip ?_
    refine DN.block ?_
    refine DN.seq ?_
    refine WC.rs [(0, 2), (1, 2)] rfl ?_
    refine WO.pn 2 rfl ?_
    refine WO.fin ?_
    have hw1 : IntKind.wrap .i64 (v8 + 1) = v8 + 1 := wr1 hj1 (of_decide_eq_true hc1) hN1
    rw [hw1]
    have hc1 := of_decide_eq_true hc1
    obtain rfl := Option.some.inj h
    refine DN.round fun a ha => ?_
    exact ⟨k, _, Nat.lt_succ_self _, ⟨K16, v8 + 1, rfl, (S9.tr S17).wk rfl, by omega, by omega, hk10⟩, (ha.more (ha.more (ha.more (ha.more ha.nil rfl) rfl) rfl) rfl)⟩
 rintro _ w4 ⟨K5, rfl, S6, rfl⟩
 have h := hK2
 dsimp only [aft] at h
 refine DN.seq ?_
 refine WC.seq ?_
 refine WC.rs [(0, 2)] rfl ?_
 refine WO.pn 1 rfl ?_
 refine WO.fin ?_
 refine DN.seq ?_
 refine WC.ret ?_
 have f22 := hE.stp S6 rfl rfl
 refine DN.res (l := [.tmp 4]) Try.results229 (res_tmp rfl rfl) rfl ?_
 obtain rfl := Option.some.inj h
 exact ⟨K5, rfl, f22⟩

/- loop.example/g00869/impl.alikeStates -/
theorem i_alikeStates_ok {w : World} {κ : Col} {a0_0 : Option Addr} {u0_0 : Nat} {a0_1 : Option Addr} {u0_1 : Nat} {p0 : Machine} (g0_0 : Rd (Rp.sl (Rp.int .i64)) κ w 0 a0_0 u0_0 p0.Next) (g0_1 : Rd (Rp.sl (Rp.int .i64)) κ w 0 a0_1 u0_1 p0.Out) {r : (List Int)} (h : i_alikeStates p0 = some r) : Ret Try.prog 149 [.agg #[.slice a0_0 p0.Next.length u0_0, .slice a0_1 p0.Out.length u0_1]] w (fun v w' => ∃ (κ' : Col) (ra0 : Option Addr) (ru0 : Nat), v = .slice ra0 r.length ru0 ∧ Ent κ w κ' w' ∧ Oc (Ep.int .i64) 2 κ' w' 2 ra0 ru0 r) := by
 unfold i_alikeStates at h
 refine Ret.enter Try.func149 rfl Try.ntmps149 rfl ?_
 dsimp only [envOf]
 have hE := Ent.refl κ w
 refine WC.seq ?_
 refine WC.rs [(0, 1), (1, 2)] rfl ?_
 refine WO.box (κ := κ) 2 rfl rfl rfl rfl rfl rfl rfl fun b1 w1 K2 S3 f4 => ⟨trivial, ?_⟩
 refine WO.pn 1 rfl ?_
 refine WO.fin ?_
 refine DN.seq ?_
 refine WC.seq ?_
 refine WC.rs [(0, 2), (1, 1), (2, 2), (3, 1), (4, 2)] rfl ?_
 refine WO.k2 rfl rfl rfl rfl (rn_fieldAddr Try.runUnderlying50 rfl Try.sizeOf23 rfl rfl) ?_
 refine WO.k1 trivial rfl rfl rfl rfl (rn_ld Try.isAgg23 rfl rfl (hvE (f4.ld 0 rfl rfl))) ?_
 refine WO.k2 rfl rfl rfl rfl (rn_len Try.runUnderlying23 rfl rfl) ?_
 obtain ⟨x14, hx14, h⟩ := Option.bind_eq_some_iff.mp h
 refine WO.mk (κ := K2) (E := (Ep.int .i64)) (z := (0 : Int)) 3 rfl rfl rfl rfl rfl rfl rfl Try.underlying22 Tryinfo2 rfl rfl rfl rfl rfl (fun _ _ _ => rfl) (mkS_C hx14) fun a14 u14 w5 K6 S7 f8 => ⟨trivial, ?_⟩
 refine WO.pn 1 rfl ?_
 refine WO.fin ?_
 refine DN.seq ?_
 refine WC.seq ?_
 refine WC.seq ?_
 refine WC.rs [(0, 2), (1, 2), (2, 2)] rfl ?_
 refine WO.pn 1 rfl ?_
 refine WO.k2 rfl rfl rfl rfl (rn_len Try.runUnderlying22 rfl rfl) ?_
 refine WO.pn 1 rfl ?_
 refine WO.fin ?_
 refine DN.seq ?_
 have hN9 : (x14.length : Int) ≤ 9223372036854775807 := f8.len_le
 obtain ⟨q2, hq11, hK10⟩ := Option.bind_eq_some_iff.mp h
 clear h
 refine WC.meet (fun L w' => ∃ (κ' : Col) (s3 : (List Int)), L = [(1, .pointer (some ⟨b1, 0, none⟩)), (3, .slice a14 x14.length u14)] ∧ Stp [3] K6 w5 κ' w' ∧ Oc (Ep.int .i64) 2 κ' w' 3 a14 u14 s3 ∧ x14.length = s3.length ∧ q2 = Sum.inr s3) ?_ ?_
 ·
  refine WC.block ?_
  refine WC.loop (fun k L w' => ∃ (κ' : Col) (v17 : Int) (s1 : (List Int)), L = [(1, .pointer (some ⟨b1, 0, none⟩)), (3, .slice a14 x14.length u14), (16, .int .i64 (x14.length : Int)), (17, .int .i64 v17)] ∧ Stp [3] K6 w5 κ' w' ∧ Oc (Ep.int .i64) 2 κ' w' 3 a14 u14 s1 ∧ x14.length = s1.length ∧ 0 ≤ v17 ∧ Int.toNat ((x14.length : Int) - v17) = k ∧ cntM (i_alikeStates_b0 p0) k v17 s1 = some q2) ⟨_, _, ⟨K6, 0, (x14 : (List Int)), rfl, (Stp.refl _ _).wk rfl, f8, rfl, (by decide), (by simp), hq11⟩, fun a ha => (ha.more (ha.more (ha.more (ha.more ha.nil rfl) rfl) rfl) rfl)⟩ ?_
  rintro k _ w17 ⟨K18, v17, s1, rfl, S19, f20, hn21, hj9, hJ9, h⟩
  rcases k with _ | k
  ·
   have hk22 := h; obtain ⟨o9, h⟩ := ex_eq (Sum.inr (Sum.inl s1) : (List Int) ⊕ (((List Int)) ⊕ ((List Int))))
   have hc9 : decide (v17 < (x14.length : Int)) = false := decide_eq_false (by omega)
   refine WC.seq ?_
   refine WC.rs [(0, 2)] rfl ?_
   refine WO.pn 1 rfl ?_
   refine WO.fin ?_
   refine DN.seq ?_
   refine WC.seq ?_
   refine WC.cf' rfl hc9 ?_
   refine WC.exit ?_
   refine DN.exitThen ?_
   refine DN.exitThen ?_
   obtain rfl := Option.some.inj h
   have h := hk22
   refine DN.hit ?_
   obtain rfl := Option.some.inj h
   exact DN.meet _ ⟨K18, (s1 : (List Int)), rfl, S19.wk rfl, f20, hn21, rfl⟩ fun a ha => (ha.more (ha.more ha.nil rfl) rfl)
  ·
   obtain ⟨o9, h, hk22⟩ := Option.bind_eq_some_iff.mp h; unfold i_alikeStates_b0 at h
   have hc9 : decide (v17 < (x14.length : Int)) = true := decide_eq_true (by omega)
   refine WC.seq ?_
   refine WC.rs [(0, 2)] rfl ?_
   refine WO.pn 1 rfl ?_
   refine WO.fin ?_
   refine DN.seq ?_
   refine WC.seq ?_
   refine WC.ct' rfl hc9 ?_
   refine WC.skip ?_
   refine DN.seq ?_
   refine WC.seq ?_
   refine WC.block ?_
   refine WC.seq ?_
   refine WC.rs [(0, 2), (1, 2)] rfl ?_
   refine WO.pn 2 rfl ?_
   refine WO.fin ?_
   refine DN.seq ?_
   refine WC.seq ?_
   refine WC.rs [(0, 2), (1, 2), (2, 2)] rfl ?_
   refine WO.pn 3 rfl ?_
   refine WO.fin ?_
   refine DN.seq ?_
   obtain ⟨_, hr23, h⟩ := Option.bind_eq_some_iff.mp h
   have hN23 := rng_ok hr23
   obtain ⟨q5, hq25, hK24⟩ := Option.bind_eq_some_iff.mp h
   clear h
   refine WC.meet (fun L w' => ∃ (κ' : Col) (s6 : (List Int)), L = [(1, .pointer (some ⟨b1, 0, none⟩)), (3, .slice a14 x14.length u14), (16, .int .i64 (x14.length : Int)), (17, .int .i64 v17)] ∧ Stp [3] K18 w17 κ' w' ∧ Oc (Ep.int .i64) 2 κ' w' 3 a14 u14 s6 ∧ x14.length = s6.length ∧ q5 = Sum.inr s6) ?_ ?_
   ·
    refine WC.block ?_
    refine WC.loop (fun k L w' => ∃ (κ' : Col) (v22 : Int) (s4 : (List Int)), L = [(1, .pointer (some ⟨b1, 0, none⟩)), (3, .slice a14 x14.length u14), (4, .int .i64 v17), (16, .int .i64 (x14.length : Int)), (17, .int .i64 v17), (21, .int .i64 (IntKind.i64.wrap (v17 + 1))), (22, .int .i64 v22)] ∧ Stp [3] K18 w17 κ' w' ∧ Oc (Ep.int .i64) 2 κ' w' 3 a14 u14 s4 ∧ x14.length = s4.length ∧ 0 ≤ v22 ∧ Int.toNat ((IntKind.i64.wrap (v17 + 1)) - v22) = k ∧ cntM (i_alikeStates_b2 p0 v17) k v22 s4 = some q5) ⟨_, _, ⟨K18, 0, (s1 : (List Int)), rfl, (Stp.refl _ _).wk rfl, f20, hn21, (by decide), (by simp), hq25⟩, fun a ha => (ha.more (ha.more (ha.more (ha.more (ha.more (ha.more (ha.more ha.nil rfl) rfl) rfl) rfl) rfl) rfl) rfl)⟩ ?_
    rintro k _ w31 ⟨K32, v22, s4, rfl, S33, f34, hn35, hj23, hJ23, h⟩
    rcases k with _ | k
    ·
     have hk36 := h; obtain ⟨o23, h⟩ := ex_eq (Sum.inr (Sum.inl s4) : (List Int) ⊕ (((List Int)) ⊕ ((List Int))))
     have hc23 : decide (v22 < (IntKind.i64.wrap (v17 + 1))) = false := decide_eq_false (by omega)
     refine WC.seq ?_
     refine WC.rs [(0, 2)] rfl ?_
     refine WO.pn 1 rfl ?_
     refine WO.fin ?_
     refine DN.seq ?_
     refine WC.seq ?_
     refine WC.cf' rfl hc23 ?_
     refine WC.exit ?_
     refine DN.exitThen ?_
     refine DN.exitThen ?_
     obtain rfl := Option.some.inj h
     have h := hk36
     refine DN.hit ?_
     obtain rfl := Option.some.inj h
     exact DN.meet _ ⟨K32, (s4 : (List Int)), rfl, S33.wk rfl, f34, hn35, rfl⟩ fun a ha => (ha.more (ha.more (ha.more (ha.more ha.nil rfl) rfl) rfl) rfl)
    ·
     obtain ⟨o23, h, hk36⟩ := Option.bind_eq_some_iff.mp h; unfold i_alikeStates_b2 at h
     have hc23 : decide (v22 < (IntKind.i64.wrap (v17 + 1))) = true := decide_eq_true (by omega)
     refine WC.seq ?_
     refine WC.rs [(0, 2)] rfl ?_
     refine WO.pn 1 rfl ?_
     refine WO.fin ?_
     refine DN.seq ?_
     refine WC.seq ?_
     refine WC.ct' rfl hc23 ?_
     refine WC.skip ?_
     refine DN.seq ?_
     refine WC.seq ?_
     refine WC.block ?_
     refine WC.seq ?_
     refine WC.rs [(0, 2), (1, 2)] rfl ?_
     refine WO.pn 2 rfl ?_
     refine WO.fin ?_
     refine DN.seq ?_
     refine WC.seq ?_
     refine WC.rx (κ := K32) [0, 2] none [(0, 2), (2, 2), (5, 2), (7, 2), (1, 0), (3, 2), (4, 0), (6, 0), (8, 2), (9, 0), (10, 1)] [] (by kernel_rfl) (by kernel_rfl) fun w38 S37 => ?_
     refine WO.k2 rfl rfl rfl rfl (rn_fieldAddr Try.runUnderlying50 rfl Try.sizeOf23 rfl rfl) ?_
     refine WO.pn 1 rfl ?_
     refine WO.k2 rfl rfl rfl rfl (rn_fieldAddr Try.runUnderlying50 rfl Try.sizeOf23 rfl rfl) ?_
     refine WO.pn 1 rfl ?_
     have f39 := f4.stp (S7.tr (S19.tr (S33.tr S37))) rfl rfl
     refine WO.k0 rfl rfl rfl rfl (rn_ld Try.isAgg23 rfl rfl (hvC (f39.ld 1 rfl rfl) rfl)) ?_
     obtain ⟨x28, hx28, h⟩ := Option.bind_eq_some_iff.mp h
     refine WO.k2 rfl rfl rfl rfl (rn_index g0_1 hx28 Try.runUnderlying23 Try.sizeOf22 rfl rfl rfl rfl) ?_
     have f40 := g0_1.stp (S3.tr (S7.tr (S19.tr (S33.tr S37)))) rfl rfl
     obtain ⟨ax28, ux28, f41, hl42⟩ := f40.gSl hx28
     refine WO.k0 rfl rfl rfl rfl (rn_ld Try.isAgg22 rfl rfl (hvC hl42 rfl)) ?_
     refine WO.k0 rfl rfl rfl rfl (rn_ld Try.isAgg23 rfl rfl (hvC (f39.ld 1 rfl rfl) rfl)) ?_
     obtain ⟨x33, hx33, h⟩ := Option.bind_eq_some_iff.mp h
     refine WO.k2 rfl rfl rfl rfl (rn_index f40 hx33 Try.runUnderlying23 Try.sizeOf22 rfl rfl rfl rfl) ?_
     obtain ⟨ax33, ux33, f43, hl44⟩ := f40.gSl hx33
     refine WO.k0 rfl rfl rfl rfl (rn_ld Try.isAgg22 rfl rfl (hvC hl44 rfl)) ?_
     obtain ⟨x35, hx35, h⟩ := Option.bind_eq_some_iff.mp h
     refine WO.call rfl rfl rfl rfl rfl rfl Try.call157 (slices_Equal_I_int64_ok (κ := fun b => mp [] 0 (K32 b)) (Sl.map f41 (mp [] 0) rfl rfl) (Sl.map f43 (mp [] 0) rfl rfl) hx35) ?_
     rintro _ w45 ⟨k46, rfl, e47⟩
     obtain ⟨K48, S49, m50⟩ := Ent.mixed (l := []) (κ := K32) e47 4 rfl
     refine ⟨(S49.cl rfl), ?_⟩
     refine WO.nx ?_
     refine WO.fin ?_
     refine DN.seq ?_
     revert h
     cases ht52 : x35 with
     | true =>
      intro h; replace h := cT h
      refine WC.ct rfl ?_
      refine WC.seq ?_
      refine WC.rs [(0, 2), (1, 2), (2, 2), (3, 2), (4, 1)] rfl ?_
      refine WO.pn 3 rfl ?_
      obtain ⟨x39, hx39, h⟩ := Option.bind_eq_some_iff.mp h
      refine WO.k2 rfl rfl rfl rfl (rn_index f34.rdc hx39 Try.runUnderlying22 Try.sizeOf2 rfl rfl hn35 rfl) ?_
      have f53 := f34.stp (S37.tr S49) rfl rfl
      obtain ⟨y7, hy7, h⟩ := Option.bind_eq_some_iff.mp h
      refine WO.stI (κ := K48) (E := (Ep.int .i64)) 3 [] rfl rfl rfl rfl rfl rfl rfl rfl Try.sizeOf2 rfl rfl rfl rfl f53 hy7 fun w54 K55 S56 f57 => ⟨trivial, ?_⟩
      have hn58 : x14.length = y7.length := hn35.trans (setI_ok hy7).2.2.2.symm
      refine WO.fin ?_
      refine DN.seq ?_
      refine WC.exit ?_
      refine DN.miss rfl ?_
      refine DN.exitThen ?_
      refine DN.exitThen ?_
      obtain rfl := Option.some.inj h
      have h := hk36
      refine DN.hit ?_
      obtain rfl := Option.some.inj h
      exact DN.meet _ ⟨K55, (y7 : (List Int)), rfl, (S33.tr (S37.tr (S49.tr S56))).wk rfl, f57, hn58, rfl⟩ fun a ha => (ha.more (ha.more (ha.more (ha.more ha.nil rfl) rfl) rfl) rfl)
     | false =>
      intro h; replace h := cF h
      refine WC.cf rfl ?_
      refine WC.skip ?_
      refine DN.block ?_
      refine DN.seq ?_
      refine WC.rs [(0, 2), (1, 2)] rfl ?_
      refine WO.pn 2 rfl ?_
      refine WO.fin ?_
      have hw23 : IntKind.wrap .i64 (v22 + 1) = v22 + 1 := wr1 hj23 (of_decide_eq_true hc23) hN23
      rw [hw23]
      have hc23 := of_decide_eq_true hc23
      have f59 := f34.stp (S37.tr S49) rfl rfl
      obtain rfl := Option.some.inj h
      refine DN.round fun a ha => ?_
      exact ⟨k, _, Nat.lt_succ_self _, ⟨K48, v22 + 1, (s4 : (List Int)), rfl, (S33.tr (S37.tr S49)).wk rfl, f59, hn35, by omega, by omega, hk36⟩, (ha.more (ha.more (ha.more (ha.more (ha.more (ha.more (ha.more ha.nil rfl) rfl) rfl) rfl) rfl) rfl) rfl)⟩
   rintro _ w26 ⟨K27, s6, rfl, S28, f29, hn30, rfl⟩
   have h := hK24
   dsimp only [aft] at h
   refine DN.block ?_
   refine DN.seq ?_
   refine WC.rs [(0, 2), (1, 2)] rfl ?_
   refine WO.pn 2 rfl ?_
   refine WO.fin ?_
   have hw9 : IntKind.wrap .i64 (v17 + 1) = v17 + 1 := wr1 hj9 (of_decide_eq_true hc9) hN9
   rw [hw9]
   have hc9 := of_decide_eq_true hc9
   obtain rfl := Option.some.inj h
   refine DN.round fun a ha => ?_
   exact ⟨k, _, Nat.lt_succ_self _, ⟨K27, v17 + 1, (s6 : (List Int)), rfl, (S19.tr S28).wk rfl, f29, hn30, by omega, by omega, hk22⟩, (ha.more (ha.more (ha.more (ha.more ha.nil rfl) rfl) rfl) rfl)⟩
 rintro _ w12 ⟨K13, s3, rfl, S14, f15, hn16, rfl⟩
 have h := hK10
 dsimp only [aft] at h
 refine DN.seq ?_
 obtain ⟨q8, hq62, hK61⟩ := Option.bind_eq_some_iff.mp h
 clear h
 refine WC.block ?_
 refine WC.loop (fun k L w' => ∃ (κ' : Col) (s7 : (List Int)) (las7_0 : Option Addr) (lus7_0 : Nat), L = [(1, .pointer (some ⟨b1, 0, none⟩)), (3, .slice las7_0 s7.length lus7_0)] ∧ Stp [4] K13 w12 κ' w' ∧ Oc (Ep.int .i64) 2 κ' w' 3 las7_0 lus7_0 s7 ∧ whileM (i_alikeStates_b4 p0) k s7 = some q8) ⟨_, _, ⟨K13, (s3 : (List Int)), a14, u14, rfl, (Stp.refl _ _).wk rfl, f15, hq62⟩, fun a ha => (ha.more (ha.moreE ha.nil rfl (congrArg (fun n => Value.slice a14 n u14) hn16)) rfl)⟩ ?_
 rintro k _ w63 ⟨K64, s7, las7_0, lus7_0, rfl, S65, f66, h⟩
 rcases k with _ | k
 ·
  cases h
 ·
  obtain ⟨o60, h, hk67⟩ := Option.bind_eq_some_iff.mp h; unfold i_alikeStates_b4 at h
  refine WC.block ?_
  refine WC.seq ?_
  refine WC.rs [(0, 2), (1, 2), (2, 1), (3, 2)] rfl ?_
  refine WO.pn 1 rfl ?_
  refine WO.k2 rfl rfl rfl rfl (rn_len Try.runUnderlying22 rfl rfl) ?_
  obtain ⟨x44, hx44, h⟩ := Option.bind_eq_some_iff.mp h
  refine WO.mk (κ := K64) (E := (Ep.int .i64)) (z := (0 : Int)) 4 rfl rfl rfl rfl rfl rfl rfl Try.underlying22 Tryinfo2 rfl rfl rfl rfl rfl (fun _ _ _ => rfl) (mkS_C hx44) fun a44 u44 w68 K69 S70 f71 => ⟨trivial, ?_⟩
  refine WO.pn 1 rfl ?_
  refine WO.fin ?_
  refine DN.seq ?_
  refine WC.seq ?_
  refine WC.seq ?_
  refine WC.rs [(0, 2), (1, 2), (2, 2)] rfl ?_
  refine WO.pn 1 rfl ?_
  refine WO.k2 rfl rfl rfl rfl (rn_len Try.runUnderlying22 rfl rfl) ?_
  refine WO.pn 1 rfl ?_
  refine WO.fin ?_
  refine DN.seq ?_
  have hN72 : (s7.length : Int) ≤ 9223372036854775807 := f66.len_le
  obtain ⟨q11, hq74, hK73⟩ := Option.bind_eq_some_iff.mp h
  clear h
  refine WC.meet (fun L w' => ∃ (κ' : Col) (s12 : (List Int)), L = [(1, .pointer (some ⟨b1, 0, none⟩)), (3, .slice las7_0 s7.length lus7_0), (6, .slice a44 x44.length u44)] ∧ Stp [4] K69 w68 κ' w' ∧ Oc (Ep.int .i64) 2 κ' w' 4 a44 u44 s12 ∧ x44.length = s12.length ∧ q11 = Sum.inr s12) ?_ ?_
  ·
   refine WC.block ?_
   refine WC.loop (fun k L w' => ∃ (κ' : Col) (v47 : Int) (s10 : (List Int)), L = [(1, .pointer (some ⟨b1, 0, none⟩)), (3, .slice las7_0 s7.length lus7_0), (6, .slice a44 x44.length u44), (46, .int .i64 (s7.length : Int)), (47, .int .i64 v47)] ∧ Stp [4] K69 w68 κ' w' ∧ Oc (Ep.int .i64) 2 κ' w' 4 a44 u44 s10 ∧ x44.length = s10.length ∧ 0 ≤ v47 ∧ Int.toNat ((s7.length : Int) - v47) = k ∧ cntM (i_alikeStates_b6 p0 s7) k v47 s10 = some q11) ⟨_, _, ⟨K69, 0, (x44 : (List Int)), rfl, (Stp.refl _ _).wk rfl, f71, rfl, (by decide), (by simp), hq74⟩, fun a ha => (ha.more (ha.more (ha.more (ha.more (ha.more ha.nil rfl) rfl) rfl) rfl) rfl)⟩ ?_
   rintro k _ w80 ⟨K81, v47, s10, rfl, S82, f83, hn84, hj72, hJ72, h⟩
   rcases k with _ | k
   ·
    have hk85 := h; obtain ⟨o72, h⟩ := ex_eq (Sum.inr (Sum.inl s10) : (List Int) ⊕ (((List Int)) ⊕ ((List Int))))
    have hc72 : decide (v47 < (s7.length : Int)) = false := decide_eq_false (by omega)
    refine WC.seq ?_
    refine WC.rs [(0, 2)] rfl ?_
    refine WO.pn 1 rfl ?_
    refine WO.fin ?_
    refine DN.seq ?_
    refine WC.seq ?_
    refine WC.cf' rfl hc72 ?_
    refine WC.exit ?_
    refine DN.exitThen ?_
    refine DN.exitThen ?_
    obtain rfl := Option.some.inj h
    have h := hk85
    refine DN.hit ?_
    obtain rfl := Option.some.inj h
    exact DN.meet _ ⟨K81, (s10 : (List Int)), rfl, S82.wk rfl, f83, hn84, rfl⟩ fun a ha => (ha.more (ha.more (ha.more ha.nil rfl) rfl) rfl)
   ·
    obtain ⟨o72, h, hk85⟩ := Option.bind_eq_some_iff.mp h; unfold i_alikeStates_b6 at h
    have hc72 : decide (v47 < (s7.length : Int)) = true := decide_eq_true (by omega)
    refine WC.seq ?_
    refine WC.rs [(0, 2)] rfl ?_
    refine WO.pn 1 rfl ?_
    refine WO.fin ?_
    refine DN.seq ?_
    refine WC.seq ?_
    refine WC.ct' rfl hc72 ?_
    refine WC.skip ?_
    refine DN.seq ?_
    refine WC.seq ?_
    refine WC.block ?_
    refine WC.seq ?_
    refine WC.rs [(0, 2), (1, 2)] rfl ?_
    refine WO.pn 2 rfl ?_
    refine WO.fin ?_
    refine DN.seq ?_
    refine WC.seq ?_
    refine WC.rs [(0, 2), (1, 2), (2, 2)] rfl ?_
    refine WO.pn 3 rfl ?_
    refine WO.fin ?_
    refine DN.seq ?_
    obtain ⟨_, hr86, h⟩ := Option.bind_eq_some_iff.mp h
    have hN86 := rng_ok hr86
    obtain ⟨q14, hq88, hK87⟩ := Option.bind_eq_some_iff.mp h
    clear h
    refine WC.meet (fun L w' => ∃ (κ' : Col) (s15 : (List Int)), L = [(1, .pointer (some ⟨b1, 0, none⟩)), (3, .slice las7_0 s7.length lus7_0), (6, .slice a44 x44.length u44), (46, .int .i64 (s7.length : Int)), (47, .int .i64 v47)] ∧ Stp [4] K81 w80 κ' w' ∧ Oc (Ep.int .i64) 2 κ' w' 4 a44 u44 s15 ∧ x44.length = s15.length ∧ q14 = Sum.inr s15) ?_ ?_
    ·
     refine WC.block ?_
     refine WC.loop (fun k L w' => ∃ (κ' : Col) (v52 : Int) (s13 : (List Int)), L = [(1, .pointer (some ⟨b1, 0, none⟩)), (3, .slice las7_0 s7.length lus7_0), (6, .slice a44 x44.length u44), (7, .int .i64 v47), (46, .int .i64 (s7.length : Int)), (47, .int .i64 v47), (51, .int .i64 (IntKind.i64.wrap (v47 + 1))), (52, .int .i64 v52)] ∧ Stp [4] K81 w80 κ' w' ∧ Oc (Ep.int .i64) 2 κ' w' 4 a44 u44 s13 ∧ x44.length = s13.length ∧ 0 ≤ v52 ∧ Int.toNat ((IntKind.i64.wrap (v47 + 1)) - v52) = k ∧ cntM (i_alikeStates_b8 p0 s7 v47) k v52 s13 = some q14) ⟨_, _, ⟨K81, 0, (s10 : (List Int)), rfl, (Stp.refl _ _).wk rfl, f83, hn84, (by decide), (by simp), hq88⟩, fun a ha => (ha.more (ha.more (ha.more (ha.more (ha.more (ha.more (ha.more (ha.more ha.nil rfl) rfl) rfl) rfl) rfl) rfl) rfl) rfl)⟩ ?_
     rintro k _ w94 ⟨K95, v52, s13, rfl, S96, f97, hn98, hj86, hJ86, h⟩
     rcases k with _ | k
     ·
      have hk99 := h; obtain ⟨o86, h⟩ := ex_eq (Sum.inr (Sum.inl s13) : (List Int) ⊕ (((List Int)) ⊕ ((List Int))))
      have hc86 : decide (v52 < (IntKind.i64.wrap (v47 + 1))) = false := decide_eq_false (by omega)
      refine WC.seq ?_
      refine WC.rs [(0, 2)] rfl ?_
      refine WO.pn 1 rfl ?_
      refine WO.fin ?_
      refine DN.seq ?_
      refine WC.seq ?_
      refine WC.cf' rfl hc86 ?_
      refine WC.exit ?_
      refine DN.exitThen ?_
      refine DN.exitThen ?_
      obtain rfl := Option.some.inj h
      have h := hk99
      refine DN.hit ?_
      obtain rfl := Option.some.inj h
      exact DN.meet _ ⟨K95, (s13 : (List Int)), rfl, S96.wk rfl, f97, hn98, rfl⟩ fun a ha => (ha.more (ha.more (ha.more (ha.more (ha.more ha.nil rfl) rfl) rfl) rfl) rfl)
     ·
      obtain ⟨o86, h, hk99⟩ := Option.bind_eq_some_iff.mp h; unfold i_alikeStates_b8 at h
      have hc86 : decide (v52 < (IntKind.i64.wrap (v47 + 1))) = true := decide_eq_true (by omega)
      refine WC.seq ?_
      refine WC.rs [(0, 2)] rfl ?_
      refine WO.pn 1 rfl ?_
      refine WO.fin ?_
      refine DN.seq ?_
      refine WC.seq ?_
      refine WC.ct' rfl hc86 ?_
      refine WC.skip ?_
      refine DN.seq ?_
      refine WC.seq ?_
      refine WC.block ?_
      refine WC.seq ?_
      refine WC.rs [(0, 2), (1, 2)] rfl ?_
      refine WO.pn 2 rfl ?_
      refine WO.fin ?_
      refine DN.seq ?_
      refine WC.seq ?_
      refine WC.rx (κ := K95) [0, 3] none [(0, 2), (1, 2), (2, 2), (4, 2), (5, 2), (6, 2), (3, 0), (7, 0), (8, 2), (9, 2)] [] (by kernel_rfl) (by kernel_rfl) fun w101 S100 => ?_
      refine WO.pn 2 rfl ?_
      obtain ⟨x57, hx57, h⟩ := Option.bind_eq_some_iff.mp h
      refine WO.k2 rfl rfl rfl rfl (rn_index f66.rdc hx57 Try.runUnderlying22 Try.sizeOf2 rfl rfl rfl rfl) ?_
      refine WO.pn 2 rfl ?_
      obtain ⟨x61, hx61, h⟩ := Option.bind_eq_some_iff.mp h
      refine WO.k2 rfl rfl rfl rfl (rn_index f66.rdc hx61 Try.runUnderlying22 Try.sizeOf2 rfl rfl rfl rfl) ?_
      have f102 := f66.stp (S70.tr (S82.tr (S96.tr S100))) rfl rfl
      refine WO.k0 rfl rfl rfl rfl (rn_ld Try.isAgg2 rfl rfl (hvC (f102.rdc.gInt hx57) rfl)) ?_
      refine WO.k0 rfl rfl rfl rfl (rn_ld Try.isAgg2 rfl rfl (hvC (f102.rdc.gInt hx61) rfl)) ?_
      refine WO.pn 2 rfl ?_
      refine WO.nx ?_
      refine WO.fin ?_
      refine DN.seq ?_
      refine WC.seq ?_
      refine WC.seq ?_
      refine WC.rs [(0, 2), (1, 1), (2, 2), (3, 2), (4, 1), (5, 2), (6, 2)] rfl ?_
      refine WO.k2 rfl rfl rfl rfl (rn_fieldAddr Try.runUnderlying50 rfl Try.sizeOf23 rfl rfl) ?_
      have f103 := f4.stp (S7.tr (S14.tr (S65.tr (S70.tr (S82.tr (S96.tr S100)))))) rfl rfl
      refine WO.k1 trivial rfl rfl rfl rfl (rn_ld Try.isAgg23 rfl rfl (hvE (f103.ld 0 rfl rfl))) ?_
      refine WO.pn 1 rfl ?_
      obtain ⟨x67, hx67, h⟩ := Option.bind_eq_some_iff.mp h
      refine WO.k2 rfl rfl rfl rfl (rn_index g0_0 hx67 Try.runUnderlying23 Try.sizeOf22 rfl rfl rfl rfl) ?_
      have f104 := g0_0.stp (S3.tr (S7.tr (S14.tr (S65.tr (S70.tr (S82.tr (S96.tr S100))))))) rfl rfl
      obtain ⟨ax67, ux67, f105, hl106⟩ := f104.gSl hx67
      refine WO.k1 trivial rfl rfl rfl rfl (rn_ld Try.isAgg22 rfl rfl (hvE hl106)) ?_
      refine WO.k2 rfl rfl rfl rfl (rn_len Try.runUnderlying22 rfl rfl) ?_
      refine WO.pn 1 rfl ?_
      refine WO.fin ?_
      refine DN.seq ?_
      have hN107 : (x67.length : Int) ≤ 9223372036854775807 := f105.len_le
      obtain ⟨q17, hq109, hK108⟩ := Option.bind_eq_some_iff.mp h
      clear h
      refine WC.meet (fun L w' => ∃ (κ' : Col) (s18 : Bool), L = [(1, .pointer (some ⟨b1, 0, none⟩)), (3, .slice las7_0 s7.length lus7_0), (6, .slice a44 x44.length u44), (7, .int .i64 v47), (8, .int .i64 v52), (9, .bool s18), (46, .int .i64 (s7.length : Int)), (47, .int .i64 v47), (51, .int .i64 (IntKind.i64.wrap (v47 + 1))), (52, .int .i64 v52)] ∧ Stp [] K95 w101 κ' w' ∧ q17 = Sum.inr s18) ?_ ?_
      ·
       refine WC.block ?_
       refine WC.loop (fun k L w' => ∃ (κ' : Col) (v70 : Int) (s16 : Bool), L = [(1, .pointer (some ⟨b1, 0, none⟩)), (3, .slice las7_0 s7.length lus7_0), (6, .slice a44 x44.length u44), (7, .int .i64 v47), (8, .int .i64 v52), (9, .bool s16), (46, .int .i64 (s7.length : Int)), (47, .int .i64 v47), (51, .int .i64 (IntKind.i64.wrap (v47 + 1))), (52, .int .i64 v52), (69, .int .i64 (x67.length : Int)), (70, .int .i64 v70)] ∧ Stp [] K95 w101 κ' w' ∧ 0 ≤ v70 ∧ Int.toNat ((x67.length : Int) - v70) = k ∧ cntM (i_alikeStates_b10 p0 s7 v47 v52) k v70 s16 = some q17) ⟨_, _, ⟨K95, 0, ((x57 == x61) : Bool), rfl, (Stp.refl _ _).wk rfl, (by decide), (by simp), hq109⟩, fun a ha => (ha.more (ha.more (ha.more (ha.more (ha.more (ha.more (ha.more (ha.more (ha.more (ha.more (ha.more (ha.more ha.nil rfl) rfl) rfl) rfl) rfl) rfl) rfl) rfl) rfl) rfl) rfl) rfl)⟩ ?_
       rintro k _ w113 ⟨K114, v70, s16, rfl, S115, hj107, hJ107, h⟩
       rcases k with _ | k
       ·
        have hk116 := h; obtain ⟨o107, h⟩ := ex_eq (Sum.inr (Sum.inl s16) : (List Int) ⊕ ((Bool) ⊕ (Bool)))
        have hc107 : decide (v70 < (x67.length : Int)) = false := decide_eq_false (by omega)
        refine WC.seq ?_
        refine WC.rs [(0, 2)] rfl ?_
        refine WO.pn 1 rfl ?_
        refine WO.fin ?_
        refine DN.seq ?_
        refine WC.seq ?_
        refine WC.cf' rfl hc107 ?_
        refine WC.exit ?_
        refine DN.exitThen ?_
        refine DN.exitThen ?_
        obtain rfl := Option.some.inj h
        have h := hk116
        refine DN.hit ?_
        obtain rfl := Option.some.inj h
        exact DN.meet _ ⟨K114, (s16 : Bool), rfl, S115.wk rfl, rfl⟩ fun a ha => (ha.more (ha.more (ha.more (ha.more (ha.more (ha.more (ha.more (ha.more (ha.more (ha.more ha.nil rfl) rfl) rfl) rfl) rfl) rfl) rfl) rfl) rfl) rfl)
       ·
        obtain ⟨o107, h, hk116⟩ := Option.bind_eq_some_iff.mp h; unfold i_alikeStates_b10 at h
        have hc107 : decide (v70 < (x67.length : Int)) = true := decide_eq_true (by omega)
        refine WC.seq ?_
        refine WC.rs [(0, 2)] rfl ?_
        refine WO.pn 1 rfl ?_
        refine WO.fin ?_
        refine DN.seq ?_
        refine WC.seq ?_
        refine WC.ct' rfl hc107 ?_
        refine WC.skip ?_
        refine DN.seq ?_
        refine WC.seq ?_
        refine WC.block ?_
        refine WC.seq ?_
        refine WC.rs [(0, 2), (1, 2)] rfl ?_
        refine WO.pn 2 rfl ?_
        refine WO.fin ?_
        refine DN.seq ?_
        refine WC.rx (κ := K114) [0, 2, 3] none [(0, 2), (1, 2), (2, 2), (3, 2), (5, 2), (8, 2), (13, 2), (14, 2), (16, 2), (19, 2), (4, 0), (6, 2), (7, 0), (9, 2), (10, 0), (11, 2), (12, 0), (15, 0), (17, 2), (18, 0), (20, 2), (21, 0), (22, 2), (23, 0), (24, 2), (25, 2), (26, 2)] [] (by kernel_rfl) (by kernel_rfl) fun w118 S117 => ?_
        refine WO.pn 2 rfl ?_
        obtain ⟨p98, h, hK119⟩ := Option.bind_eq_some_iff.mp h
        refine WO.meet [(2, 2), (3, 2), (5, 2), (8, 2), (13, 2), (14, 2), (16, 2), (19, 2), (4, 0), (6, 2), (7, 0), (9, 2), (10, 0), (11, 2), (12, 0), (15, 0), (17, 2), (18, 0), (20, 2), (21, 0), (22, 2), (23, 0), (24, 2), (25, 2)] [(26, 2)] (fun L w' => L = [(1, .pointer (some ⟨b1, 0, none⟩)), (3, .slice las7_0 s7.length lus7_0), (6, .slice a44 x44.length u44), (7, .int .i64 v47), (8, .int .i64 v52), (9, .bool s16), (46, .int .i64 (s7.length : Int)), (47, .int .i64 v47), (51, .int .i64 (IntKind.i64.wrap (v47 + 1))), (52, .int .i64 v52), (69, .int .i64 (x67.length : Int)), (70, .int .i64 v70), (98, .bool p98)] ∧ ∃ κ', Stp [] K114 w118 κ' w') (Cl.refl _ _ _) ?_ ?_
        ·
         revert h
         cases ht120 : s16 with
         | true =>
          intro h; replace h := cT h
          refine WO.pn 1 rfl ?_
          refine WO.k2 rfl rfl rfl rfl (rn_fieldAddr Try.runUnderlying50 rfl Try.sizeOf23 rfl rfl) ?_
          refine WO.pn 3 rfl ?_
          refine WO.k2 rfl rfl rfl rfl (rn_fieldAddr Try.runUnderlying50 rfl Try.sizeOf23 rfl rfl) ?_
          refine WO.pn 2 rfl ?_
          have f121 := f103.stp (S115.tr S117) rfl rfl
          refine WO.k0 rfl rfl rfl rfl (rn_ld Try.isAgg23 rfl rfl (hvC (f121.ld 0 rfl rfl) rfl)) ?_
          obtain ⟨x79, hx79, h⟩ := Option.bind_eq_some_iff.mp h
          refine WO.k2 rfl rfl rfl rfl (rn_index f104 hx79 Try.runUnderlying23 Try.sizeOf22 rfl rfl rfl rfl) ?_
          have f122 := f104.stp (S115.tr S117) rfl rfl
          obtain ⟨ax79, ux79, f123, hl124⟩ := f122.gSl hx79
          refine WO.k0 rfl rfl rfl rfl (rn_ld Try.isAgg22 rfl rfl (hvC hl124 rfl)) ?_
          obtain ⟨x82, hx82, h⟩ := Option.bind_eq_some_iff.mp h
          refine WO.k2 rfl rfl rfl rfl (rn_index f123 hx82 Try.runUnderlying22 Try.sizeOf2 rfl rfl rfl rfl) ?_
          refine WO.k0 rfl rfl rfl rfl (rn_ld Try.isAgg2 rfl rfl (hvC (f123.gInt hx82) rfl)) ?_
          obtain ⟨x84, hx84, h⟩ := Option.bind_eq_some_iff.mp h
          refine WO.k2 rfl rfl rfl rfl (rn_index f102.rdc hx84 Try.runUnderlying22 Try.sizeOf2 rfl rfl rfl rfl) ?_
          have f125 := f102.stp (S115.tr S117) rfl rfl
          refine WO.k0 rfl rfl rfl rfl (rn_ld Try.isAgg2 rfl rfl (hvC (f125.rdc.gInt hx84) rfl)) ?_
          refine WO.k0 rfl rfl rfl rfl (rn_ld Try.isAgg23 rfl rfl (hvC (f121.ld 0 rfl rfl) rfl)) ?_
          obtain ⟨x90, hx90, h⟩ := Option.bind_eq_some_iff.mp h
          refine WO.k2 rfl rfl rfl rfl (rn_index f122 hx90 Try.runUnderlying23 Try.sizeOf22 rfl rfl rfl rfl) ?_
          obtain ⟨ax90, ux90, f126, hl127⟩ := f122.gSl hx90
          refine WO.k0 rfl rfl rfl rfl (rn_ld Try.isAgg22 rfl rfl (hvC hl127 rfl)) ?_
          obtain ⟨x93, hx93, h⟩ := Option.bind_eq_some_iff.mp h
          refine WO.k2 rfl rfl rfl rfl (rn_index f126 hx93 Try.runUnderlying22 Try.sizeOf2 rfl rfl rfl rfl) ?_
          refine WO.k0 rfl rfl rfl rfl (rn_ld Try.isAgg2 rfl rfl (hvC (f126.gInt hx93) rfl)) ?_
          obtain ⟨x95, hx95, h⟩ := Option.bind_eq_some_iff.mp h
          refine WO.k2 rfl rfl rfl rfl (rn_index f125.rdc hx95 Try.runUnderlying22 Try.sizeOf2 rfl rfl rfl rfl) ?_
          refine WO.k0 rfl rfl rfl rfl (rn_ld Try.isAgg2 rfl rfl (hvC (f125.rdc.gInt hx95) rfl)) ?_
          refine WO.pn 2 rfl ?_
          obtain rfl := Option.some.inj h
          exact WO.met _ (Cl.refl _ _ _) ⟨rfl, _, (Stp.refl _ _).wk rfl⟩ fun a ha => (ha.more (ha.more (ha.more (ha.more (ha.more (ha.more (ha.more (ha.more (ha.more (ha.more (ha.more (ha.more (ha.more ha.nil rfl) rfl) rfl) rfl) rfl) rfl) rfl) rfl) rfl) rfl) rfl) rfl) rfl)
         | false =>
          intro h; replace h := cF h
          refine WO.pn 8 rfl ?_
          refine WO.qs rfl rfl rfl rfl ?_
          refine WO.pn 1 rfl ?_
          refine WO.qs rfl rfl rfl rfl ?_
          refine WO.pn 1 rfl ?_
          refine WO.qs rfl rfl rfl rfl ?_
          refine WO.pn 1 rfl ?_
          refine WO.qs rfl rfl rfl rfl ?_
          refine WO.qs rfl rfl rfl rfl ?_
          refine WO.pn 1 rfl ?_
          refine WO.qs rfl rfl rfl rfl ?_
          refine WO.pn 1 rfl ?_
          refine WO.qs rfl rfl rfl rfl ?_
          refine WO.pn 1 rfl ?_
          refine WO.qs rfl rfl rfl rfl ?_
          refine WO.pn 2 rfl ?_
          obtain rfl := Option.some.inj h
          exact WO.met _ (Cl.refl _ _ _) ⟨rfl, _, (Stp.refl _ _).wk rfl⟩ fun a ha => (ha.more (ha.more (ha.more (ha.more (ha.more (ha.more (ha.more (ha.more (ha.more (ha.more (ha.more (ha.more (ha.more ha.nil rfl) rfl) rfl) rfl) rfl) rfl) rfl) rfl) rfl) rfl) rfl) rfl) rfl)
        rintro _ w128 _ ⟨rfl, K129, S130⟩
        have h := hK119
        refine WO.pn 1 rfl ?_
        refine WO.nx ?_
        refine WO.fin ?_
        refine DN.block ?_
        refine DN.seq ?_
        refine WC.rs [(0, 2), (1, 2)] rfl ?_
        refine WO.pn 2 rfl ?_
        refine WO.fin ?_
        have hw107 : IntKind.wrap .i64 (v70 + 1) = v70 + 1 := wr1 hj107 (of_decide_eq_true hc107) hN107
        rw [hw107]
        have hc107 := of_decide_eq_true hc107
        obtain rfl := Option.some.inj h
        refine DN.round fun a ha => ?_
        exact ⟨k, _, Nat.lt_succ_self _, ⟨K129, v70 + 1, (p98 : Bool), rfl, (S115.tr (S117.tr S130)).wk rfl, by omega, by omega, hk116⟩, (ha.more (ha.more (ha.more (ha.more (ha.more (ha.more (ha.more (ha.more (ha.more (ha.more (ha.more (ha.more ha.nil rfl) rfl) rfl) rfl) rfl) rfl) rfl) rfl) rfl) rfl) rfl) rfl)⟩
      rintro _ w110 ⟨K111, s18, rfl, S112, rfl⟩
      have h := hK108
      dsimp only [aft] at h
      refine DN.seq ?_
      refine WC.seq ?_
      refine WC.rs [(0, 2)] rfl ?_
      refine WO.pn 1 rfl ?_
      refine WO.fin ?_
      refine DN.seq ?_
      revert h
      cases ht131 : s18 with
      | true =>
       intro h; replace h := cT h
       refine WC.ct rfl ?_
       refine WC.seq ?_
       refine WC.rs [(0, 2), (1, 2), (2, 2), (3, 2), (4, 1)] rfl ?_
       refine WO.pn 3 rfl ?_
       obtain ⟨x104, hx104, h⟩ := Option.bind_eq_some_iff.mp h
       refine WO.k2 rfl rfl rfl rfl (rn_index f97.rdc hx104 Try.runUnderlying22 Try.sizeOf2 rfl rfl hn98 rfl) ?_
       have f132 := f97.stp (S100.tr S112) rfl rfl
       obtain ⟨y9, hy9, h⟩ := Option.bind_eq_some_iff.mp h
       refine WO.stI (κ := K111) (E := (Ep.int .i64)) 4 [] rfl rfl rfl rfl rfl rfl rfl rfl Try.sizeOf2 rfl rfl rfl rfl f132 hy9 fun w133 K134 S135 f136 => ⟨trivial, ?_⟩
       have hn137 : x44.length = y9.length := hn98.trans (setI_ok hy9).2.2.2.symm
       refine WO.fin ?_
       refine DN.seq ?_
       refine WC.exit ?_
       refine DN.miss rfl ?_
       refine DN.exitThen ?_
       refine DN.exitThen ?_
       obtain rfl := Option.some.inj h
       have h := hk99
       refine DN.hit ?_
       obtain rfl := Option.some.inj h
       exact DN.meet _ ⟨K134, (y9 : (List Int)), rfl, (S96.tr (S100.tr (S112.tr S135))).wk rfl, f136, hn137, rfl⟩ fun a ha => (ha.more (ha.more (ha.more (ha.more (ha.more ha.nil rfl) rfl) rfl) rfl) rfl)
      | false =>
       intro h; replace h := cF h
       refine WC.cf rfl ?_
       refine WC.skip ?_
       refine DN.block ?_
       refine DN.seq ?_
       refine WC.rs [(0, 2), (1, 2)] rfl ?_
       refine WO.pn 2 rfl ?_
       refine WO.fin ?_
       have hw86 : IntKind.wrap .i64 (v52 + 1) = v52 + 1 := wr1 hj86 (of_decide_eq_true hc86) hN86
       rw [hw86]
       have hc86 := of_decide_eq_true hc86
       have f138 := f97.stp (S100.tr S112) rfl rfl
       obtain rfl := Option.some.inj h
       refine DN.round fun a ha => ?_
       exact ⟨k, _, Nat.lt_succ_self _, ⟨K111, v52 + 1, (s13 : (List Int)), rfl, (S96.tr (S100.tr S112)).wk rfl, f138, hn98, by omega, by omega, hk99⟩, (ha.more (ha.more (ha.more (ha.more (ha.more (ha.more (ha.more (ha.more ha.nil rfl) rfl) rfl) rfl) rfl) rfl) rfl) rfl)⟩
    rintro _ w89 ⟨K90, s15, rfl, S91, f92, hn93, rfl⟩
    have h := hK87
    dsimp only [aft] at h
    refine DN.block ?_
    refine DN.seq ?_
    refine WC.rs [(0, 2), (1, 2)] rfl ?_
    refine WO.pn 2 rfl ?_
    refine WO.fin ?_
    have hw72 : IntKind.wrap .i64 (v47 + 1) = v47 + 1 := wr1 hj72 (of_decide_eq_true hc72) hN72
    rw [hw72]
    have hc72 := of_decide_eq_true hc72
    obtain rfl := Option.some.inj h
    refine DN.round fun a ha => ?_
    exact ⟨k, _, Nat.lt_succ_self _, ⟨K90, v47 + 1, (s15 : (List Int)), rfl, (S82.tr S91).wk rfl, f92, hn93, by omega, by omega, hk85⟩, (ha.more (ha.more (ha.more (ha.more (ha.more ha.nil rfl) rfl) rfl) rfl) rfl)⟩
  rintro _ w75 ⟨K76, s12, rfl, S77, f78, hn79, rfl⟩
  have h := hK73
  dsimp only [aft] at h
  refine DN.seq ?_
  refine WC.seq ?_
  refine WC.seq ?_
  refine WC.rs [(0, 2), (1, 2), (2, 1)] rfl ?_
  refine WO.pn 2 rfl ?_
  obtain ⟨x109, hx109, h⟩ := Option.bind_eq_some_iff.mp h
  have f139 := f66.stp (S70.tr S77) rfl rfl
  refine WO.call rfl rfl rfl rfl rfl rfl Try.call157 (Ret.cast (by simp only [hn79, List.cons_append, List.nil_append]) (slices_Equal_I_int64_ok (κ := fun b => mp [] 0 (K76 b)) (Sl.map f78.rdc (mp [] 0) rfl rfl) (Sl.map f139.rdc (mp [] 0) rfl rfl) hx109)) ?_
  rintro _ w140 ⟨k141, rfl, e142⟩
  obtain ⟨K143, S144, m145⟩ := Ent.mixed (l := []) (κ := K76) e142 5 rfl
  refine ⟨trivial, ?_⟩
  refine WO.fin ?_
  refine DN.seq ?_
  revert h
  cases ht147 : x109 with
  | true =>
   intro h; replace h := cT h
   refine WC.ct rfl ?_
   refine WC.seq ?_
   refine WC.rs [(0, 2), (1, 2)] rfl ?_
   refine WO.pn 2 rfl ?_
   refine WO.fin ?_
   refine DN.seq ?_
   refine WC.ret ?_
   refine DN.retThen ?_
   refine DN.retBlock ?_
   refine DN.retThen ?_
   obtain rfl := Option.some.inj h
   obtain rfl := Option.some.inj hk67
   have h := hK61
   dsimp only [aft] at h
   refine DN.retBlock ?_
   have f148 := hE.stp (S3.tr (S7.tr (S14.tr (S65.tr (S70.tr (S77.tr S144)))))) rfl rfl
   have f149 := f139.stp S144 rfl rfl
   refine DN.res (l := [.tmp 2]) Try.results149 (res_tmp rfl rfl) rfl ?_
   obtain rfl := Option.some.inj h
   exact ⟨(fun b => ren [(3, 2)] (K143 b)), las7_0, lus7_0, rfl, (f148.map (ren [(3, 2)]) rfl rfl), (f149.map (ren [(3, 2)]) rfl rfl)⟩
  | false =>
   intro h; replace h := cF h
   refine WC.cf rfl ?_
   refine WC.skip ?_
   refine DN.seq ?_
   refine WC.rs [(0, 2), (1, 2)] rfl ?_
   refine WO.pn 2 rfl ?_
   refine WO.fin ?_
   refine DN.block ?_
   have f150 := f78.stp S144 rfl rfl
   obtain rfl := Option.some.inj h
   refine DN.round fun a ha => ?_
   exact ⟨k, _, Nat.lt_succ_self _, ⟨(fun b => ren [(4, 3)] (K143 b)), (s12 : (List Int)), a44, u44, rfl, (Stp.ren ((S65.tr (S70.tr (S77.tr S144))).wk rfl) [(4, 3)] rfl), (f150.map (ren [(4, 3)]) rfl rfl), hk67⟩, (ha.more (ha.moreE ha.nil rfl (congrArg (fun n => Value.slice a44 n u44) hn79)) rfl)⟩

/- loop.example/g00869/laws.w9Ins -/
theorem l_w9Ins_ok {w : World} {κ : Col} {a0_0 : Option Addr} {u0_0 : Nat} {p0 : dice} {p1 : Int} {p2 : Int} {b0 : Nat} (g0_0 : Rd (Rp.int .u8) κ w 0 a0_0 u0_0 p0.b) (gb0 : Bc κ w 2 b0 199 [.slice a0_0 p0.b.length u0_0, .int .i64 p0.i, .int .u64 p0.h]) {r : (List Int) × Int × Int} (h : l_w9Ins p0 p1 p2 = some r) : Ret Try.prog 76 [.pointer (some ⟨b0, 0, none⟩), .int .i64 p1, .int .i64 p2] w (fun v w' => ∃ (κ' : Col) (ra0 : Option Addr) (ru0 : Nat), v = .slice ra0 r.1.length ru0 ∧ Ent κ w κ' w' ∧ Oc (Ep.int .i64) 2 κ' w' 3 ra0 ru0 r.1 ∧ Bc κ' w' 2 b0 199 [.slice a0_0 p0.b.length u0_0, .int .i64 r.2.1, .int .u64 r.2.2]) := by
 unfold l_w9Ins at h
 refine Ret.enter Try.func76 rfl Try.ntmps76 rfl ?_
 dsimp only [envOf]
 have hE := Ent.refl κ w
 refine WC.seq ?_
 refine WC.rs [(0, 2)] rfl ?_
 refine WO.pn 1 rfl ?_
 refine WO.fin ?_
 refine DN.seq ?_
 refine WC.seq ?_
 refine WC.rs [(0, 1), (1, 2)] rfl ?_
 refine WO.bl0 (κ := κ) (E := (Ep.int .i64)) 3 rfl rfl rfl rfl rfl Try.underlying22 Tryinfo2 rfl fun a8 u8 w1 K2 S3 f4 => ⟨trivial, ?_⟩
 refine WO.pn 1 rfl ?_
 refine WO.fin ?_
 refine DN.seq ?_
 refine WC.seq ?_
 obtain ⟨q2, hq7, hK6⟩ := Option.bind_eq_some_iff.mp h
 clear h
 refine WC.meet (fun L w' => ∃ (κ' : Col) (s3 : Int × (List Int) × Int × Int) (las3_0 : Option Addr) (lus3_0 : Nat), L = [(0, .pointer (some ⟨b0, 0, none⟩)), (7, .slice las3_0 s3.2.1.length lus3_0)] ∧ Stp [2, 3, 6] K2 w1 κ' w' ∧ Oc (Ep.int .i64) 2 κ' w' 3 las3_0 lus3_0 s3.2.1 ∧ Bc κ' w' 2 b0 199 [.slice a0_0 p0.b.length u0_0, .int .i64 s3.2.2.1, .int .u64 s3.2.2.2] ∧ q2 = Sum.inr s3) ?_ ?_
 ·
  refine WC.block ?_
  have f18 := gb0.stp S3 rfl rfl
  refine WC.loop (fun k L w' => ∃ (κ' : Col) (s1 : Int × (List Int) × Int × Int) (las1_0 : Option Addr) (lus1_0 : Nat), L = [(0, .pointer (some ⟨b0, 0, none⟩)), (1, .int .i64 p1), (2, .int .i64 s1.1), (7, .slice las1_0 s1.2.1.length lus1_0)] ∧ Stp [2, 3, 6] K2 w1 κ' w' ∧ Oc (Ep.int .i64) 2 κ' w' 3 las1_0 lus1_0 s1.2.1 ∧ Bc κ' w' 2 b0 199 [.slice a0_0 p0.b.length u0_0, .int .i64 s1.2.2.1, .int .u64 s1.2.2.2] ∧ whileM (l_w9Ins_b0 p0 p1) k s1 = some q2) ⟨_, _, ⟨K2, ((p2 : Int), (([] : List Int) : (List Int)), (p0.i : Int), (p0.h : Int)), a8, u8, rfl, (Stp.refl _ _).wk rfl, f4, f18, hq7⟩, fun a ha => (ha.more (ha.more (ha.more (ha.more ha.nil rfl) rfl) rfl) rfl)⟩ ?_
  rintro k _ w13 ⟨K14, s1, las1_0, lus1_0, rfl, S15, f16, f17, h⟩
  rcases k with _ | k
  ·
   cases h
  ·
   obtain ⟨o5, h, hk19⟩ := Option.bind_eq_some_iff.mp h; unfold l_w9Ins_b0 at h
   refine WC.seq ?_
   refine WC.seq ?_
   refine WC.rs [(0, 2), (1, 2)] rfl ?_
   refine WO.pn 2 rfl ?_
   refine WO.fin ?_
   refine DN.seq ?_
   revert h
   cases ht20 : decide (0 < s1.1) with
   | true =>
    intro h; replace h := cT h
    refine WC.ct rfl ?_
    refine WC.skip ?_
    refine DN.seq ?_
    refine WC.seq ?_
    refine WC.block ?_
    refine WC.rs [(0, 2), (1, 2), (2, 2), (3, 1), (4, 1), (5, 1), (6, 2)] rfl ?_
    refine WO.pn 3 rfl ?_
    obtain ⟨x16, hx16, h⟩ := Option.bind_eq_some_iff.mp h
    have f21 := g0_0.stp (S3.tr S15) rfl rfl
    refine WO.call rfl rfl rfl rfl rfl rfl Try.call73 (l_dice_below_ok (κ := fun b => mp [(2, 2)] 0 (K14 b)) (p0 := (⟨p0.b, s1.2.2.1, s1.2.2.2⟩ : dice)) (Sl.map f21 (mp [(2, 2)] 0) rfl rfl) (f17.map (mp [(2, 2)] 0) rfl rfl) hx16) ?_
    rintro _ w22 ⟨k23, rfl, e24, f25⟩
    obtain ⟨K26, S27, m28⟩ := Ent.mixed (l := [(2, 2)]) (κ := K14) e24 4 rfl
    refine ⟨trivial, ?_⟩
    have f30 := f25.mx m28 rfl (rfl : 4 + 2 = 6)
    refine WO.bl (κ := K26) (E := (Ep.int .i64)) 7 [] (parts := [(0, .tmp 16)]) (cells := [.int .i64 x16.1]) (xs := ([x16.1] : List Int)) rfl rfl rfl rfl rfl rfl Try.underlying22 Tryinfo2 rfl rfl rfl rfl rfl rfl rfl rfl rfl rfl ⟨[.int .i64 x16.1], [], Zl K26 w22 [], Zl K26 w22 [], rfl, Zl.sp (l1 := []) (l2 := []) rfl, Zl.sr (l1 := []) (l2 := []), rfl, rfl⟩ fun a17 u17 w31 K32 S33 f34 => ⟨trivial, ?_⟩
    obtain ⟨x18, hx18, h⟩ := Option.bind_eq_some_iff.mp h
    have f35 := f16.stp (S27.tr S33) rfl rfl
    refine WO.app (κ := K32) (E := (Ep.int .i64)) 3 [] rfl rfl rfl rfl rfl rfl rfl rfl rfl Try.underlying22 Tryinfo2 rfl rfl rfl rfl f35 (Sl.srcP (pu_int _) f34.rdc) sy_false hx18 rfl fun a18 u18 w36 K37 S38 f39 => ⟨trivial, ?_⟩
    refine WO.pn 1 rfl ?_
    refine WO.fin ?_
    refine DN.block ?_
    refine DN.seq ?_
    refine WC.rs [(0, 2), (1, 2), (2, 2)] rfl ?_
    refine WO.pn 3 rfl ?_
    refine WO.fin ?_
    have f40 := f30.stp (S33.tr S38) rfl rfl
    obtain rfl := Option.some.inj h
    refine DN.round fun a ha => ?_
    exact ⟨k, _, Nat.lt_succ_self _, ⟨(fun b => ren [(6, 2)] (K37 b)), (((IntKind.i64.wrap (s1.1 - 1)) : Int), (x18 : (List Int)), (x16.2.1 : Int), (x16.2.2 : Int)), a18, u18, rfl, (Stp.ren ((S15.tr (S27.tr (S33.tr S38))).wk rfl) [(6, 2)] rfl), (f39.map (ren [(6, 2)]) rfl rfl), (f40.map (ren [(6, 2)]) rfl rfl), hk19⟩, (ha.more (ha.more (ha.more (ha.more ha.nil rfl) rfl) rfl) rfl)⟩
   | false =>
    intro h; replace h := cF h
    refine WC.cf rfl ?_
    refine WC.exit ?_
    refine DN.exitThen ?_
    refine DN.exitThen ?_
    obtain rfl := Option.some.inj h
    have h := hk19
    refine DN.hit ?_
    obtain rfl := Option.some.inj h
    exact DN.meet _ ⟨K14, ((s1.1 : Int), (s1.2.1 : (List Int)), (s1.2.2.1 : Int), (s1.2.2.2 : Int)), las1_0, lus1_0, rfl, S15.wk rfl, f16, f17, rfl⟩ fun a ha => (ha.more (ha.more ha.nil rfl) rfl)
 rintro _ w8 ⟨K9, s3, las3_0, lus3_0, rfl, S10, f11, f12, rfl⟩
 have h := hK6
 dsimp only [aft] at h
 refine DN.seq ?_
 refine WC.seq ?_
 refine WC.rs [(0, 2), (1, 2)] rfl ?_
 refine WO.pn 2 rfl ?_
 refine WO.fin ?_
 refine DN.seq ?_
 refine WC.ret ?_
 have f41 := hE.stp (S3.tr S10) rfl rfl
 refine DN.res (l := [.tmp 6]) Try.results76 (res_tmp rfl rfl) rfl ?_
 obtain rfl := Option.some.inj h
 exact ⟨K9, las3_0, lus3_0, rfl, f41, f11, f12⟩

/- loop.example/g00869/spec.SigOk -/
theorem s_SigOk_ok {w : World} {κ : Col} {p0 : Sig}  {r : Bool} (h : s_SigOk p0 = some r) : Ret Try.prog 99 [.agg #[.int .i64 p0.In, .int .i64 p0.Out]] w (fun v w' => ∃ (κ' : Col), v = .bool r ∧ Ent κ w κ' w') := by
 unfold s_SigOk at h
 refine Ret.enter Try.func99 rfl Try.ntmps99 rfl ?_
 dsimp only [envOf]
 have hE := Ent.refl κ w
 refine WC.seq ?_
 refine WC.rs [(0, 1), (1, 2)] rfl ?_
 refine WO.box (κ := κ) 2 rfl rfl rfl rfl rfl rfl rfl fun b1 w1 K2 S3 f4 => ⟨trivial, ?_⟩
 refine WO.pn 1 rfl ?_
 refine WO.fin ?_
 refine DN.seq ?_
 refine WC.seq ?_
 refine WC.rs [(0, 2), (1, 1), (2, 1), (3, 2), (4, 2), (5, 1), (6, 1), (7, 2), (8, 2)] rfl ?_
 refine WO.k2 rfl rfl rfl rfl (rn_fieldAddr Try.runUnderlying53 rfl Try.sizeOf2 rfl rfl) ?_
 refine WO.k1 trivial rfl rfl rfl rfl (rn_ld Try.isAgg2 rfl rfl (hvE (f4.ld 0 rfl rfl))) ?_
 obtain ⟨x5, hx5, h⟩ := Option.bind_eq_some_iff.mp h
 refine WO.call rfl rfl rfl rfl rfl rfl Try.call150 (s_l1In_ok (κ := fun b => mp [] 0 (K2 b)) hx5) ?_
 rintro _ w5 ⟨k6, rfl, e7⟩
 obtain ⟨K8, S9, m10⟩ := Ent.mixed (l := []) (κ := K2) e7 3 rfl
 refine ⟨trivial, ?_⟩
 refine WO.pn 1 rfl ?_
 obtain ⟨p10, h, hK12⟩ := Option.bind_eq_some_iff.mp h
 refine WO.meet [(4, 2), (5, 1), (6, 1), (7, 2)] [(8, 2)] (fun L w' => L = [(2, .bool false), (10, .bool p10)] ∧ ∃ κ', Stp [] K8 w5 κ' w') trivial ?_ ?_
 ·
  revert h
  cases ht13 : x5 with
  | true =>
   intro h; replace h := cT h
   refine WO.k2 rfl rfl rfl rfl (rn_fieldAddr Try.runUnderlying53 rfl Try.sizeOf2 rfl rfl) ?_
   have f14 := f4.stp S9 rfl rfl
   refine WO.k1 trivial rfl rfl rfl rfl (rn_ld Try.isAgg2 rfl rfl (hvE (f14.ld 1 rfl rfl))) ?_
   obtain ⟨x9, hx9, h⟩ := Option.bind_eq_some_iff.mp h
   refine WO.call rfl rfl rfl rfl rfl rfl Try.call150 (s_l1In_ok (κ := fun b => mp [] 0 (K8 b)) hx9) ?_
   rintro _ w15 ⟨k16, rfl, e17⟩
   obtain ⟨K18, S19, m20⟩ := Ent.mixed (l := []) (κ := K8) e17 5 rfl
   refine ⟨trivial, ?_⟩
   refine WO.pn 1 rfl ?_
   obtain rfl := Option.some.inj h
   exact WO.met _ trivial ⟨rfl, _, S19.wk rfl⟩ fun a ha => (ha.more (ha.more ha.nil rfl) rfl)
  | false =>
   intro h; replace h := cF h
   refine WO.pn 1 rfl ?_
   refine WO.ls rfl rfl rfl rfl ?_
   refine WO.ls rfl rfl rfl rfl ?_
   refine WO.pn 1 rfl ?_
   obtain rfl := Option.some.inj h
   exact WO.met _ trivial ⟨rfl, _, (Stp.refl _ _).wk rfl⟩ fun a ha => (ha.more (ha.more ha.nil rfl) rfl)
 rintro _ w22 _ ⟨rfl, K23, S24⟩
 have h := hK12
 refine WO.pn 1 rfl ?_
 refine WO.fin ?_
 refine DN.seq ?_
 refine WC.ret ?_
 have f25 := hE.stp (S3.tr (S9.tr S24)) rfl rfl
 refine DN.res (l := [.tmp 2]) Try.results99 (res_tmp rfl rfl) rfl ?_
 obtain rfl := Option.some.inj h
 exact ⟨K23, rfl, f25⟩

/- loop.example/g00869/spec.l29Ins -/
theorem s_l29Ins_ok {w : World} {κ : Col} {p0 : Sig}  {r : Int} (h : s_l29Ins p0 = some r) : Ret Try.prog 151 [.agg #[.int .i64 p0.In, .int .i64 p0.Out]] w (fun v w' => ∃ (κ' : Col), v = .int .i64 r ∧ Ent κ w κ' w') := by
 unfold s_l29Ins at h
 refine Ret.enter Try.func151 rfl Try.ntmps151 rfl ?_
 dsimp only [envOf]
 have hE := Ent.refl κ w
 refine WC.seq ?_
 refine WC.rs [(0, 1), (1, 2)] rfl ?_
 refine WO.box (κ := κ) 2 rfl rfl rfl rfl rfl rfl rfl fun b1 w1 K2 S3 f4 => ⟨trivial, ?_⟩
 refine WO.pn 1 rfl ?_
 refine WO.fin ?_
 refine DN.seq ?_
 refine WC.seq ?_
 refine WC.rs [(0, 2), (1, 1), (2, 1), (3, 2)] rfl ?_
 refine WO.k2 rfl rfl rfl rfl (rn_fieldAddr Try.runUnderlying53 rfl Try.sizeOf2 rfl rfl) ?_
 refine WO.k1 trivial rfl rfl rfl rfl (rn_ld Try.isAgg2 rfl rfl (hvE (f4.ld 0 rfl rfl))) ?_
 obtain ⟨x5, hx5, h⟩ := Option.bind_eq_some_iff.mp h
 refine WO.call rfl rfl rfl rfl rfl rfl Try.call153 (s_l23Power_ok (κ := fun b => mp [] 0 (K2 b)) hx5) ?_
 rintro _ w5 ⟨k6, rfl, e7⟩
 obtain ⟨K8, S9, m10⟩ := Ent.mixed (l := []) (κ := K2) e7 3 rfl
 refine ⟨trivial, ?_⟩
 refine WO.pn 1 rfl ?_
 refine WO.fin ?_
 refine DN.seq ?_
 refine WC.ret ?_
 have f12 := hE.stp (S3.tr S9) rfl rfl
 refine DN.res (l := [.tmp 2]) Try.results151 (res_tmp rfl rfl) rfl ?_
 obtain rfl := Option.some.inj h
 exact ⟨K8, rfl, f12⟩

/- loop.example/g00869/spec.l23Below -/
theorem s_l23Below_ok {w : World} {κ : Col} {a0 : Option Addr} {u0 : Nat} {p0 : (List Int)} {p1 : Int} (g0 : Rd (Rp.int .i64) κ w 0 a0 u0 p0) {r : Bool} (h : s_l23Below p0 p1 = some r) : Ret Try.prog 152 [.slice a0 p0.length u0, .int .i64 p1] w (fun v w' => ∃ (κ' : Col), v = .bool r ∧ Ent κ w κ' w') := by
 unfold s_l23Below at h
 refine Ret.enter Try.func152 rfl Try.ntmps152 rfl ?_
 dsimp only [envOf]
 have hE := Ent.refl κ w
 refine WC.seq ?_
 refine WC.rs [(0, 2)] rfl ?_
 refine WO.pn 1 rfl ?_
 refine WO.fin ?_
 refine DN.seq ?_
 refine WC.seq ?_
 refine WC.seq ?_
 refine WC.rs [(0, 2)] rfl ?_
 refine WO.pn 1 rfl ?_
 refine WO.fin ?_
 refine DN.seq ?_
 have hN1 : (p0.length : Int) ≤ 9223372036854775807 := g0.len_le
 obtain ⟨q2, hq3, hK2⟩ := Option.bind_eq_some_iff.mp h
 clear h
 refine WC.meet (fun L w' => ∃ (κ' : Col), L = [] ∧ Stp [] κ w κ' w' ∧ q2 = Sum.inr ()) ?_ ?_
 ·
  refine WC.block ?_
  refine WC.loop (fun k L w' => ∃ (κ' : Col) (v5 : Int), L = [(0, .slice a0 p0.length u0), (1, .int .i64 p1), (5, .int .i64 v5)] ∧ Stp [] κ w κ' w' ∧ 0 ≤ v5 ∧ Int.toNat ((p0.length : Int) - v5) = k ∧ cntM (s_l23Below_b0 p0 p1) k v5 () = some q2) ⟨_, _, ⟨κ, 0, rfl, (Stp.refl _ _).wk rfl, (by decide), (by simp), hq3⟩, fun a ha => (ha.more (ha.more (ha.more ha.nil rfl) rfl) rfl)⟩ ?_
  rintro k _ w7 ⟨K8, v5, rfl, S9, hj1, hJ1, h⟩
  rcases k with _ | k
  ·
   have hk10 := h; obtain ⟨o1, h⟩ := ex_eq (Sum.inr (Sum.inl ()) : Bool ⊕ ((Unit) ⊕ (Unit)))
   have hc1 : decide (v5 < (p0.length : Int)) = false := decide_eq_false (by omega)
   refine WC.seq ?_
   refine WC.seq ?_
   refine WC.rs [(0, 2), (1, 2), (2, 2), (3, 2)] rfl ?_
   refine WO.pn 2 rfl ?_
   refine WO.k2 rfl rfl rfl rfl (rn_len Try.runUnderlying22 rfl rfl) ?_
   refine WO.pn 1 rfl ?_
   refine WO.fin ?_
   refine DN.seq ?_
   refine WC.cf' rfl hc1 ?_
   refine WC.exit ?_
   refine DN.exitThen ?_
   refine DN.exitThen ?_
   obtain rfl := Option.some.inj h
   have h := hk10
   refine DN.hit ?_
   obtain rfl := Option.some.inj h
   exact DN.meet _ ⟨K8, rfl, S9.wk rfl, rfl⟩ fun a ha => ha.nil
  ·
   obtain ⟨o1, h, hk10⟩ := Option.bind_eq_some_iff.mp h; unfold s_l23Below_b0 at h
   have hc1 : decide (v5 < (p0.length : Int)) = true := decide_eq_true (by omega)
   refine WC.seq ?_
   refine WC.seq ?_
   refine WC.rs [(0, 2), (1, 2), (2, 2), (3, 2)] rfl ?_
   refine WO.pn 2 rfl ?_
   refine WO.k2 rfl rfl rfl rfl (rn_len Try.runUnderlying22 rfl rfl) ?_
   refine WO.pn 1 rfl ?_
   refine WO.fin ?_
   refine DN.seq ?_
   refine WC.ct' rfl hc1 ?_
   refine WC.skip ?_
   refine DN.seq ?_
   refine WC.seq ?_
   refine WC.block ?_
   refine WC.seq ?_
   refine WC.rs [(0, 2), (1, 2), (2, 2), (3, 1), (4, 2), (5, 2), (6, 1), (7, 2)] rfl ?_
   refine WO.pn 2 rfl ?_
   obtain ⟨x14, hx14, h⟩ := Option.bind_eq_some_iff.mp h
   refine WO.k2 rfl rfl rfl rfl (rn_index g0 hx14 Try.runUnderlying22 Try.sizeOf2 rfl rfl rfl rfl) ?_
   have f11 := g0.stp S9 rfl rfl
   refine WO.k1 trivial rfl rfl rfl rfl (rn_ld Try.isAgg2 rfl rfl (hvE (f11.gInt hx14))) ?_
   refine WO.pn 2 rfl ?_
   obtain ⟨x18, hx18, h⟩ := Option.bind_eq_some_iff.mp h
   refine WO.call rfl rfl rfl rfl rfl rfl Try.call150 (s_l1In_ok (κ := fun b => mp [] 0 (K8 b)) hx18) ?_
   rintro _ w12 ⟨k13, rfl, e14⟩
   obtain ⟨K15, S16, m17⟩ := Ent.mixed (l := []) (κ := K8) e14 2 rfl
   refine ⟨trivial, ?_⟩
   refine WO.pn 1 rfl ?_
   refine WO.fin ?_
   refine DN.seq ?_
   revert h
   cases ht19 : (!x18) with
   | true =>
    intro h; replace h := cT h
    refine WC.ct rfl ?_
    refine WC.seq ?_
    refine WC.rs [(0, 2)] rfl ?_
    refine WO.pn 1 rfl ?_
    refine WO.fin ?_
    refine DN.seq ?_
    refine WC.ret ?_
    refine DN.retBlock ?_
    refine DN.retThen ?_
    refine DN.retThen ?_
    obtain rfl := Option.some.inj h
    obtain rfl := Option.some.inj hk10
    have h := hK2
    dsimp only [aft] at h
    refine DN.retBlock ?_
    refine DN.retMeet ?_
    refine DN.retThen ?_
    have f20 := hE.stp (S9.tr S16) rfl rfl
    refine DN.res (l := [.tmp 4]) Try.results152 (res_tmp rfl rfl) rfl ?_
    obtain rfl := Option.some.inj h
    exact ⟨K15, rfl, f20⟩
   | false =>
    intro h; replace h := cF h
    refine WC.cf rfl ?_
    refine WC.skip ?_
    refine DN.block ?_
    refine DN.seq ?_
    refine WC.rs [(0, 2), (1, 2), (2, 2)] rfl ?_
    refine WO.pn 3 rfl ?_
    refine WO.fin ?_
    have hw1 : IntKind.wrap .i64 (v5 + 1) = v5 + 1 := wr1 hj1 (of_decide_eq_true hc1) hN1
    rw [hw1]
    have hc1 := of_decide_eq_true hc1
    obtain rfl := Option.some.inj h
    refine DN.round fun a ha => ?_
    exact ⟨k, _, Nat.lt_succ_self _, ⟨K15, v5 + 1, rfl, (S9.tr S16).wk rfl, by omega, by omega, hk10⟩, (ha.more (ha.more (ha.more ha.nil rfl) rfl) rfl)⟩
 rintro _ w4 ⟨K5, rfl, S6, rfl⟩
 have h := hK2
 dsimp only [aft] at h
 refine DN.seq ?_
 refine WC.seq ?_
 refine WC.rs [(0, 2)] rfl ?_
 refine WO.pn 1 rfl ?_
 refine WO.fin ?_
 refine DN.seq ?_
 refine WC.ret ?_
 have f21 := hE.stp S6 rfl rfl
 refine DN.res (l := [.tmp 4]) Try.results152 (res_tmp rfl rfl) rfl ?_
 obtain rfl := Option.some.inj h
 exact ⟨K5, rfl, f21⟩

/- slices.Contains[[][2]int64,[2]int64] -/
theorem slices_Contains_2_int64_2_int64_ok {w : World} {κ : Col} {a0 : Option Addr} {u0 : Nat} {p0 : (List (Int × Int))} {p1 : (Int × Int)} (g0 : Rd (Rp.pair (Rp.int .i64) (Rp.int .i64)) κ w 0 a0 u0 p0) {r : Bool} (h : slices_Contains_2_int64_2_int64 p0 p1 = some r) : Ret Try.prog 114 [.slice a0 p0.length u0, .agg #[.int .i64 p1.1, .int .i64 p1.2]] w (fun v w' => ∃ (κ' : Col), v = .bool r ∧ Ent κ w κ' w') := by
 unfold slices_Contains_2_int64_2_int64 at h
 refine Ret.enter Try.func114 rfl Try.ntmps114 rfl ?_
 dsimp only [envOf]
 have hE := Ent.refl κ w
 refine WC.seq ?_
 refine WC.rs [(0, 1), (1, 2)] rfl ?_
 refine WO.box (κ := κ) 2 rfl rfl rfl rfl rfl rfl rfl fun b3 w1 K2 S3 f4 => ⟨trivial, ?_⟩
 refine WO.pn 1 rfl ?_
 refine WO.fin ?_
 refine DN.seq ?_
 refine WC.seq ?_
 refine WC.rs [(0, 2), (1, 1), (2, 1), (3, 2), (4, 2)] rfl ?_
 refine WO.pn 1 rfl ?_
 refine WO.k1 trivial rfl rfl rfl rfl (rn_la (cs := [.int .i64 p1.1, .int .i64 p1.2]) Try.isAgg152 Try.sizeOf152 rfl rfl rfl (haE f4.cells)) ?_
 obtain ⟨x7, hx7, h⟩ := Option.bind_eq_some_iff.mp h
 have f5 := g0.stp S3 rfl rfl
 refine WO.call rfl rfl rfl rfl rfl rfl Try.call174 (slices_Index_2_int64_2_int64_ok (κ := fun b => mp [] 0 (K2 b)) (p1 := p1) (Sl.map f5 (mp [] 0) rfl rfl) hx7) ?_
 rintro _ w6 ⟨k7, rfl, e8⟩
 obtain ⟨K9, S10, m11⟩ := Ent.mixed (l := []) (κ := K2) e8 3 rfl
 refine ⟨trivial, ?_⟩
 refine WO.pn 2 rfl ?_
 refine WO.fin ?_
 refine DN.seq ?_
 refine WC.ret ?_
 have f13 := hE.stp (S3.tr S10) rfl rfl
 refine DN.res (l := [.tmp 4]) Try.results114 (res_tmp rfl rfl) rfl ?_
 obtain rfl := Option.some.inj h
 exact ⟨K9, rfl, f13⟩

/- loop.example/g00869/spec.l29Alike -/
theorem s_l29Alike_ok {w : World} {κ : Col} {a0_0 : Option Addr} {u0_0 : Nat} {a0_1 : Option Addr} {u0_1 : Nat} {p0 : Machine} (g0_0 : Rd (Rp.sl (Rp.int .i64)) κ w 0 a0_0 u0_0 p0.Next) (g0_1 : Rd (Rp.sl (Rp.int .i64)) κ w 0 a0_1 u0_1 p0.Out) {r : (List Int)} (h : s_l29Alike p0 = some r) : Ret Try.prog 158 [.agg #[.slice a0_0 p0.Next.length u0_0, .slice a0_1 p0.Out.length u0_1]] w (fun v w' => ∃ (κ' : Col) (ra0 : Option Addr) (ru0 : Nat), v = .slice ra0 r.length ru0 ∧ Ent κ w κ' w' ∧ Oc (Ep.int .i64) 2 κ' w' 2 ra0 ru0 r) := by
 unfold s_l29Alike at h
 refine Ret.enter Try.func158 rfl Try.ntmps158 rfl ?_
 dsimp only [envOf]
 have hE := Ent.refl κ w
 refine WC.seq ?_
 refine WC.rs [(0, 1), (1, 2)] rfl ?_
 refine WO.box (κ := κ) 2 rfl rfl rfl rfl rfl rfl rfl fun b1 w1 K2 S3 f4 => ⟨trivial, ?_⟩
 refine WO.pn 1 rfl ?_
 refine WO.fin ?_
 refine DN.seq ?_
 refine WC.seq ?_
 refine WC.rs [(0, 2), (1, 1), (2, 2), (3, 1), (4, 2)] rfl ?_
 refine WO.k2 rfl rfl rfl rfl (rn_fieldAddr Try.runUnderlying50 rfl Try.sizeOf23 rfl rfl) ?_
 refine WO.k1 trivial rfl rfl rfl rfl (rn_ld Try.isAgg23 rfl rfl (hvE (f4.ld 0 rfl rfl))) ?_
 refine WO.k2 rfl rfl rfl rfl (rn_len Try.runUnderlying23 rfl rfl) ?_
 obtain ⟨x10, hx10, h⟩ := Option.bind_eq_some_iff.mp h
 refine WO.mk (κ := K2) (E := (Ep.int .i64)) (z := (0 : Int)) 3 rfl rfl rfl rfl rfl rfl rfl Try.underlying22 Tryinfo2 rfl rfl rfl rfl rfl (fun _ _ _ => rfl) (mkS_C hx10) fun a10 u10 w5 K6 S7 f8 => ⟨trivial, ?_⟩
 refine WO.pn 1 rfl ?_
 refine WO.fin ?_
 refine DN.seq ?_
 obtain ⟨q2, hq11, hK10⟩ := Option.bind_eq_some_iff.mp h
 clear h
 refine WC.block ?_
 refine WC.loop (fun k L w' => ∃ (κ' : Col) (s1 : (List Int)) (las1_0 : Option Addr) (lus1_0 : Nat), L = [(1, .pointer (some ⟨b1, 0, none⟩)), (3, .slice las1_0 s1.length lus1_0)] ∧ Stp [4] K6 w5 κ' w' ∧ Oc (Ep.int .i64) 2 κ' w' 3 las1_0 lus1_0 s1 ∧ whileM (s_l29Alike_b0 p0) k s1 = some q2) ⟨_, _, ⟨K6, (x10 : (List Int)), a10, u10, rfl, (Stp.refl _ _).wk rfl, f8, hq11⟩, fun a ha => (ha.more (ha.more ha.nil rfl) rfl)⟩ ?_
 rintro k _ w12 ⟨K13, s1, las1_0, lus1_0, rfl, S14, f15, h⟩
 rcases k with _ | k
 ·
  cases h
 ·
  obtain ⟨o9, h, hk16⟩ := Option.bind_eq_some_iff.mp h; unfold s_l29Alike_b0 at h
  refine WC.block ?_
  refine WC.seq ?_
  refine WC.rs [(0, 1), (1, 2)] rfl ?_
  refine WO.bl0 (κ := K13) (E := (Ep.int .i64)) 4 rfl rfl rfl rfl rfl Try.underlying22 Tryinfo2 rfl fun a11 u11 w17 K18 S19 f20 => ⟨trivial, ?_⟩
  refine WO.pn 1 rfl ?_
  refine WO.fin ?_
  refine DN.seq ?_
  refine WC.seq ?_
  refine WC.seq ?_
  refine WC.rs [(0, 2)] rfl ?_
  refine WO.pn 1 rfl ?_
  refine WO.fin ?_
  refine DN.seq ?_
  have hN21 : (s1.length : Int) ≤ 9223372036854775807 := f15.len_le
  obtain ⟨q5, hq23, hK22⟩ := Option.bind_eq_some_iff.mp h
  clear h
  refine WC.meet (fun L w' => ∃ (κ' : Col) (s6 : (List Int)) (las6_0 : Option Addr) (lus6_0 : Nat), L = [(1, .pointer (some ⟨b1, 0, none⟩)), (3, .slice las1_0 s1.length lus1_0), (4, .slice las6_0 s6.length lus6_0)] ∧ Stp [4] K18 w17 κ' w' ∧ Oc (Ep.int .i64) 2 κ' w' 4 las6_0 lus6_0 s6 ∧ q5 = Sum.inr s6) ?_ ?_
  ·
   refine WC.block ?_
   refine WC.loop (fun k L w' => ∃ (κ' : Col) (v5 : Int) (s4 : (List Int)) (las4_0 : Option Addr) (lus4_0 : Nat), L = [(1, .pointer (some ⟨b1, 0, none⟩)), (3, .slice las1_0 s1.length lus1_0), (4, .slice las4_0 s4.length lus4_0), (5, .int .i64 v5)] ∧ Stp [4] K18 w17 κ' w' ∧ Oc (Ep.int .i64) 2 κ' w' 4 las4_0 lus4_0 s4 ∧ 0 ≤ v5 ∧ Int.toNat ((s1.length : Int) - v5) = k ∧ cntM (s_l29Alike_b2 p0 s1) k v5 s4 = some q5) ⟨_, _, ⟨K18, 0, (([] : List Int) : (List Int)), a11, u11, rfl, (Stp.refl _ _).wk rfl, f20, (by decide), (by simp), hq23⟩, fun a ha => (ha.more (ha.more (ha.more (ha.more ha.nil rfl) rfl) rfl) rfl)⟩ ?_
   rintro k _ w28 ⟨K29, v5, s4, las4_0, lus4_0, rfl, S30, f31, hj21, hJ21, h⟩
   rcases k with _ | k
   ·
    have hk32 := h; obtain ⟨o21, h⟩ := ex_eq (Sum.inr (Sum.inl s4) : (List Int) ⊕ (((List Int)) ⊕ ((List Int))))
    have hc21 : decide (v5 < (s1.length : Int)) = false := decide_eq_false (by omega)
    refine WC.seq ?_
    refine WC.seq ?_
    refine WC.rs [(0, 2), (1, 2), (2, 2), (3, 2)] rfl ?_
    refine WO.pn 2 rfl ?_
    refine WO.k2 rfl rfl rfl rfl (rn_len Try.runUnderlying22 rfl rfl) ?_
    refine WO.pn 1 rfl ?_
    refine WO.fin ?_
    refine DN.seq ?_
    refine WC.cf' rfl hc21 ?_
    refine WC.exit ?_
    refine DN.exitThen ?_
    refine DN.exitThen ?_
    obtain rfl := Option.some.inj h
    have h := hk32
    refine DN.hit ?_
    obtain rfl := Option.some.inj h
    exact DN.meet _ ⟨K29, (s4 : (List Int)), las4_0, lus4_0, rfl, S30.wk rfl, f31, rfl⟩ fun a ha => (ha.more (ha.more (ha.more ha.nil rfl) rfl) rfl)
   ·
    obtain ⟨o21, h, hk32⟩ := Option.bind_eq_some_iff.mp h; unfold s_l29Alike_b2 at h
    have hc21 : decide (v5 < (s1.length : Int)) = true := decide_eq_true (by omega)
    refine WC.seq ?_
    refine WC.seq ?_
    refine WC.rs [(0, 2), (1, 2), (2, 2), (3, 2)] rfl ?_
    refine WO.pn 2 rfl ?_
    refine WO.k2 rfl rfl rfl rfl (rn_len Try.runUnderlying22 rfl rfl) ?_
    refine WO.pn 1 rfl ?_
    refine WO.fin ?_
    refine DN.seq ?_
    refine WC.ct' rfl hc21 ?_
    refine WC.skip ?_
    refine DN.seq ?_
    refine WC.seq ?_
    refine WC.block ?_
    refine WC.seq ?_
    refine WC.rs [(0, 2)] rfl ?_
    refine WO.pn 1 rfl ?_
    refine WO.fin ?_
    refine DN.seq ?_
    refine WC.seq ?_
    obtain ⟨q8, hq35, hK34⟩ := Option.bind_eq_some_iff.mp h
    clear h
    refine WC.meet (fun L w' => ∃ (κ' : Col) (s9 : Int), L = [(1, .pointer (some ⟨b1, 0, none⟩)), (3, .slice las1_0 s1.length lus1_0), (4, .slice las4_0 s4.length lus4_0), (5, .int .i64 v5), (6, .int .i64 s9)] ∧ Stp [] K29 w28 κ' w' ∧ q8 = Sum.inr s9) ?_ ?_
    ·
     refine WC.block ?_
     refine WC.loop (fun k L w' => ∃ (κ' : Col) (s7 : Int), L = [(1, .pointer (some ⟨b1, 0, none⟩)), (3, .slice las1_0 s1.length lus1_0), (4, .slice las4_0 s4.length lus4_0), (5, .int .i64 v5), (6, .int .i64 s7)] ∧ Stp [] K29 w28 κ' w' ∧ whileM (s_l29Alike_b4 p0 s1 v5) k s7 = some q8) ⟨_, _, ⟨K29, (0 : Int), rfl, (Stp.refl _ _).wk rfl, hq35⟩, fun a ha => (ha.more (ha.more (ha.more (ha.more (ha.more ha.nil rfl) rfl) rfl) rfl) rfl)⟩ ?_
     rintro k _ w39 ⟨K40, s7, rfl, S41, h⟩
     rcases k with _ | k
     ·
      cases h
     ·
      obtain ⟨o33, h, hk42⟩ := Option.bind_eq_some_iff.mp h; unfold s_l29Alike_b4 at h
      refine WC.seq ?_
      refine WC.seq ?_
      refine WC.rs [(0, 1), (1, 2), (2, 2), (3, 2), (4, 1), (5, 2)] rfl ?_
      have f43 := f4.stp (S7.tr (S14.tr (S19.tr (S30.tr S41)))) rfl rfl
      refine WO.k1 trivial rfl rfl rfl rfl (rn_la (cs := [.slice a0_0 p0.Next.length u0_0, .slice a0_1 p0.Out.length u0_1]) Try.isAgg50 Try.sizeOf50 rfl rfl rfl (haE f43.cells)) ?_
      refine WO.pn 3 rfl ?_
      obtain ⟨x22, hx22, h⟩ := Option.bind_eq_some_iff.mp h
      have f44 := g0_0.stp (S3.tr (S7.tr (S14.tr (S19.tr (S30.tr S41))))) rfl rfl
      have f45 := g0_1.stp (S3.tr (S7.tr (S14.tr (S19.tr (S30.tr S41))))) rfl rfl
      have f46 := f15.stp (S19.tr (S30.tr S41)) rfl rfl
      refine WO.call rfl rfl rfl rfl rfl rfl Try.call208 (s_l29Near_ok (κ := fun b => mp [] 0 (K40 b)) (p0 := p0) (Sl.map f44 (mp [] 0) rfl rfl) (Sl.map f45 (mp [] 0) rfl rfl) (Sl.map f46.rdc (mp [] 0) rfl rfl) hx22) ?_
      rintro _ w47 ⟨k48, rfl, e49⟩
      obtain ⟨K50, S51, m52⟩ := Ent.mixed (l := []) (κ := K40) e49 5 rfl
      refine ⟨trivial, ?_⟩
      refine WO.pn 1 rfl ?_
      refine WO.fin ?_
      refine DN.seq ?_
      revert h
      cases ht54 : (!x22) with
      | true =>
       intro h; replace h := cT h
       refine WC.ct rfl ?_
       refine WC.skip ?_
       refine DN.seq ?_
       refine WC.block ?_
       refine WC.rs [(0, 2), (1, 2), (2, 2)] rfl ?_
       refine WO.pn 3 rfl ?_
       refine WO.fin ?_
       refine DN.block ?_
       obtain rfl := Option.some.inj h
       refine DN.round fun a ha => ?_
       exact ⟨k, _, Nat.lt_succ_self _, ⟨K50, ((IntKind.i64.wrap (s7 + 1)) : Int), rfl, (S41.tr S51).wk rfl, hk42⟩, (ha.more (ha.more (ha.more (ha.more (ha.more ha.nil rfl) rfl) rfl) rfl) rfl)⟩
      | false =>
       intro h; replace h := cF h
       refine WC.cf rfl ?_
       refine WC.exit ?_
       refine DN.exitThen ?_
       refine DN.exitThen ?_
       obtain rfl := Option.some.inj h
       have h := hk42
       refine DN.hit ?_
       obtain rfl := Option.some.inj h
       exact DN.meet _ ⟨K50, (s7 : Int), rfl, (S41.tr S51).wk rfl, rfl⟩ fun a ha => (ha.more (ha.more (ha.more (ha.more (ha.more ha.nil rfl) rfl) rfl) rfl) rfl)
    rintro _ w36 ⟨K37, s9, rfl, S38, rfl⟩
    have h := hK34
    dsimp only [aft] at h
    refine DN.seq ?_
    refine WC.rs [(0, 2), (1, 2), (2, 1), (3, 1), (4, 2)] rfl ?_
    refine WO.pn 2 rfl ?_
    refine WO.bl (κ := K37) (E := (Ep.int .i64)) 5 [] (parts := [(0, .tmp 27)]) (cells := [.int .i64 s9]) (xs := ([s9] : List Int)) rfl rfl rfl rfl rfl rfl Try.underlying22 Tryinfo2 rfl rfl rfl rfl rfl rfl rfl rfl rfl rfl ⟨[.int .i64 s9], [], Zl K37 w36 [], Zl K37 w36 [], rfl, Zl.sp (l1 := []) (l2 := []) rfl, Zl.sr (l1 := []) (l2 := []), rfl, rfl⟩ fun a28 u28 w55 K56 S57 f58 => ⟨trivial, ?_⟩
    obtain ⟨x29, hx29, h⟩ := Option.bind_eq_some_iff.mp h
    have f59 := f31.stp (S38.tr S57) rfl rfl
    refine WO.app (κ := K56) (E := (Ep.int .i64)) 4 [] rfl rfl rfl rfl rfl rfl rfl rfl rfl Try.underlying22 Tryinfo2 rfl rfl rfl rfl f59 (Sl.srcP (pu_int _) f58.rdc) sy_false hx29 rfl fun a29 u29 w60 K61 S62 f63 => ⟨trivial, ?_⟩
    refine WO.pn 1 rfl ?_
    refine WO.fin ?_
    refine DN.block ?_
    refine DN.seq ?_
    refine WC.rs [(0, 2), (1, 2), (2, 2)] rfl ?_
    refine WO.pn 3 rfl ?_
    refine WO.fin ?_
    have hw21 : IntKind.wrap .i64 (v5 + 1) = v5 + 1 := wr1 hj21 (of_decide_eq_true hc21) hN21
    rw [hw21]
    have hc21 := of_decide_eq_true hc21
    obtain rfl := Option.some.inj h
    refine DN.round fun a ha => ?_
    exact ⟨k, _, Nat.lt_succ_self _, ⟨K61, v5 + 1, (x29 : (List Int)), a29, u29, rfl, (S30.tr (S38.tr (S57.tr S62))).wk rfl, f63, by omega, by omega, hk32⟩, (ha.more (ha.more (ha.more (ha.more ha.nil rfl) rfl) rfl) rfl)⟩
  rintro _ w24 ⟨K25, s6, las6_0, lus6_0, rfl, S26, f27, rfl⟩
  have h := hK22
  dsimp only [aft] at h
  refine DN.seq ?_
  refine WC.seq ?_
  refine WC.seq ?_
  refine WC.rs [(0, 2), (1, 2), (2, 1)] rfl ?_
  refine WO.pn 2 rfl ?_
  obtain ⟨x32, hx32, h⟩ := Option.bind_eq_some_iff.mp h
  have f64 := f15.stp (S19.tr S26) rfl rfl
  refine WO.call rfl rfl rfl rfl rfl rfl Try.call209 (s_l7Same_ok (κ := fun b => mp [] 0 (K25 b)) (Sl.map f27.rdc (mp [] 0) rfl rfl) (Sl.map f64.rdc (mp [] 0) rfl rfl) hx32) ?_
  rintro _ w65 ⟨k66, rfl, e67⟩
  obtain ⟨K68, S69, m70⟩ := Ent.mixed (l := []) (κ := K25) e67 5 rfl
  refine ⟨trivial, ?_⟩
  refine WO.fin ?_
  refine DN.seq ?_
  revert h
  cases ht72 : x32 with
  | true =>
   intro h; replace h := cT h
   refine WC.ct rfl ?_
   refine WC.seq ?_
   refine WC.rs [(0, 2), (1, 2)] rfl ?_
   refine WO.pn 2 rfl ?_
   refine WO.fin ?_
   refine DN.seq ?_
   refine WC.ret ?_
   refine DN.retThen ?_
   refine DN.retBlock ?_
   refine DN.retThen ?_
   obtain rfl := Option.some.inj h
   obtain rfl := Option.some.inj hk16
   have h := hK10
   dsimp only [aft] at h
   refine DN.retBlock ?_
   have f73 := hE.stp (S3.tr (S7.tr (S14.tr (S19.tr (S26.tr S69))))) rfl rfl
   have f74 := f64.stp S69 rfl rfl
   refine DN.res (l := [.tmp 2]) Try.results158 (res_tmp rfl rfl) rfl ?_
   obtain rfl := Option.some.inj h
   exact ⟨(fun b => ren [(3, 2)] (K68 b)), las1_0, lus1_0, rfl, (f73.map (ren [(3, 2)]) rfl rfl), (f74.map (ren [(3, 2)]) rfl rfl)⟩
  | false =>
   intro h; replace h := cF h
   refine WC.cf rfl ?_
   refine WC.skip ?_
   refine DN.seq ?_
   refine WC.rs [(0, 2), (1, 2)] rfl ?_
   refine WO.pn 2 rfl ?_
   refine WO.fin ?_
   refine DN.block ?_
   have f75 := f27.stp S69 rfl rfl
   obtain rfl := Option.some.inj h
   refine DN.round fun a ha => ?_
   exact ⟨k, _, Nat.lt_succ_self _, ⟨(fun b => ren [(4, 3)] (K68 b)), (s6 : (List Int)), las6_0, lus6_0, rfl, (Stp.ren ((S14.tr (S19.tr (S26.tr S69))).wk rfl) [(4, 3)] rfl), (f75.map (ren [(4, 3)]) rfl rfl), hk16⟩, (ha.more (ha.more ha.nil rfl) rfl)⟩

/- loop.example/g00869/spec.l29Found -/
theorem s_l29Found_ok {w : World} {κ : Col} {a0_0 : Option Addr} {u0_0 : Nat} {a0_1 : Option Addr} {u0_1 : Nat} {p0 : Machine} (g0_0 : Rd (Rp.sl (Rp.int .i64)) κ w 0 a0_0 u0_0 p0.Next) (g0_1 : Rd (Rp.sl (Rp.int .i64)) κ w 0 a0_1 u0_1 p0.Out) {r : (List Int)} (h : s_l29Found p0 = some r) : Ret Try.prog 159 [.agg #[.slice a0_0 p0.Next.length u0_0, .slice a0_1 p0.Out.length u0_1]] w (fun v w' => ∃ (κ' : Col) (ra0 : Option Addr) (ru0 : Nat), v = .slice ra0 r.length ru0 ∧ Ent κ w κ' w' ∧ Oc (Ep.int .i64) 2 κ' w' 2 ra0 ru0 r) := by
 unfold s_l29Found at h
 refine Ret.enter Try.func159 rfl Try.ntmps159 rfl ?_
 dsimp only [envOf]
 have hE := Ent.refl κ w
 refine WC.seq ?_
 refine WC.rs [(0, 1), (1, 2)] rfl ?_
 refine WO.box (κ := κ) 2 rfl rfl rfl rfl rfl rfl rfl fun b1 w1 K2 S3 f4 => ⟨trivial, ?_⟩
 refine WO.pn 1 rfl ?_
 refine WO.fin ?_
 refine DN.seq ?_
 refine WC.seq ?_
 refine WC.rs [(0, 1), (1, 2)] rfl ?_
 refine WO.bl (κ := K2) (E := (Ep.int .i64)) 3 [] (parts := [(0, .const (.int .i64 0))]) (cells := [.int .i64 0]) (xs := ([0] : List Int)) rfl rfl rfl rfl rfl rfl Try.underlying22 Tryinfo2 rfl rfl rfl rfl rfl rfl rfl rfl rfl rfl ⟨[.int .i64 0], [], Zl K2 w1 [], Zl K2 w1 [], rfl, Zl.sp (l1 := []) (l2 := []) rfl, Zl.sr (l1 := []) (l2 := []), rfl, rfl⟩ fun a7 u7 w5 K6 S7 f8 => ⟨trivial, ?_⟩
 refine WO.pn 1 rfl ?_
 refine WO.fin ?_
 refine DN.seq ?_
 refine WC.seq ?_
 refine WC.seq ?_
 refine WC.rs [(0, 2)] rfl ?_
 refine WO.pn 1 rfl ?_
 refine WO.fin ?_
 refine DN.seq ?_
 obtain ⟨q2, hq11, hK10⟩ := Option.bind_eq_some_iff.mp h
 clear h
 refine WC.meet (fun L w' => ∃ (κ' : Col) (s3 : (List Int) × Int) (las3_0 : Option Addr) (lus3_0 : Nat), L = [(3, .slice las3_0 s3.1.length lus3_0)] ∧ Stp [3] K6 w5 κ' w' ∧ Oc (Ep.int .i64) 2 κ' w' 3 las3_0 lus3_0 s3.1 ∧ q2 = Sum.inr s3) ?_ ?_
 ·
  refine WC.block ?_
  refine WC.loop (fun k L w' => ∃ (κ' : Col) (s1 : (List Int) × Int) (las1_0 : Option Addr) (lus1_0 : Nat), L = [(1, .pointer (some ⟨b1, 0, none⟩)), (3, .slice las1_0 s1.1.length lus1_0), (4, .int .i64 s1.2)] ∧ Stp [3] K6 w5 κ' w' ∧ Oc (Ep.int .i64) 2 κ' w' 3 las1_0 lus1_0 s1.1 ∧ whileM (s_l29Found_b0 p0) k s1 = some q2) ⟨_, _, ⟨K6, ((([0] : List Int) : (List Int)), (0 : Int)), a7, u7, rfl, (Stp.refl _ _).wk rfl, f8, hq11⟩, fun a ha => (ha.more (ha.more (ha.more ha.nil rfl) rfl) rfl)⟩ ?_
  rintro k _ w16 ⟨K17, s1, las1_0, lus1_0, rfl, S18, f19, h⟩
  rcases k with _ | k
  ·
   cases h
  ·
   obtain ⟨o9, h, hk20⟩ := Option.bind_eq_some_iff.mp h; unfold s_l29Found_b0 at h
   refine WC.seq ?_
   refine WC.seq ?_
   refine WC.rs [(0, 2), (1, 2), (2, 2), (3, 2)] rfl ?_
   refine WO.pn 2 rfl ?_
   refine WO.k2 rfl rfl rfl rfl (rn_len Try.runUnderlying22 rfl rfl) ?_
   refine WO.pn 1 rfl ?_
   refine WO.fin ?_
   refine DN.seq ?_
   revert h
   cases ht21 : decide (s1.2 < (s1.1.length : Int)) with
   | true =>
    intro h; replace h := cT h
    refine WC.ct rfl ?_
    refine WC.skip ?_
    refine DN.seq ?_
    refine WC.seq ?_
    refine WC.block ?_
    refine WC.seq ?_
    refine WC.rx (κ := K17) [0, 2, 3] none [(0, 2), (2, 2), (3, 2), (4, 2), (1, 0), (5, 0), (6, 2), (7, 0), (8, 2)] [] (by kernel_rfl) (by kernel_rfl) fun w23 S22 => ?_
    refine WO.k2 rfl rfl rfl rfl (rn_fieldAddr Try.runUnderlying50 rfl Try.sizeOf23 rfl rfl) ?_
    refine WO.pn 2 rfl ?_
    obtain ⟨x18, hx18, h⟩ := Option.bind_eq_some_iff.mp h
    refine WO.k2 rfl rfl rfl rfl (rn_index f19.rdc hx18 Try.runUnderlying22 Try.sizeOf2 rfl rfl rfl rfl) ?_
    have f24 := f4.stp (S7.tr (S18.tr S22)) rfl rfl
    refine WO.k0 rfl rfl rfl rfl (rn_ld Try.isAgg23 rfl rfl (hvC (f24.ld 0 rfl rfl) rfl)) ?_
    have f25 := f19.stp S22 rfl rfl
    refine WO.k0 rfl rfl rfl rfl (rn_ld Try.isAgg2 rfl rfl (hvC (f25.rdc.gInt hx18) rfl)) ?_
    obtain ⟨x20, hx20, h⟩ := Option.bind_eq_some_iff.mp h
    refine WO.k2 rfl rfl rfl rfl (rn_index g0_0 hx20 Try.runUnderlying23 Try.sizeOf22 rfl rfl rfl rfl) ?_
    have f26 := g0_0.stp (S3.tr (S7.tr (S18.tr S22))) rfl rfl
    obtain ⟨ax20, ux20, f27, hl28⟩ := f26.gSl hx20
    refine WO.k0 rfl rfl rfl rfl (rn_ld Try.isAgg22 rfl rfl (hvC hl28 rfl)) ?_
    refine WO.pn 1 rfl ?_
    refine WO.nx ?_
    refine WO.fin ?_
    refine DN.seq ?_
    refine WC.seq ?_
    refine WC.rs [(0, 2)] rfl ?_
    refine WO.pn 1 rfl ?_
    refine WO.fin ?_
    refine DN.seq ?_
    have hN29 : (x20.length : Int) ≤ 9223372036854775807 := f27.len_le
    obtain ⟨q5, hq31, hK30⟩ := Option.bind_eq_some_iff.mp h
    clear h
    refine WC.meet (fun L w' => ∃ (κ' : Col) (s6 : (List Int)) (las6_0 : Option Addr) (lus6_0 : Nat), L = [(1, .pointer (some ⟨b1, 0, none⟩)), (3, .slice las6_0 s6.length lus6_0), (4, .int .i64 s1.2)] ∧ Stp [3] K17 w23 κ' w' ∧ Oc (Ep.int .i64) 2 κ' w' 3 las6_0 lus6_0 s6 ∧ q5 = Sum.inr s6) ?_ ?_
    ·
     refine WC.block ?_
     refine WC.loop (fun k L w' => ∃ (κ' : Col) (v6 : Int) (s4 : (List Int)) (las4_0 : Option Addr) (lus4_0 : Nat), L = [(1, .pointer (some ⟨b1, 0, none⟩)), (3, .slice las4_0 s4.length lus4_0), (4, .int .i64 s1.2), (5, .slice ax20 x20.length ux20), (6, .int .i64 v6)] ∧ Stp [3] K17 w23 κ' w' ∧ Oc (Ep.int .i64) 2 κ' w' 3 las4_0 lus4_0 s4 ∧ 0 ≤ v6 ∧ Int.toNat ((x20.length : Int) - v6) = k ∧ cntM (s_l29Found_b2 x20) k v6 s4 = some q5) ⟨_, _, ⟨K17, 0, (s1.1 : (List Int)), las1_0, lus1_0, rfl, (Stp.refl _ _).wk rfl, f25, (by decide), (by simp), hq31⟩, fun a ha => (ha.more (ha.more (ha.more (ha.more (ha.more ha.nil rfl) rfl) rfl) rfl) rfl)⟩ ?_
     rintro k _ w36 ⟨K37, v6, s4, las4_0, lus4_0, rfl, S38, f39, hj29, hJ29, h⟩
     rcases k with _ | k
     ·
      have hk40 := h; obtain ⟨o29, h⟩ := ex_eq (Sum.inr (Sum.inl s4) : (List Int) ⊕ (((List Int)) ⊕ ((List Int))))
      have hc29 : decide (v6 < (x20.length : Int)) = false := decide_eq_false (by omega)
      refine WC.seq ?_
      refine WC.seq ?_
      refine WC.rs [(0, 2), (1, 2), (2, 2), (3, 2)] rfl ?_
      refine WO.pn 2 rfl ?_
      refine WO.k2 rfl rfl rfl rfl (rn_len Try.runUnderlying22 rfl rfl) ?_
      refine WO.pn 1 rfl ?_
      refine WO.fin ?_
      refine DN.seq ?_
      refine WC.cf' rfl hc29 ?_
      refine WC.exit ?_
      refine DN.exitThen ?_
      refine DN.exitThen ?_
      obtain rfl := Option.some.inj h
      have h := hk40
      refine DN.hit ?_
      obtain rfl := Option.some.inj h
      exact DN.meet _ ⟨K37, (s4 : (List Int)), las4_0, lus4_0, rfl, S38.wk rfl, f39, rfl⟩ fun a ha => (ha.more (ha.more (ha.more ha.nil rfl) rfl) rfl)
     ·
      obtain ⟨o29, h, hk40⟩ := Option.bind_eq_some_iff.mp h; unfold s_l29Found_b2 at h
      have hc29 : decide (v6 < (x20.length : Int)) = true := decide_eq_true (by omega)
      refine WC.seq ?_
      refine WC.seq ?_
      refine WC.rs [(0, 2), (1, 2), (2, 2), (3, 2)] rfl ?_
      refine WO.pn 2 rfl ?_
      refine WO.k2 rfl rfl rfl rfl (rn_len Try.runUnderlying22 rfl rfl) ?_
      refine WO.pn 1 rfl ?_
      refine WO.fin ?_
      refine DN.seq ?_
      refine WC.ct' rfl hc29 ?_
      refine WC.skip ?_
      refine DN.seq ?_
      refine WC.seq ?_
      refine WC.block ?_
      refine WC.seq ?_
      refine WC.rs [(0, 2), (1, 2), (2, 2), (3, 2), (4, 1), (5, 1), (6, 2)] rfl ?_
      refine WO.pn 3 rfl ?_
      obtain ⟨x31, hx31, h⟩ := Option.bind_eq_some_iff.mp h
      refine WO.k2 rfl rfl rfl rfl (rn_index f27 hx31 Try.runUnderlying22 Try.sizeOf2 rfl rfl rfl rfl) ?_
      have f41 := f27.stp S38 rfl rfl
      refine WO.k1 trivial rfl rfl rfl rfl (rn_ld Try.isAgg2 rfl rfl (hvE (f41.gInt hx31))) ?_
      obtain ⟨x33, hx33, h⟩ := Option.bind_eq_some_iff.mp h
      refine WO.call rfl rfl rfl rfl rfl rfl Try.call197 (s_l1Place_ok (κ := fun b => mp [] 0 (K37 b)) (Sl.map f39.rdc (mp [] 0) rfl rfl) hx33) ?_
      rintro _ w42 ⟨k43, rfl, e44⟩
      obtain ⟨K45, S46, m47⟩ := Ent.mixed (l := []) (κ := K37) e44 4 rfl
      refine ⟨trivial, ?_⟩
      refine WO.pn 1 rfl ?_
      refine WO.fin ?_
      refine DN.seq ?_
      obtain ⟨q7, h, hK49⟩ := Option.bind_eq_some_iff.mp h
      refine WC.meet (fun L w' => ∃ (κ' : Col) (laq7_0 : Option Addr) (luq7_0 : Nat), L = [(1, .pointer (some ⟨b1, 0, none⟩)), (3, .slice laq7_0 q7.length luq7_0), (4, .int .i64 s1.2), (5, .slice ax20 x20.length ux20), (6, .int .i64 v6)] ∧ Stp [3] K45 w42 κ' w' ∧ Oc (Ep.int .i64) 2 κ' w' 3 laq7_0 luq7_0 q7) ?_ ?_
      ·
       revert h
       cases ht54 : decide (x33 < 0) with
       | true =>
        intro h; replace h := cT h
        refine WC.ct rfl ?_
        refine WC.rs [(0, 2), (1, 2), (2, 2), (3, 2), (4, 1), (5, 1), (6, 1), (7, 2)] rfl ?_
        refine WO.pn 3 rfl ?_
        obtain ⟨x38, hx38, h⟩ := Option.bind_eq_some_iff.mp h
        refine WO.k2 rfl rfl rfl rfl (rn_index f41 hx38 Try.runUnderlying22 Try.sizeOf2 rfl rfl rfl rfl) ?_
        have f55 := f41.stp S46 rfl rfl
        refine WO.k1 trivial rfl rfl rfl rfl (rn_ld Try.isAgg2 rfl rfl (hvE (f55.gInt hx38))) ?_
        refine WO.bl (κ := K45) (E := (Ep.int .i64)) 6 [] (parts := [(0, .tmp 39)]) (cells := [.int .i64 x38]) (xs := ([x38] : List Int)) rfl rfl rfl rfl rfl rfl Try.underlying22 Tryinfo2 rfl rfl rfl rfl rfl rfl rfl rfl rfl rfl ⟨[.int .i64 x38], [], Zl K45 w42 [], Zl K45 w42 [], rfl, Zl.sp (l1 := []) (l2 := []) rfl, Zl.sr (l1 := []) (l2 := []), rfl, rfl⟩ fun a40 u40 w56 K57 S58 f59 => ⟨trivial, ?_⟩
        obtain ⟨x41, hx41, h⟩ := Option.bind_eq_some_iff.mp h
        have f60 := f39.stp (S46.tr S58) rfl rfl
        refine WO.app (κ := K57) (E := (Ep.int .i64)) 3 [] rfl rfl rfl rfl rfl rfl rfl rfl rfl Try.underlying22 Tryinfo2 rfl rfl rfl rfl f60 (Sl.srcP (pu_int _) f59.rdc) sy_false hx41 rfl fun a41 u41 w61 K62 S63 f64 => ⟨trivial, ?_⟩
        refine WO.pn 1 rfl ?_
        refine WO.fin ?_
        obtain rfl := Option.some.inj h
        exact DN.meet _ ⟨K62, a41, u41, rfl, (S58.tr S63).wk rfl, f64⟩ fun a ha => (ha.more (ha.more (ha.more (ha.more (ha.more ha.nil rfl) rfl) rfl) rfl) rfl)
       | false =>
        intro h; replace h := cF h
        refine WC.cf rfl ?_
        refine WC.skip ?_
        have f65 := f39.stp S46 rfl rfl
        obtain rfl := Option.some.inj h
        exact DN.meet _ ⟨K45, las4_0, lus4_0, rfl, (Stp.refl _ _).wk rfl, f65⟩ fun a ha => (ha.more (ha.more (ha.more (ha.more (ha.more ha.nil rfl) rfl) rfl) rfl) rfl)
      rintro _ w50 ⟨K51, laq7_0, luq7_0, rfl, S52, f53⟩
      have h := hK49
      refine DN.block ?_
      refine DN.seq ?_
      refine WC.rs [(0, 2), (1, 2), (2, 2)] rfl ?_
      refine WO.pn 3 rfl ?_
      refine WO.fin ?_
      have hw29 : IntKind.wrap .i64 (v6 + 1) = v6 + 1 := wr1 hj29 (of_decide_eq_true hc29) hN29
      rw [hw29]
      have hc29 := of_decide_eq_true hc29
      obtain rfl := Option.some.inj h
      refine DN.round fun a ha => ?_
      exact ⟨k, _, Nat.lt_succ_self _, ⟨K51, v6 + 1, (q7 : (List Int)), laq7_0, luq7_0, rfl, (S38.tr (S46.tr S52)).wk rfl, f53, by omega, by omega, hk40⟩, (ha.more (ha.more (ha.more (ha.more (ha.more ha.nil rfl) rfl) rfl) rfl) rfl)⟩
    rintro _ w32 ⟨K33, s6, las6_0, lus6_0, rfl, S34, f35, rfl⟩
    have h := hK30
    dsimp only [aft] at h
    refine DN.block ?_
    refine DN.seq ?_
    refine WC.rs [(0, 2), (1, 2), (2, 2)] rfl ?_
    refine WO.pn 3 rfl ?_
    refine WO.fin ?_
    obtain rfl := Option.some.inj h
    refine DN.round fun a ha => ?_
    exact ⟨k, _, Nat.lt_succ_self _, ⟨K33, ((s6 : (List Int)), ((IntKind.i64.wrap (s1.2 + 1)) : Int)), las6_0, lus6_0, rfl, (S18.tr (S22.tr S34)).wk rfl, f35, hk20⟩, (ha.more (ha.more (ha.more ha.nil rfl) rfl) rfl)⟩
   | false =>
    intro h; replace h := cF h
    refine WC.cf rfl ?_
    refine WC.exit ?_
    refine DN.exitThen ?_
    refine DN.exitThen ?_
    obtain rfl := Option.some.inj h
    have h := hk20
    refine DN.hit ?_
    obtain rfl := Option.some.inj h
    exact DN.meet _ ⟨K17, ((s1.1 : (List Int)), (s1.2 : Int)), las1_0, lus1_0, rfl, S18.wk rfl, f19, rfl⟩ fun a ha => (ha.more ha.nil rfl)
 rintro _ w12 ⟨K13, s3, las3_0, lus3_0, rfl, S14, f15, rfl⟩
 have h := hK10
 dsimp only [aft] at h
 refine DN.seq ?_
 refine WC.seq ?_
 refine WC.rs [(0, 2), (1, 2)] rfl ?_
 refine WO.pn 2 rfl ?_
 refine WO.fin ?_
 refine DN.seq ?_
 refine WC.ret ?_
 have f66 := hE.stp (S3.tr (S7.tr S14)) rfl rfl
 refine DN.res (l := [.tmp 2]) Try.results159 (res_tmp rfl rfl) rfl ?_
 obtain rfl := Option.some.inj h
 exact ⟨(fun b => ren [(3, 2)] (K13 b)), las3_0, lus3_0, rfl, (f66.map (ren [(3, 2)]) rfl rfl), (f15.map (ren [(3, 2)]) rfl rfl)⟩

end Go.Proofs.Ytfmkhnlnomkcfaa
