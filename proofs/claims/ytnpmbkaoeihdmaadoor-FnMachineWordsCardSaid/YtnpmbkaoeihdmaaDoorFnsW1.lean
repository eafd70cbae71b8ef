/- The walks, part 1. By program. -/
import Derived.Test.YtnpmbkaoeihdmaaDoorText
import Derived.Test.YtnpmbkaoeihdmaaDoorShelf
import Derived.Test.YtnpmbkaoeihdmaaDoorFnsW0
set_option linter.unusedVariables false
set_option linter.unusedSimpArgs false
namespace Go.Proofs.YtnpmbkaoeihdmaaDoor
open Go Go.Wk Go.Proofs
set_option maxRecDepth 100000
set_option maxHeartbeats 1000000

/- loop.example/g00869/laws.w9Machine -/
theorem l_w9Machine_ok {w : World} {κ : Col} {a0_0 : Option Addr} {u0_0 : Nat} {p0 : dice} {p1 : Sig} {p2 : Int} {b0 : Nat} (g0_0 : Rd (Rp.int .u8) κ w 0 a0_0 u0_0 p0.b) (gb0 : Bc κ w 2 b0 93 [.slice a0_0 p0.b.length u0_0, .int .i64 p0.i, .int .u64 p0.h]) {r : Machine × Int × Int} (h : l_w9Machine p0 p1 p2 = some r) : Ret Tryd.prog 29 [.pointer (some ⟨b0, 0, none⟩), .agg #[.int .i64 p1.In, .int .i64 p1.Out], .int .i64 p2] w (fun v w' => ∃ (κ' : Col) (ra0 : Option Addr) (ru0 : Nat) (ra1 : Option Addr) (ru1 : Nat), v = .agg #[.slice ra0 r.1.Next.length ru0, .slice ra1 r.1.Out.length ru1] ∧ Ent κ w κ' w' ∧ Oc (Ep.own (Ep.int .i64) 2) 60 κ' w' 3 ra0 ru0 r.1.Next ∧ Oc (Ep.own (Ep.int .i64) 2) 60 κ' w' 4 ra1 ru1 r.1.Out ∧ Bc κ' w' 2 b0 93 [.slice a0_0 p0.b.length u0_0, .int .i64 r.2.1, .int .u64 r.2.2]) := by
 unfold l_w9Machine at h
 refine Ret.enter Tryd.func29 rfl Tryd.ntmps29 rfl ?_
 dsimp only [envOf]
 have hE := Ent.refl κ w
 refine WC.seq ?_
 refine WC.rs [(0, 1), (1, 1)] rfl ?_
 refine WO.box (κ := κ) 3 rfl rfl rfl rfl rfl rfl rfl fun b4 w1 K2 S3 f4 => ⟨trivial, ?_⟩
 refine WO.alloc (κ := K2) 4 rfl rfl rfl rfl rfl Tryd.zeroValue42 rfl fun b6 w5 K6 S7 f8 => ⟨trivial, ?_⟩
 refine WO.fin ?_
 refine DN.seq ?_
 refine WC.seq ?_
 refine WC.rs [(0, 2), (1, 2), (2, 1), (3, 2), (4, 2)] rfl ?_
 refine WO.pn 2 rfl ?_
 obtain ⟨x17, hx17, h⟩ := Option.bind_eq_some_iff.mp h
 have f9 := g0_0.stp (S3.tr S7) rfl rfl
 have f10 := gb0.stp (S3.tr S7) rfl rfl
 refine WO.call rfl rfl rfl rfl rfl rfl Tryd.call28 (l_dice_below_ok (κ := fun b => mp [(2, 2)] 0 (K6 b)) (p0 := p0) (Sl.map f9 (mp [(2, 2)] 0) rfl rfl) (f10.map (mp [(2, 2)] 0) rfl rfl) hx17) ?_
 rintro _ w11 ⟨k12, rfl, e13, f14⟩
 obtain ⟨K15, S16, m17⟩ := Ent.mixed (l := [(2, 2)]) (κ := K6) e13 5 rfl
 refine ⟨trivial, ?_⟩
 have f19 := f14.mx m17 rfl (rfl : 5 + 2 = 7)
 refine WO.pn 2 rfl ?_
 refine WO.fin ?_
 refine DN.seq ?_
 refine WC.seq ?_
 refine WC.rs [(0, 2), (1, 1), (2, 1)] rfl ?_
 refine WO.k2 rfl rfl rfl rfl (rn_build (parts := []) (cells := [.slice none 0 0, .slice none 0 0]) rfl rfl (by kernel_rfl)) ?_
 refine WO.alloc (κ := K15) 8 rfl rfl rfl rfl rfl Tryd.zeroValue42 rfl fun b8 w20 K21 S22 f23 => ⟨trivial, ?_⟩
 refine WO.stB0 (κ := K21) 8 (vc := [.slice none 0 0, .slice none 0 0]) rfl rfl rfl rfl rfl rfl rfl Tryd.sizeOf42 rfl rfl f23 rfl fun w24 S25 f26 => ⟨trivial, ?_⟩
 refine WO.fin ?_
 refine DN.seq ?_
 refine WC.seq ?_
 refine WC.rs [(0, 2)] rfl ?_
 refine WO.pn 1 rfl ?_
 refine WO.fin ?_
 refine DN.seq ?_
 refine WC.seq ?_
 refine WC.rs [(0, 2)] rfl ?_
 refine WO.pn 1 rfl ?_
 refine WO.fin ?_
 refine DN.seq ?_
 refine WC.seq ?_
 refine WC.seq ?_
 refine WC.rs [(0, 2), (1, 1), (2, 2)] rfl ?_
 refine WO.k2 rfl rfl rfl rfl (rn_fieldAddr Tryd.runUnderlying40 rfl Tryd.sizeOf2 rfl rfl) ?_
 have f27 := f4.stp (S7.tr (S16.tr (S22.tr S25))) rfl rfl
 refine WO.k1 trivial rfl rfl rfl rfl (rn_ld Tryd.isAgg2 rfl rfl (hvE (f27.ld 0 rfl rfl))) ?_
 refine WO.pn 1 rfl ?_
 refine WO.fin ?_
 refine DN.seq ?_
 obtain ⟨q1, h, hK28⟩ := Option.bind_eq_some_iff.mp h
 refine WC.meet (fun L w' => ∃ (κ' : Col), L = [(0, .pointer (some ⟨b0, 0, none⟩)), (4, .pointer (some ⟨b4, 0, none⟩)), (6, .pointer (some ⟨b6, 0, none⟩)), (7, .int .i64 (IntKind.i64.wrap (1 + x17.1))), (8, .pointer (some ⟨b8, 0, none⟩)), (9, .int .i64 q1), (10, .int .i64 2)] ∧ Stp [] K21 w24 κ' w') ?_ ?_
 ·
  revert h
  cases ht32 : (p1.In == 2) with
  | true =>
   intro h; replace h := cT h
   refine WC.ct rfl ?_
   refine WC.rs [(0, 2)] rfl ?_
   refine WO.pn 1 rfl ?_
   refine WO.fin ?_
   obtain rfl := Option.some.inj h
   exact DN.meet _ ⟨K21, rfl, (Stp.refl _ _).wk rfl⟩ fun a ha => (ha.more (ha.more (ha.more (ha.more (ha.more (ha.more (ha.more ha.nil rfl) rfl) rfl) rfl) rfl) rfl) rfl)
  | false =>
   intro h; replace h := cF h
   refine WC.cf rfl ?_
   refine WC.skip ?_
   obtain rfl := Option.some.inj h
   exact DN.meet _ ⟨K21, rfl, (Stp.refl _ _).wk rfl⟩ fun a ha => (ha.more (ha.more (ha.more (ha.more (ha.more (ha.more (ha.more ha.nil rfl) rfl) rfl) rfl) rfl) rfl) rfl)
 rintro _ w29 ⟨K30, rfl, S31⟩
 have h := hK28
 refine DN.seq ?_
 refine WC.seq ?_
 refine WC.seq ?_
 refine WC.rs [(0, 2), (1, 1), (2, 2)] rfl ?_
 refine WO.k2 rfl rfl rfl rfl (rn_fieldAddr Tryd.runUnderlying40 rfl Tryd.sizeOf2 rfl rfl) ?_
 have f33 := f27.stp S31 rfl rfl
 refine WO.k1 trivial rfl rfl rfl rfl (rn_ld Tryd.isAgg2 rfl rfl (hvE (f33.ld 1 rfl rfl))) ?_
 refine WO.pn 1 rfl ?_
 refine WO.fin ?_
 refine DN.seq ?_
 obtain ⟨q2, h, hK34⟩ := Option.bind_eq_some_iff.mp h
 refine WC.meet (fun L w' => ∃ (κ' : Col), L = [(0, .pointer (some ⟨b0, 0, none⟩)), (6, .pointer (some ⟨b6, 0, none⟩)), (7, .int .i64 (IntKind.i64.wrap (1 + x17.1))), (8, .pointer (some ⟨b8, 0, none⟩)), (9, .int .i64 q1), (10, .int .i64 q2)] ∧ Stp [] K30 w29 κ' w') ?_ ?_
 ·
  revert h
  cases ht38 : (p1.Out == 2) with
  | true =>
   intro h; replace h := cT h
   refine WC.ct rfl ?_
   refine WC.rs [(0, 2)] rfl ?_
   refine WO.pn 1 rfl ?_
   refine WO.fin ?_
   obtain rfl := Option.some.inj h
   exact DN.meet _ ⟨K30, rfl, (Stp.refl _ _).wk rfl⟩ fun a ha => (ha.more (ha.more (ha.more (ha.more (ha.more (ha.more ha.nil rfl) rfl) rfl) rfl) rfl) rfl)
  | false =>
   intro h; replace h := cF h
   refine WC.cf rfl ?_
   refine WC.skip ?_
   obtain rfl := Option.some.inj h
   exact DN.meet _ ⟨K30, rfl, (Stp.refl _ _).wk rfl⟩ fun a ha => (ha.more (ha.more (ha.more (ha.more (ha.more (ha.more ha.nil rfl) rfl) rfl) rfl) rfl) rfl)
 rintro _ w35 ⟨K36, rfl, S37⟩
 have h := hK34
 refine DN.seq ?_
 refine WC.seq ?_
 refine WC.seq ?_
 refine WC.rs [(0, 2)] rfl ?_
 refine WO.pn 1 rfl ?_
 refine WO.fin ?_
 refine DN.seq ?_
 obtain ⟨_, hr39, h⟩ := Option.bind_eq_some_iff.mp h
 have hN39 := rng_ok hr39
 obtain ⟨q4, hq41, hK40⟩ := Option.bind_eq_some_iff.mp h
 clear h
 refine WC.meet (fun L w' => ∃ (κ' : Col) (s5 : Int × Int × (List (List Int)) × (List (List Int))) (las5_0 : Option Addr) (lus5_0 : Nat) (las5_1 : Option Addr) (lus5_1 : Nat), L = [(0, .pointer (some ⟨b0, 0, none⟩)), (6, .pointer (some ⟨b6, 0, none⟩)), (8, .pointer (some ⟨b8, 0, none⟩))] ∧ Stp [7, 8, 9, 10, 11, 12, 13, 14, 15, 19] K36 w35 κ' w' ∧ Oc (Ep.own (Ep.int .i64) 2) 60 κ' w' 9 las5_0 lus5_0 s5.2.2.1 ∧ Oc (Ep.own (Ep.int .i64) 2) 60 κ' w' 10 las5_1 lus5_1 s5.2.2.2 ∧ Bc κ' w' 7 b0 93 [.slice a0_0 p0.b.length u0_0, .int .i64 s5.1, .int .u64 s5.2.1] ∧ Bc κ' w' 8 b8 42 [.slice las5_0 s5.2.2.1.length lus5_0, .slice las5_1 s5.2.2.2.length lus5_1] ∧ q4 = Sum.inr s5) ?_ ?_
 ·
  refine WC.block ?_
  have f56 := f19.stp (S22.tr (S25.tr (S31.tr S37))) rfl rfl
  have f57 := f26.stp (S31.tr S37) rfl rfl
  refine WC.loop (fun k L w' => ∃ (κ' : Col) (v11 : Int) (s3 : Int × Int × (List (List Int)) × (List (List Int))) (las3_0 : Option Addr) (lus3_0 : Nat) (las3_1 : Option Addr) (lus3_1 : Nat), L = [(0, .pointer (some ⟨b0, 0, none⟩)), (6, .pointer (some ⟨b6, 0, none⟩)), (7, .int .i64 (IntKind.i64.wrap (1 + x17.1))), (8, .pointer (some ⟨b8, 0, none⟩)), (9, .int .i64 q1), (10, .int .i64 q2), (11, .int .i64 v11)] ∧ Stp [7, 8, 9, 10, 11, 12, 13, 14, 15, 19] K36 w35 κ' w' ∧ Oc (Ep.own (Ep.int .i64) 2) 60 κ' w' 9 las3_0 lus3_0 s3.2.2.1 ∧ Oc (Ep.own (Ep.int .i64) 2) 60 κ' w' 10 las3_1 lus3_1 s3.2.2.2 ∧ Bc κ' w' 7 b0 93 [.slice a0_0 p0.b.length u0_0, .int .i64 s3.1, .int .u64 s3.2.1] ∧ Bc κ' w' 8 b8 42 [.slice las3_0 s3.2.2.1.length lus3_0, .slice las3_1 s3.2.2.2.length lus3_1] ∧ 0 ≤ v11 ∧ Int.toNat ((IntKind.i64.wrap (1 + x17.1)) - v11) = k ∧ cntM (l_w9Machine_b0 p0 x17 q1 q2) k v11 s3 = some q4) ⟨_, _, ⟨K36, 0, ((x17.2.1 : Int), (x17.2.2 : Int), (([] : List (List Int)) : (List (List Int))), (([] : List (List Int)) : (List (List Int)))), none, 0, none, 0, rfl, (Stp.refl _ _).wk rfl, Ow.nil, Ow.nil, f56, f57, (by decide), (by simp), hq41⟩, fun a ha => (ha.more (ha.more (ha.more (ha.more (ha.more (ha.more (ha.more ha.nil rfl) rfl) rfl) rfl) rfl) rfl) rfl)⟩ ?_
  rintro k _ w49 ⟨K50, v11, s3, las3_0, lus3_0, las3_1, lus3_1, rfl, S51, f52, f53, f54, f55, hj39, hJ39, h⟩
  rcases k with _ | k
  ·
   have hk58 := h; obtain ⟨o39, h⟩ := ex_eq (Sum.inr (Sum.inl s3) : (Machine × Int × Int) ⊕ ((Int × Int × (List (List Int)) × (List (List Int))) ⊕ (Int × Int × (List (List Int)) × (List (List Int)))))
   have hc39 : decide (v11 < (IntKind.i64.wrap (1 + x17.1))) = false := decide_eq_false (by omega)
   refine WC.seq ?_
   refine WC.seq ?_
   refine WC.rs [(0, 2), (1, 2), (2, 2)] rfl ?_
   refine WO.pn 3 rfl ?_
   refine WO.fin ?_
   refine DN.seq ?_
   refine WC.cf' rfl hc39 ?_
   refine WC.exit ?_
   refine DN.exitThen ?_
   refine DN.exitThen ?_
   obtain rfl := Option.some.inj h
   have h := hk58
   refine DN.hit ?_
   obtain rfl := Option.some.inj h
   exact DN.meet _ ⟨K50, ((s3.1 : Int), (s3.2.1 : Int), (s3.2.2.1 : (List (List Int))), (s3.2.2.2 : (List (List Int)))), las3_0, lus3_0, las3_1, lus3_1, rfl, S51.wk rfl, f52, f53, f54, f55, rfl⟩ fun a ha => (ha.more (ha.more (ha.more ha.nil rfl) rfl) rfl)
  ·
   obtain ⟨o39, h, hk58⟩ := Option.bind_eq_some_iff.mp h; unfold l_w9Machine_b0 at h
   have hc39 : decide (v11 < (IntKind.i64.wrap (1 + x17.1))) = true := decide_eq_true (by omega)
   refine WC.seq ?_
   refine WC.seq ?_
   refine WC.rs [(0, 2), (1, 2), (2, 2)] rfl ?_
   refine WO.pn 3 rfl ?_
   refine WO.fin ?_
   refine DN.seq ?_
   refine WC.ct' rfl hc39 ?_
   refine WC.skip ?_
   refine DN.seq ?_
   refine WC.seq ?_
   refine WC.block ?_
   refine WC.seq ?_
   refine WC.rs [(0, 1), (1, 2)] rfl ?_
   refine WO.bl0 (κ := K50) (E := (Ep.int .i64)) 11 rfl rfl rfl rfl rfl Tryd.underlying60 Trydinfo2 rfl fun a31 u31 w59 K60 S61 f62 => ⟨trivial, ?_⟩
   refine WO.pn 1 rfl ?_
   refine WO.fin ?_
   refine DN.seq ?_
   refine WC.seq ?_
   refine WC.rs [(0, 1), (1, 2)] rfl ?_
   refine WO.bl0 (κ := K60) (E := (Ep.int .i64)) 12 rfl rfl rfl rfl rfl Tryd.underlying60 Trydinfo2 rfl fun a32 u32 w63 K64 S65 f66 => ⟨trivial, ?_⟩
   refine WO.pn 1 rfl ?_
   refine WO.fin ?_
   refine DN.seq ?_
   refine WC.seq ?_
   refine WC.seq ?_
   refine WC.rs [(0, 2)] rfl ?_
   refine WO.pn 1 rfl ?_
   refine WO.fin ?_
   refine DN.seq ?_
   obtain ⟨_, hr67, h⟩ := Option.bind_eq_some_iff.mp h
   have hN67 := rng_ok hr67
   obtain ⟨q7, hq69, hK68⟩ := Option.bind_eq_some_iff.mp h
   clear h
   refine WC.meet (fun L w' => ∃ (κ' : Col) (s8 : (List Int) × (List Int) × Int × Int) (las8_0 : Option Addr) (lus8_0 : Nat) (las8_1 : Option Addr) (lus8_1 : Nat), L = [(0, .pointer (some ⟨b0, 0, none⟩)), (6, .pointer (some ⟨b6, 0, none⟩)), (7, .int .i64 (IntKind.i64.wrap (1 + x17.1))), (8, .pointer (some ⟨b8, 0, none⟩)), (9, .int .i64 q1), (10, .int .i64 q2), (11, .int .i64 v11), (12, .slice las8_0 s8.1.length lus8_0), (13, .slice las8_1 s8.2.1.length lus8_1)] ∧ Stp [7, 11, 12, 15, 19] K64 w63 κ' w' ∧ Oc (Ep.int .i64) 2 κ' w' 11 las8_0 lus8_0 s8.1 ∧ Oc (Ep.int .i64) 2 κ' w' 12 las8_1 lus8_1 s8.2.1 ∧ Bc κ' w' 7 b0 93 [.slice a0_0 p0.b.length u0_0, .int .i64 s8.2.2.1, .int .u64 s8.2.2.2] ∧ q7 = Sum.inr s8) ?_ ?_
   ·
    refine WC.block ?_
    have f82 := f62.stp S65 rfl rfl
    have f83 := f54.stp (S61.tr S65) rfl rfl
    refine WC.loop (fun k L w' => ∃ (κ' : Col) (v14 : Int) (s6 : (List Int) × (List Int) × Int × Int) (las6_0 : Option Addr) (lus6_0 : Nat) (las6_1 : Option Addr) (lus6_1 : Nat), L = [(0, .pointer (some ⟨b0, 0, none⟩)), (6, .pointer (some ⟨b6, 0, none⟩)), (7, .int .i64 (IntKind.i64.wrap (1 + x17.1))), (8, .pointer (some ⟨b8, 0, none⟩)), (9, .int .i64 q1), (10, .int .i64 q2), (11, .int .i64 v11), (12, .slice las6_0 s6.1.length lus6_0), (13, .slice las6_1 s6.2.1.length lus6_1), (14, .int .i64 v14)] ∧ Stp [7, 11, 12, 15, 19] K64 w63 κ' w' ∧ Oc (Ep.int .i64) 2 κ' w' 11 las6_0 lus6_0 s6.1 ∧ Oc (Ep.int .i64) 2 κ' w' 12 las6_1 lus6_1 s6.2.1 ∧ Bc κ' w' 7 b0 93 [.slice a0_0 p0.b.length u0_0, .int .i64 s6.2.2.1, .int .u64 s6.2.2.2] ∧ 0 ≤ v14 ∧ Int.toNat (q1 - v14) = k ∧ cntM (l_w9Machine_b2 p0 x17 q2) k v14 s6 = some q7) ⟨_, _, ⟨K64, 0, ((([] : List Int) : (List Int)), (([] : List Int) : (List Int)), (s3.1 : Int), (s3.2.1 : Int)), a31, u31, a32, u32, rfl, (Stp.refl _ _).wk rfl, f82, f66, f83, (by decide), (by simp), hq69⟩, fun a ha => (ha.more (ha.more (ha.more (ha.more (ha.more (ha.more (ha.more (ha.more (ha.more (ha.more ha.nil rfl) rfl) rfl) rfl) rfl) rfl) rfl) rfl) rfl) rfl)⟩ ?_
    rintro k _ w76 ⟨K77, v14, s6, las6_0, lus6_0, las6_1, lus6_1, rfl, S78, f79, f80, f81, hj67, hJ67, h⟩
    rcases k with _ | k
    ·
     have hk84 := h; obtain ⟨o67, h⟩ := ex_eq (Sum.inr (Sum.inl s6) : (Machine × Int × Int) ⊕ (((List Int) × (List Int) × Int × Int) ⊕ ((List Int) × (List Int) × Int × Int)))
     have hc67 : decide (v14 < q1) = false := decide_eq_false (by omega)
     refine WC.seq ?_
     refine WC.seq ?_
     refine WC.rs [(0, 2), (1, 2), (2, 2)] rfl ?_
     refine WO.pn 3 rfl ?_
     refine WO.fin ?_
     refine DN.seq ?_
     refine WC.cf' rfl hc67 ?_
     refine WC.exit ?_
     refine DN.exitThen ?_
     refine DN.exitThen ?_
     obtain rfl := Option.some.inj h
     have h := hk84
     refine DN.hit ?_
     obtain rfl := Option.some.inj h
     exact DN.meet _ ⟨K77, ((s6.1 : (List Int)), (s6.2.1 : (List Int)), (s6.2.2.1 : Int), (s6.2.2.2 : Int)), las6_0, lus6_0, las6_1, lus6_1, rfl, S78.wk rfl, f79, f80, f81, rfl⟩ fun a ha => (ha.more (ha.more (ha.more (ha.more (ha.more (ha.more (ha.more (ha.more (ha.more ha.nil rfl) rfl) rfl) rfl) rfl) rfl) rfl) rfl) rfl)
    ·
     obtain ⟨o67, h, hk84⟩ := Option.bind_eq_some_iff.mp h; unfold l_w9Machine_b2 at h
     have hc67 : decide (v14 < q1) = true := decide_eq_true (by omega)
     refine WC.seq ?_
     refine WC.seq ?_
     refine WC.rs [(0, 2), (1, 2), (2, 2)] rfl ?_
     refine WO.pn 3 rfl ?_
     refine WO.fin ?_
     refine DN.seq ?_
     refine WC.ct' rfl hc67 ?_
     refine WC.skip ?_
     refine DN.seq ?_
     refine WC.seq ?_
     refine WC.block ?_
     refine WC.seq ?_
     refine WC.rs [(0, 2), (1, 2), (2, 2), (3, 1), (4, 1), (5, 1), (6, 2)] rfl ?_
     refine WO.pn 3 rfl ?_
     obtain ⟨x41, hx41, h⟩ := Option.bind_eq_some_iff.mp h
     have f85 := f9.stp (S16.tr (S22.tr (S25.tr (S31.tr (S37.tr (S51.tr (S61.tr (S65.tr S78)))))))) rfl rfl
     refine WO.call rfl rfl rfl rfl rfl rfl Tryd.call28 (l_dice_below_ok (κ := fun b => mp [(7, 2)] 0 (K77 b)) (p0 := (⟨p0.b, s6.2.2.1, s6.2.2.2⟩ : dice)) (Sl.map f85 (mp [(7, 2)] 0) rfl rfl) (f81.map (mp [(7, 2)] 0) rfl rfl) hx41) ?_
     rintro _ w86 ⟨k87, rfl, e88, f89⟩
     obtain ⟨K90, S91, m92⟩ := Ent.mixed (l := [(7, 2)]) (κ := K77) e88 13 rfl
     refine ⟨trivial, ?_⟩
     have f94 := f89.mx m92 rfl (rfl : 13 + 2 = 15)
     refine WO.bl (κ := K90) (E := (Ep.int .i64)) 16 [] (parts := [(0, .tmp 41)]) (cells := [.int .i64 x41.1]) (xs := ([x41.1] : List Int)) rfl rfl rfl rfl rfl rfl Tryd.underlying60 Trydinfo2 rfl rfl rfl rfl rfl rfl rfl rfl rfl rfl ⟨[.int .i64 x41.1], [], Zl K90 w86 [], Zl K90 w86 [], rfl, Zl.sp (l1 := []) (l2 := []) rfl, Zl.sr (l1 := []) (l2 := []), rfl, rfl⟩ fun a42 u42 w95 K96 S97 f98 => ⟨trivial, ?_⟩
     obtain ⟨x43, hx43, h⟩ := Option.bind_eq_some_iff.mp h
     have f99 := f79.stp (S91.tr S97) rfl rfl
     refine WO.app (κ := K96) (E := (Ep.int .i64)) 11 [] rfl rfl rfl rfl rfl rfl rfl rfl rfl Tryd.underlying60 Trydinfo2 rfl rfl rfl rfl f99 (Sl.srcP (pu_int _) f98.rdc) sy_false hx43 rfl fun a43 u43 w100 K101 S102 f103 => ⟨trivial, ?_⟩
     refine WO.pn 1 rfl ?_
     refine WO.fin ?_
     refine DN.seq ?_
     refine WC.rs [(0, 2), (1, 2), (2, 2), (3, 1), (4, 1), (5, 1), (6, 2)] rfl ?_
     refine WO.pn 3 rfl ?_
     obtain ⟨x47, hx47, h⟩ := Option.bind_eq_some_iff.mp h
     have f104 := f85.stp (S91.tr (S97.tr S102)) rfl rfl
     have f105 := f94.stp (S97.tr S102) rfl rfl
     refine WO.call rfl rfl rfl rfl rfl rfl Tryd.call28 (l_dice_below_ok (κ := fun b => mp [(15, 2)] 0 (K101 b)) (p0 := (⟨p0.b, x41.2.1, x41.2.2⟩ : dice)) (Sl.map f104 (mp [(15, 2)] 0) rfl rfl) (f105.map (mp [(15, 2)] 0) rfl rfl) hx47) ?_
     rintro _ w106 ⟨k107, rfl, e108, f109⟩
     obtain ⟨K110, S111, m112⟩ := Ent.mixed (l := [(15, 2)]) (κ := K101) e108 17 rfl
     refine ⟨trivial, ?_⟩
     have f114 := f109.mx m112 rfl (rfl : 17 + 2 = 19)
     refine WO.bl (κ := K110) (E := (Ep.int .i64)) 20 [] (parts := [(0, .tmp 47)]) (cells := [.int .i64 x47.1]) (xs := ([x47.1] : List Int)) rfl rfl rfl rfl rfl rfl Tryd.underlying60 Trydinfo2 rfl rfl rfl rfl rfl rfl rfl rfl rfl rfl ⟨[.int .i64 x47.1], [], Zl K110 w106 [], Zl K110 w106 [], rfl, Zl.sp (l1 := []) (l2 := []) rfl, Zl.sr (l1 := []) (l2 := []), rfl, rfl⟩ fun a48 u48 w115 K116 S117 f118 => ⟨trivial, ?_⟩
     obtain ⟨x49, hx49, h⟩ := Option.bind_eq_some_iff.mp h
     have f119 := f80.stp (S91.tr (S97.tr (S102.tr (S111.tr S117)))) rfl rfl
     refine WO.app (κ := K116) (E := (Ep.int .i64)) 12 [] rfl rfl rfl rfl rfl rfl rfl rfl rfl Tryd.underlying60 Trydinfo2 rfl rfl rfl rfl f119 (Sl.srcP (pu_int _) f118.rdc) sy_false hx49 rfl fun a49 u49 w120 K121 S122 f123 => ⟨trivial, ?_⟩
     refine WO.pn 1 rfl ?_
     refine WO.fin ?_
     refine DN.block ?_
     refine DN.seq ?_
     refine WC.rs [(0, 2), (1, 2), (2, 2)] rfl ?_
     refine WO.pn 3 rfl ?_
     refine WO.fin ?_
     have hw67 : IntKind.wrap .i64 (v14 + 1) = v14 + 1 := wr1 hj67 (of_decide_eq_true hc67) hN67
     rw [hw67]
     have hc67 := of_decide_eq_true hc67
     have f124 := f103.stp (S111.tr (S117.tr S122)) rfl rfl
     have f125 := f114.stp (S117.tr S122) rfl rfl
     obtain rfl := Option.some.inj h
     refine DN.round fun a ha => ?_
     exact ⟨k, _, Nat.lt_succ_self _, ⟨(fun b => ren [(19, 7)] (K121 b)), v14 + 1, ((x43 : (List Int)), (x49 : (List Int)), (x47.2.1 : Int), (x47.2.2 : Int)), a43, u43, a49, u49, rfl, (Stp.ren ((S78.tr (S91.tr (S97.tr (S102.tr (S111.tr (S117.tr S122)))))).wk rfl) [(19, 7)] rfl), (f124.map (ren [(19, 7)]) rfl rfl), (f123.map (ren [(19, 7)]) rfl rfl), (f125.map (ren [(19, 7)]) rfl rfl), by omega, by omega, hk84⟩, (ha.more (ha.more (ha.more (ha.more (ha.more (ha.more (ha.more (ha.more (ha.more (ha.more ha.nil rfl) rfl) rfl) rfl) rfl) rfl) rfl) rfl) rfl) rfl)⟩
   rintro _ w70 ⟨K71, s8, las8_0, lus8_0, las8_1, lus8_1, rfl, S72, f73, f74, f75, rfl⟩
   have h := hK68
   dsimp only [aft] at h
   refine DN.seq ?_
   refine WC.seq ?_
   refine WC.rs [(0, 2), (1, 1), (2, 2), (3, 1), (4, 1), (5, 2), (6, 1)] rfl ?_
   refine WO.k2 rfl rfl rfl rfl (rn_fieldAddr Tryd.runUnderlying42 rfl Tryd.sizeOf35 rfl rfl) ?_
   have f126 := f55.stp (S61.tr (S65.tr S72)) rfl rfl
   refine WO.k1 trivial rfl rfl rfl rfl (rn_ld Tryd.isAgg35 rfl rfl (hvE (f126.ld 0 rfl rfl))) ?_
   refine WO.pn 1 rfl ?_
   refine WO.bl (κ := K71) (E := (Ep.own (Ep.int .i64) 2)) 13 [11] (parts := [(0, .tmp 52)]) (cells := [.slice las8_0 s8.1.length lus8_0]) (xs := ([s8.1] : List (List Int))) rfl rfl rfl rfl rfl rfl Tryd.underlying35 Trydinfo60 rfl rfl rfl rfl rfl rfl rfl rfl rfl rfl ⟨[.slice las8_0 s8.1.length lus8_0], [], Zl K71 w70 [11], Zl K71 w70 [], rfl, Zl.sp (l1 := [11]) (l2 := []) rfl, Zl.sr (l1 := [11]) (l2 := []), ⟨_, _, rfl, f73⟩, rfl⟩ fun a53 u53 w127 K128 S129 f130 => ⟨trivial, ?_⟩
   obtain ⟨x54, hx54, h⟩ := Option.bind_eq_some_iff.mp h
   have f131 := f52.stp (S61.tr (S65.tr (S72.tr S129))) rfl rfl
   refine WO.app (κ := K128) (E := (Ep.own (Ep.int .i64) 2)) 9 [13] rfl rfl rfl rfl rfl rfl rfl rfl rfl Tryd.underlying35 Trydinfo60 rfl rfl rfl rfl f131 f130.src (sy_one rfl) hx54 rfl fun a54 u54 w132 K133 S134 f135 => ⟨trivial, ?_⟩
   refine WO.k2 rfl rfl rfl rfl (rn_fieldAddr Tryd.runUnderlying42 rfl Tryd.sizeOf35 rfl rfl) ?_
   have f136 := f126.stp (S129.tr S134) rfl rfl
   refine WO.stB (κ := K133) 8 (off := 0) (vc := [.slice a54 x54.length u54]) (cs' := [.slice a54 x54.length u54, .slice las3_1 s3.2.2.2.length lus3_1]) rfl rfl rfl rfl rfl rfl rfl Tryd.sizeOf35 rfl rfl f136 rfl rfl fun w137 S138 f139 => ⟨trivial, ?_⟩
   refine WO.fin ?_
   refine DN.seq ?_
   refine WC.rs [(0, 2), (1, 1), (2, 2), (3, 1), (4, 1), (5, 2), (6, 1)] rfl ?_
   refine WO.k2 rfl rfl rfl rfl (rn_fieldAddr Tryd.runUnderlying42 rfl Tryd.sizeOf35 rfl rfl) ?_
   refine WO.k1 trivial rfl rfl rfl rfl (rn_ld Tryd.isAgg35 rfl rfl (hvE (f139.ld 1 rfl rfl))) ?_
   refine WO.pn 1 rfl ?_
   have f140 := f74.stp (S129.tr (S134.tr S138)) rfl rfl
   refine WO.bl (κ := K133) (E := (Ep.own (Ep.int .i64) 2)) 14 [12] (parts := [(0, .tmp 58)]) (cells := [.slice las8_1 s8.2.1.length lus8_1]) (xs := ([s8.2.1] : List (List Int))) rfl rfl rfl rfl rfl rfl Tryd.underlying35 Trydinfo60 rfl rfl rfl rfl rfl rfl rfl rfl rfl rfl ⟨[.slice las8_1 s8.2.1.length lus8_1], [], Zl K133 w137 [12], Zl K133 w137 [], rfl, Zl.sp (l1 := [12]) (l2 := []) rfl, Zl.sr (l1 := [12]) (l2 := []), ⟨_, _, rfl, f140⟩, rfl⟩ fun a59 u59 w141 K142 S143 f144 => ⟨trivial, ?_⟩
   obtain ⟨x60, hx60, h⟩ := Option.bind_eq_some_iff.mp h
   have f145 := f53.stp (S61.tr (S65.tr (S72.tr (S129.tr (S134.tr (S138.tr S143)))))) rfl rfl
   refine WO.app (κ := K142) (E := (Ep.own (Ep.int .i64) 2)) 10 [14] rfl rfl rfl rfl rfl rfl rfl rfl rfl Tryd.underlying35 Trydinfo60 rfl rfl rfl rfl f145 f144.src (sy_one rfl) hx60 rfl fun a60 u60 w146 K147 S148 f149 => ⟨trivial, ?_⟩
   refine WO.k2 rfl rfl rfl rfl (rn_fieldAddr Tryd.runUnderlying42 rfl Tryd.sizeOf35 rfl rfl) ?_
   have f150 := f139.stp (S143.tr S148) rfl rfl
   refine WO.stB (κ := K147) 8 (off := 1) (vc := [.slice a60 x60.length u60]) (cs' := [.slice a54 x54.length u54, .slice a60 x60.length u60]) rfl rfl rfl rfl rfl rfl rfl Tryd.sizeOf35 rfl rfl f150 rfl rfl fun w151 S152 f153 => ⟨trivial, ?_⟩
   refine WO.fin ?_
   refine DN.block ?_
   refine DN.seq ?_
   refine WC.rs [(0, 2), (1, 2), (2, 2)] rfl ?_
   refine WO.pn 3 rfl ?_
   refine WO.fin ?_
   have hw39 : IntKind.wrap .i64 (v11 + 1) = v11 + 1 := wr1 hj39 (of_decide_eq_true hc39) hN39
   rw [hw39]
   have hc39 := of_decide_eq_true hc39
   have f154 := f135.stp (S138.tr (S143.tr (S148.tr S152))) rfl rfl
   have f155 := f149.stp S152 rfl rfl
   have f156 := f75.stp (S129.tr (S134.tr (S138.tr (S143.tr (S148.tr S152))))) rfl rfl
   obtain rfl := Option.some.inj h
   refine DN.round fun a ha => ?_
   exact ⟨k, _, Nat.lt_succ_self _, ⟨K147, v11 + 1, ((s8.2.2.1 : Int), (s8.2.2.2 : Int), (x54 : (List (List Int))), (x60 : (List (List Int)))), a54, u54, a60, u60, rfl, (S51.tr (S61.tr (S65.tr (S72.tr (S129.tr (S134.tr (S138.tr (S143.tr (S148.tr S152))))))))).wk rfl, f154, f155, f156, f153, by omega, by omega, hk58⟩, (ha.more (ha.more (ha.more (ha.more (ha.more (ha.more (ha.more ha.nil rfl) rfl) rfl) rfl) rfl) rfl) rfl)⟩
 rintro _ w42 ⟨K43, s5, las5_0, lus5_0, las5_1, lus5_1, rfl, S44, f45, f46, f47, f48, rfl⟩
 have h := hK40
 dsimp only [aft] at h
 refine DN.seq ?_
 refine WC.seq ?_
 refine WC.rs [(0, 1), (1, 1)] rfl ?_
 refine WO.k1 trivial rfl rfl rfl rfl (rn_la (cs := [.slice las5_0 s5.2.2.1.length lus5_0, .slice las5_1 s5.2.2.2.length lus5_1]) Tryd.isAgg42 Tryd.sizeOf42 rfl rfl rfl (haE f48.cells)) ?_
 have f157 := f8.stp (S16.tr (S22.tr (S25.tr (S31.tr (S37.tr S44))))) rfl rfl
 refine WO.stB0 (κ := K43) 4 (vc := [.slice las5_0 s5.2.2.1.length lus5_0, .slice las5_1 s5.2.2.2.length lus5_1]) rfl rfl rfl rfl rfl rfl rfl Tryd.sizeOf42 rfl rfl f157 rfl fun w158 S159 f160 => ⟨trivial, ?_⟩
 refine WO.fin ?_
 refine DN.seq ?_
 refine WC.ret ?_
 have f161 := hE.stp (S3.tr (S7.tr (S16.tr (S22.tr (S25.tr (S31.tr (S37.tr (S44.tr S159)))))))) rfl rfl
 have f162 := f45.stp S159 rfl rfl
 have f163 := f46.stp S159 rfl rfl
 have f164 := f47.stp S159 rfl rfl
 refine DN.res (l := [.cell 6 42]) Tryd.results29 (res_cellA rfl f160 Tryd.isAgg42 Tryd.sizeOf42 rfl rfl) rfl ?_
 obtain rfl := Option.some.inj h
 exact ⟨(fun b => ren [(9, 3), (10, 4), (7, 2)] (K43 b)), las5_0, lus5_0, las5_1, lus5_1, rfl, (f161.map (ren [(9, 3), (10, 4), (7, 2)]) rfl rfl), (f162.map (ren [(9, 3), (10, 4), (7, 2)]) rfl rfl), (f163.map (ren [(9, 3), (10, 4), (7, 2)]) rfl rfl), (f164.map (ren [(9, 3), (10, 4), (7, 2)]) rfl rfl)⟩

/- slices.IndexFunc[[]int64,int64] -/
theorem slices_IndexFunc_I_int64__i_areLetters_1_ok {w : World} {κ : Col} {a0 : Option Addr} {u0 : Nat} {p0 : (List Int)} {c1_0 : Int} {b1_0 : Nat} (g0 : Rd (Rp.int .i64) κ w 0 a0 u0 p0) (gb1_0 : Bc κ w 0 b1_0 2 [.int .i64 c1_0]) {r : Int} (h : slices_IndexFunc_I_int64__i_areLetters_1 p0 c1_0 = some r) : Ret Tryd.prog 102 [.slice a0 p0.length u0, .func (.func 88) #[] #[.pointer (some ⟨b1_0, 0, none⟩)]] w (fun v w' => ∃ (κ' : Col), v = .int .i64 r ∧ Ent κ w κ' w') := by
 unfold slices_IndexFunc_I_int64__i_areLetters_1 at h
 refine Ret.enter Tryd.func102 rfl Tryd.ntmps102 rfl ?_
 dsimp only [envOf]
 have hE := Ent.refl κ w
 refine WC.seq ?_
 refine WC.rs [(0, 2)] rfl ?_
 refine WO.pn 1 rfl ?_
 refine WO.fin ?_
 refine DN.seq ?_
 refine WC.seq ?_
 refine WC.seq ?_
 refine WC.rs [(0, 2), (1, 2), (2, 2)] rfl ?_
 refine WO.pn 1 rfl ?_
 refine WO.k2 rfl rfl rfl rfl (rn_len Tryd.runUnderlying60 rfl rfl) ?_
 refine WO.pn 1 rfl ?_
 refine WO.fin ?_
 refine DN.seq ?_
 have hN1 : (p0.length : Int) ≤ 9223372036854775807 := g0.len_le
 obtain ⟨q2, hq3, hK2⟩ := Option.bind_eq_some_iff.mp h
 clear h
 refine WC.meet (fun L w' => ∃ (κ' : Col), L = [(1, .func (.func 88) #[] #[.pointer (some ⟨b1_0, 0, none⟩)])] ∧ Stp [] κ w κ' w' ∧ q2 = Sum.inr ()) ?_ ?_
 ·
  refine WC.block ?_
  refine WC.loop (fun k L w' => ∃ (κ' : Col) (v8 : Int), L = [(0, .slice a0 p0.length u0), (1, .func (.func 88) #[] #[.pointer (some ⟨b1_0, 0, none⟩)]), (7, .int .i64 (p0.length : Int)), (8, .int .i64 v8)] ∧ Stp [] κ w κ' w' ∧ 0 ≤ v8 ∧ Int.toNat ((p0.length : Int) - v8) = k ∧ cntM (slices_IndexFunc_I_int64__i_areLetters_1_b0 p0 c1_0) k v8 () = some q2) ⟨_, _, ⟨κ, 0, rfl, (Stp.refl _ _).wk rfl, (by decide), (by simp), hq3⟩, fun a ha => (ha.more (ha.more (ha.more (ha.more ha.nil rfl) rfl) rfl) rfl)⟩ ?_
  rintro k _ w7 ⟨K8, v8, rfl, S9, hj1, hJ1, h⟩
  rcases k with _ | k
  ·
   have hk10 := h; obtain ⟨o1, h⟩ := ex_eq (Sum.inr (Sum.inl ()) : Int ⊕ ((Unit) ⊕ (Unit)))
   have hc1 : decide (v8 < (p0.length : Int)) = false := decide_eq_false (by omega)
   refine WC.seq ?_
   refine WC.rs [(0, 2)] rfl ?_
   refine WO.pn 1 rfl ?_
   refine WO.fin ?_
   refine DN.seq ?_
   refine WC.seq ?_
   refine WC.cf' rfl hc1 ?_
   refine WC.exit ?_
   refine DN.exitThen ?_
   refine DN.exitThen ?_
   obtain rfl := Option.some.inj h
   have h := hk10
   refine DN.hit ?_
   obtain rfl := Option.some.inj h
   exact DN.meet _ ⟨K8, rfl, S9.wk rfl, rfl⟩ fun a ha => (ha.more ha.nil rfl)
  ·
   obtain ⟨o1, h, hk10⟩ := Option.bind_eq_some_iff.mp h; unfold slices_IndexFunc_I_int64__i_areLetters_1_b0 at h
   have hc1 : decide (v8 < (p0.length : Int)) = true := decide_eq_true (by omega)
   refine WC.seq ?_
   refine WC.rs [(0, 2)] rfl ?_
   refine WO.pn 1 rfl ?_
   refine WO.fin ?_
   refine DN.seq ?_
   refine WC.seq ?_
   refine WC.ct' rfl hc1 ?_
   refine WC.skip ?_
   refine DN.seq ?_
   refine WC.seq ?_
   refine WC.block ?_
   refine WC.seq ?_
   refine WC.rs [(0, 2), (1, 2)] rfl ?_
   refine WO.pn 2 rfl ?_
   refine WO.fin ?_
   refine DN.seq ?_
   refine WC.seq ?_
   refine WC.rs [(0, 2), (1, 2), (2, 2), (3, 2), (4, 1), (5, 1)] rfl ?_
   refine WO.pn 3 rfl ?_
   obtain ⟨x14, hx14, h⟩ := Option.bind_eq_some_iff.mp h
   refine WO.k2 rfl rfl rfl rfl (rn_index g0 hx14 Tryd.runUnderlying60 Tryd.sizeOf2 rfl rfl rfl rfl) ?_
   have f11 := g0.stp S9 rfl rfl
   refine WO.k1 trivial rfl rfl rfl rfl (rn_ld Tryd.isAgg2 rfl rfl (hvE (f11.gInt hx14))) ?_
   obtain ⟨x16, hx16, h⟩ := Option.bind_eq_some_iff.mp h
   have f12 := gb1_0.stp S9 rfl rfl
   refine WO.callV rfl rfl rfl rfl rfl rfl rfl rfl Tryd.call88 (i_areLetters_1_ok (κ := fun b => mp [] 0 (K8 b)) (f12.map (mp [] 0) rfl rfl) hx16) ?_
   rintro _ w13 ⟨k14, rfl, e15⟩
   obtain ⟨K16, S17, m18⟩ := Ent.mixed (l := []) (κ := K8) e15 2 rfl
   refine ⟨trivial, ?_⟩
   refine WO.fin ?_
   refine DN.seq ?_
   revert h
   cases ht20 : x16 with
   | true =>
    intro h; replace h := cT h
    refine WC.ct rfl ?_
    refine WC.seq ?_
    refine WC.rs [(0, 2), (1, 2)] rfl ?_
    refine WO.pn 2 rfl ?_
    refine WO.fin ?_
    refine DN.seq ?_
    refine WC.ret ?_
    refine DN.retBlock ?_
    refine DN.retThen ?_
    refine DN.retThen ?_
    obtain rfl := Option.some.inj h
    obtain rfl := Option.some.inj hk10
    have h := hK2
    dsimp only [aft] at h
    refine DN.retBlock ?_
    refine DN.retMeet ?_
    refine DN.retThen ?_
    have f21 := hE.stp (S9.tr S17) rfl rfl
    refine DN.res (l := [.tmp 4]) Tryd.results102 (res_tmp rfl rfl) rfl ?_
    obtain rfl := Option.some.inj h
    exact ⟨K16, rfl, f21⟩
   | false =>
    intro h; replace h := cF h
    refine WC.cf rfl ?_
    refine WC.skip ?_
    refine DN.block ?_
    refine DN.seq ?_
    refine WC.rs [(0, 2), (1, 2)] rfl ?_
    refine WO.pn 2 rfl ?_
    refine WO.fin ?_
    have hw1 : IntKind.wrap .i64 (v8 + 1) = v8 + 1 := wr1 hj1 (of_decide_eq_true hc1) hN1
    rw [hw1]
    have hc1 := of_decide_eq_true hc1
    obtain rfl := Option.some.inj h
    refine DN.round fun a ha => ?_
    exact ⟨k, _, Nat.lt_succ_self _, ⟨K16, v8 + 1, rfl, (S9.tr S17).wk rfl, by omega, by omega, hk10⟩, (ha.more (ha.more (ha.more (ha.more ha.nil rfl) rfl) rfl) rfl)⟩
 rintro _ w4 ⟨K5, rfl, S6, rfl⟩
 have h := hK2
 dsimp only [aft] at h
 refine DN.seq ?_
 refine WC.seq ?_
 refine WC.rs [(0, 2)] rfl ?_
 refine WO.pn 1 rfl ?_
 refine WO.fin ?_
 refine DN.seq ?_
 refine WC.ret ?_
 have f22 := hE.stp S6 rfl rfl
 refine DN.res (l := [.tmp 4]) Tryd.results102 (res_tmp rfl rfl) rfl ?_
 obtain rfl := Option.some.inj h
 exact ⟨K5, rfl, f22⟩

/- slices.ContainsFunc[[]int64,int64] -/
theorem slices_ContainsFunc_I_int64__i_areLetters_1_ok {w : World} {κ : Col} {a0 : Option Addr} {u0 : Nat} {p0 : (List Int)} {c1_0 : Int} {b1_0 : Nat} (g0 : Rd (Rp.int .i64) κ w 0 a0 u0 p0) (gb1_0 : Bc κ w 0 b1_0 2 [.int .i64 c1_0]) {r : Bool} (h : slices_ContainsFunc_I_int64__i_areLetters_1 p0 c1_0 = some r) : Ret Tryd.prog 87 [.slice a0 p0.length u0, .func (.func 88) #[] #[.pointer (some ⟨b1_0, 0, none⟩)]] w (fun v w' => ∃ (κ' : Col), v = .bool r ∧ Ent κ w κ' w') := by
 unfold slices_ContainsFunc_I_int64__i_areLetters_1 at h
 refine Ret.enter Tryd.func87 rfl Tryd.ntmps87 rfl ?_
 dsimp only [envOf]
 have hE := Ent.refl κ w
 refine WC.seq ?_
 refine WC.rs [(0, 2)] rfl ?_
 refine WO.pn 1 rfl ?_
 refine WO.fin ?_
 refine DN.seq ?_
 refine WC.seq ?_
 refine WC.rs [(0, 2), (1, 2), (2, 1), (3, 2), (4, 2)] rfl ?_
 refine WO.pn 2 rfl ?_
 obtain ⟨x7, hx7, h⟩ := Option.bind_eq_some_iff.mp h
 refine WO.call rfl rfl rfl rfl rfl rfl Tryd.call102 (slices_IndexFunc_I_int64__i_areLetters_1_ok (κ := fun b => mp [] 0 (κ b)) (Sl.map g0 (mp [] 0) rfl rfl) (gb1_0.map (mp [] 0) rfl rfl) hx7) ?_
 rintro _ w1 ⟨k2, rfl, e3⟩
 obtain ⟨K4, S5, m6⟩ := Ent.mixed (l := []) (κ := κ) e3 2 rfl
 refine ⟨trivial, ?_⟩
 refine WO.pn 2 rfl ?_
 refine WO.fin ?_
 refine DN.seq ?_
 refine WC.ret ?_
 have f8 := hE.stp S5 rfl rfl
 refine DN.res (l := [.tmp 4]) Tryd.results87 (res_tmp rfl rfl) rfl ?_
 obtain rfl := Option.some.inj h
 exact ⟨K4, rfl, f8⟩

/- loop.example/g00869/impl.decimal -/
theorem i_decimal_ok {w : World} {κ : Col} {p0 : Int} (gGT : Tb Tryd.prog "internal/strconv.uint64pow10" .u64 Lib.pow10Tab κ w) {r : ByteArray} (h : i_decimal p0 = some r) : Ret Tryd.prog 36 [.int .i64 p0] w (fun v w' => ∃ (κ' : Col), v = .string r ∧ Ent κ w κ' w') := by
 unfold i_decimal at h
 refine Ret.enter Tryd.func36 rfl Tryd.ntmps36 rfl ?_
 dsimp only [envOf]
 have hE := Ent.refl κ w
 refine WC.seq ?_
 refine WC.rs [(0, 2)] rfl ?_
 refine WO.pn 1 rfl ?_
 refine WO.fin ?_
 refine DN.seq ?_
 refine WC.seq ?_
 refine WC.rs [(0, 2), (1, 1), (2, 2)] rfl ?_
 refine WO.pn 1 rfl ?_
 obtain ⟨x4, hx4, h⟩ := Option.bind_eq_some_iff.mp h
 refine WO.call rfl rfl rfl rfl rfl rfl Tryd.call62 (strconv_FormatInt_ok (κ := fun b => mp [] 0 (κ b)) (gGT.map (mp [] 0) rfl rfl) hx4) ?_
 rintro _ w1 ⟨k2, rfl, e3⟩
 obtain ⟨K4, S5, m6⟩ := Ent.mixed (l := []) (κ := κ) e3 2 rfl
 refine ⟨trivial, ?_⟩
 refine WO.pn 1 rfl ?_
 refine WO.fin ?_
 refine DN.seq ?_
 refine WC.ret ?_
 have f8 := hE.stp S5 rfl rfl
 refine DN.res (l := [.tmp 2]) Tryd.results36 (res_tmp rfl rfl) rfl ?_
 obtain rfl := Option.some.inj h
 exact ⟨K4, rfl, f8⟩

/- loop.example/g00869/impl.linesOf -/
theorem i_linesOf_ok {w : World} {κ : Col} {p0 : ByteArray} (gGM : Vm 1 κ w) {r : (List ByteArray) × Bool} (h : i_linesOf p0 = some r) : Ret Tryd.prog 55 [.string p0] w (fun v w' => ∃ (κ' : Col) (ra0 : Option Addr) (ru0 : Nat), v = .tuple #[.slice ra0 r.1.length ru0, .bool r.2] ∧ Ent κ w κ' w' ∧ Rd Rp.str κ' w' 0 ra0 ru0 r.1) := by
 unfold i_linesOf at h
 refine Ret.enter Tryd.func55 rfl Tryd.ntmps55 rfl ?_
 dsimp only [envOf]
 have hE := Ent.refl κ w
 refine WC.seq ?_
 refine WC.rs [(0, 2), (1, 2)] rfl ?_
 refine WO.pn 2 rfl ?_
 refine WO.fin ?_
 refine DN.seq ?_
 refine WC.seq ?_
 refine WC.seq ?_
 refine WC.rs [(0, 2), (1, 2)] rfl ?_
 refine WO.pn 1 rfl ?_
 refine WO.k2 rfl rfl rfl rfl (rn_eqlSt rfl rfl rfl) ?_
 refine WO.fin ?_
 refine DN.seq ?_
 revert h
 cases ht1 : (eqB p0 (ByteArray.mk #[])) with
 | true =>
  intro h; replace h := cT h
  refine WC.ct rfl ?_
  refine WC.seq ?_
  refine WC.rs [(0, 2), (1, 2)] rfl ?_
  refine WO.pn 2 rfl ?_
  refine WO.fin ?_
  refine DN.seq ?_
  refine WC.ret ?_
  refine DN.retThen ?_
  refine DN.res (l := [.tmp 2, .tmp 3]) Tryd.results55 (res_tmp rfl (res_tmp rfl rfl)) rfl ?_
  obtain rfl := Option.some.inj h
  exact ⟨κ, none, 0, rfl, hE, Sl.nil⟩
 | false =>
  intro h; replace h := cF h
  refine WC.cf rfl ?_
  refine WC.skip ?_
  refine DN.seq ?_
  refine WC.seq ?_
  refine WC.rs [(0, 2), (1, 1), (2, 2)] rfl ?_
  refine WO.pn 1 rfl ?_
  obtain ⟨x8, hx8, h⟩ := Option.bind_eq_some_iff.mp h
  refine WO.call rfl rfl rfl rfl rfl rfl Tryd.call40 (strings_Split_ok (κ := fun b => mp [] 0 (κ b)) (gGM.map (mp [] 0) rfl rfl) hx8) ?_
  rintro _ w2 ⟨k3, a8_0, u8_0, rfl, e4, f5⟩
  obtain ⟨K6, S7, m8⟩ := Ent.mixed (l := []) (κ := κ) e4 2 rfl
  refine ⟨trivial, ?_⟩
  have f10 := f5.mx no_str m8 rfl (rfl : 2 + 2 = 4)
  refine WO.pn 1 rfl ?_
  refine WO.fin ?_
  refine DN.seq ?_
  refine WC.seq ?_
  refine WC.seq ?_
  refine WC.rs [(0, 2), (1, 2), (2, 2), (3, 2), (4, 2), (5, 1), (6, 2)] rfl ?_
  refine WO.pn 2 rfl ?_
  refine WO.k2 rfl rfl rfl rfl (rn_len Tryd.runUnderlying57 rfl rfl) ?_
  refine WO.pn 1 rfl ?_
  obtain ⟨x13, hx13, h⟩ := Option.bind_eq_some_iff.mp h
  refine WO.k2 rfl rfl rfl rfl (rn_index f10.rdc hx13 Tryd.runUnderlying57 Tryd.sizeOf9 rfl rfl rfl rfl) ?_
  refine WO.k1 trivial rfl rfl rfl rfl (rn_ld Tryd.isAgg9 rfl rfl (hvE (f10.rdc.gStr hx13))) ?_
  refine WO.k2 rfl rfl rfl rfl (rn_eqlSt rfl rfl rfl) ?_
  refine WO.fin ?_
  refine DN.seq ?_
  revert h
  cases ht11 : (eqB x13 (ByteArray.mk #[])) with
  | true =>
   intro h; replace h := cT h
   refine WC.ct rfl ?_
   refine WC.seq ?_
   refine WC.rs [(0, 2), (1, 2), (2, 2), (3, 2), (4, 2), (5, 2), (6, 2)] rfl ?_
   refine WO.pn 2 rfl ?_
   refine WO.k2 rfl rfl rfl rfl (rn_len Tryd.runUnderlying57 rfl rfl) ?_
   refine WO.pn 1 rfl ?_
   obtain ⟨x20, hx20, h⟩ := Option.bind_eq_some_iff.mp h
   refine WO.k2 rfl rfl rfl rfl (rn_slice (k1 := .i64) (k2 := .i64) Tryd.runUnderlying57 Tryd.sizeOf9 (.inl ⟨rfl, rfl⟩) (.inr ⟨_, rfl, rfl⟩) hx20 f10.rdc.1 rfl rfl rfl) ?_
   have f12 := f10.rdc.sub hx20
   refine WO.pn 2 rfl ?_
   refine WO.fin ?_
   refine DN.seq ?_
   refine WC.ret ?_
   refine DN.retThen ?_
   obtain ⟨K13, S14, z15⟩ := fz_ex K6 w2 4
   have f16 := Sl.st z15 f10.rdc
   have f17 := Sl.st z15 f12
   have f18 := hE.stp (S7.tr S14) rfl rfl
   refine DN.res (l := [.tmp 2, .tmp 3]) Tryd.results55 (res_tmp rfl (res_tmp rfl rfl)) rfl ?_
   obtain rfl := Option.some.inj h
   exact ⟨K13, (subA a8_0 u8_0 (0 : Int).toNat 1), (u8_0 - (0 : Int).toNat), rfl, f18, f17⟩
  | false =>
   intro h; replace h := cF h
   refine WC.cf rfl ?_
   refine WC.skip ?_
   refine DN.seq ?_
   refine WC.seq ?_
   refine WC.rs [(0, 2), (1, 2), (2, 2)] rfl ?_
   refine WO.pn 3 rfl ?_
   refine WO.fin ?_
   refine DN.seq ?_
   refine WC.ret ?_
   obtain ⟨K19, S20, z21⟩ := fz_ex K6 w2 4
   have f22 := Sl.st z21 f10.rdc
   have f23 := hE.stp (S7.tr S20) rfl rfl
   refine DN.res (l := [.tmp 2, .tmp 3]) Tryd.results55 (res_tmp rfl (res_tmp rfl rfl)) rfl ?_
   obtain rfl := Option.some.inj h
   exact ⟨K19, a8_0, u8_0, rfl, f23, f22⟩

/- loop.example/g00869/spec.SigOk -/
theorem s_SigOk_ok {w : World} {κ : Col} {p0 : Sig}  {r : Bool} (h : s_SigOk p0 = some r) : Ret Tryd.prog 65 [.agg #[.int .i64 p0.In, .int .i64 p0.Out]] w (fun v w' => ∃ (κ' : Col), v = .bool r ∧ Ent κ w κ' w') := by
 unfold s_SigOk at h
 refine Ret.enter Tryd.func65 rfl Tryd.ntmps65 rfl ?_
 dsimp only [envOf]
 have hE := Ent.refl κ w
 refine WC.seq ?_
 refine WC.rs [(0, 1), (1, 2)] rfl ?_
 refine WO.box (κ := κ) 2 rfl rfl rfl rfl rfl rfl rfl fun b1 w1 K2 S3 f4 => ⟨trivial, ?_⟩
 refine WO.pn 1 rfl ?_
 refine WO.fin ?_
 refine DN.seq ?_
 refine WC.seq ?_
 refine WC.rs [(0, 2), (1, 1), (2, 1), (3, 2), (4, 2), (5, 1), (6, 1), (7, 2), (8, 2)] rfl ?_
 refine WO.k2 rfl rfl rfl rfl (rn_fieldAddr Tryd.runUnderlying40 rfl Tryd.sizeOf2 rfl rfl) ?_
 refine WO.k1 trivial rfl rfl rfl rfl (rn_ld Tryd.isAgg2 rfl rfl (hvE (f4.ld 0 rfl rfl))) ?_
 obtain ⟨x5, hx5, h⟩ := Option.bind_eq_some_iff.mp h
 refine WO.call rfl rfl rfl rfl rfl rfl Tryd.call37 (s_l1In_ok (κ := fun b => mp [] 0 (K2 b)) hx5) ?_
 rintro _ w5 ⟨k6, rfl, e7⟩
 obtain ⟨K8, S9, m10⟩ := Ent.mixed (l := []) (κ := K2) e7 3 rfl
 refine ⟨trivial, ?_⟩
 refine WO.pn 1 rfl ?_
 obtain ⟨p10, h, hK12⟩ := Option.bind_eq_some_iff.mp h
 refine WO.meet [(4, 2), (5, 1), (6, 1), (7, 2)] [(8, 2)] (fun L w' => L = [(2, .bool false), (10, .bool p10)] ∧ ∃ κ', Stp [] K8 w5 κ' w') trivial ?_ ?_
 ·
  revert h
  cases ht13 : x5 with
  | true =>
   intro h; replace h := cT h
   refine WO.k2 rfl rfl rfl rfl (rn_fieldAddr Tryd.runUnderlying40 rfl Tryd.sizeOf2 rfl rfl) ?_
   have f14 := f4.stp S9 rfl rfl
   refine WO.k1 trivial rfl rfl rfl rfl (rn_ld Tryd.isAgg2 rfl rfl (hvE (f14.ld 1 rfl rfl))) ?_
   obtain ⟨x9, hx9, h⟩ := Option.bind_eq_some_iff.mp h
   refine WO.call rfl rfl rfl rfl rfl rfl Tryd.call37 (s_l1In_ok (κ := fun b => mp [] 0 (K8 b)) hx9) ?_
   rintro _ w15 ⟨k16, rfl, e17⟩
   obtain ⟨K18, S19, m20⟩ := Ent.mixed (l := []) (κ := K8) e17 5 rfl
   refine ⟨trivial, ?_⟩
   refine WO.pn 1 rfl ?_
   obtain rfl := Option.some.inj h
   exact WO.met _ trivial ⟨rfl, _, S19.wk rfl⟩ fun a ha => (ha.more (ha.more ha.nil rfl) rfl)
  | false =>
   intro h; replace h := cF h
   refine WO.pn 1 rfl ?_
   refine WO.ls rfl rfl rfl rfl ?_
   refine WO.ls rfl rfl rfl rfl ?_
   refine WO.pn 1 rfl ?_
   obtain rfl := Option.some.inj h
   exact WO.met _ trivial ⟨rfl, _, (Stp.refl _ _).wk rfl⟩ fun a ha => (ha.more (ha.more ha.nil rfl) rfl)
 rintro _ w22 _ ⟨rfl, K23, S24⟩
 have h := hK12
 refine WO.pn 1 rfl ?_
 refine WO.fin ?_
 refine DN.seq ?_
 refine WC.ret ?_
 have f25 := hE.stp (S3.tr (S9.tr S24)) rfl rfl
 refine DN.res (l := [.tmp 2]) Tryd.results65 (res_tmp rfl rfl) rfl ?_
 obtain rfl := Option.some.inj h
 exact ⟨K23, rfl, f25⟩

/- loop.example/g00869/spec.l29Ins -/
theorem s_l29Ins_ok {w : World} {κ : Col} {p0 : Sig}  {r : Int} (h : s_l29Ins p0 = some r) : Ret Tryd.prog 66 [.agg #[.int .i64 p0.In, .int .i64 p0.Out]] w (fun v w' => ∃ (κ' : Col), v = .int .i64 r ∧ Ent κ w κ' w') := by
 unfold s_l29Ins at h
 refine Ret.enter Tryd.func66 rfl Tryd.ntmps66 rfl ?_
 dsimp only [envOf]
 have hE := Ent.refl κ w
 refine WC.seq ?_
 refine WC.rs [(0, 1), (1, 2)] rfl ?_
 refine WO.box (κ := κ) 2 rfl rfl rfl rfl rfl rfl rfl fun b1 w1 K2 S3 f4 => ⟨trivial, ?_⟩
 refine WO.pn 1 rfl ?_
 refine WO.fin ?_
 refine DN.seq ?_
 refine WC.seq ?_
 refine WC.rs [(0, 2), (1, 1), (2, 1), (3, 2)] rfl ?_
 refine WO.k2 rfl rfl rfl rfl (rn_fieldAddr Tryd.runUnderlying40 rfl Tryd.sizeOf2 rfl rfl) ?_
 refine WO.k1 trivial rfl rfl rfl rfl (rn_ld Tryd.isAgg2 rfl rfl (hvE (f4.ld 0 rfl rfl))) ?_
 obtain ⟨x5, hx5, h⟩ := Option.bind_eq_some_iff.mp h
 refine WO.call rfl rfl rfl rfl rfl rfl Tryd.call68 (s_l23Power_ok (κ := fun b => mp [] 0 (K2 b)) hx5) ?_
 rintro _ w5 ⟨k6, rfl, e7⟩
 obtain ⟨K8, S9, m10⟩ := Ent.mixed (l := []) (κ := K2) e7 3 rfl
 refine ⟨trivial, ?_⟩
 refine WO.pn 1 rfl ?_
 refine WO.fin ?_
 refine DN.seq ?_
 refine WC.ret ?_
 have f12 := hE.stp (S3.tr S9) rfl rfl
 refine DN.res (l := [.tmp 2]) Tryd.results66 (res_tmp rfl rfl) rfl ?_
 obtain rfl := Option.some.inj h
 exact ⟨K8, rfl, f12⟩

/- loop.example/g00869/spec.l23Below -/
theorem s_l23Below_ok {w : World} {κ : Col} {a0 : Option Addr} {u0 : Nat} {p0 : (List Int)} {p1 : Int} (g0 : Rd (Rp.int .i64) κ w 0 a0 u0 p0) {r : Bool} (h : s_l23Below p0 p1 = some r) : Ret Tryd.prog 67 [.slice a0 p0.length u0, .int .i64 p1] w (fun v w' => ∃ (κ' : Col), v = .bool r ∧ Ent κ w κ' w') := by
 unfold s_l23Below at h
 refine Ret.enter Tryd.func67 rfl Tryd.ntmps67 rfl ?_
 dsimp only [envOf]
 have hE := Ent.refl κ w
 refine WC.seq ?_
 refine WC.rs [(0, 2)] rfl ?_
 refine WO.pn 1 rfl ?_
 refine WO.fin ?_
 refine DN.seq ?_
 refine WC.seq ?_
 refine WC.seq ?_
 refine WC.rs [(0, 2)] rfl ?_
 refine WO.pn 1 rfl ?_
 refine WO.fin ?_
 refine DN.seq ?_
 have hN1 : (p0.length : Int) ≤ 9223372036854775807 := g0.len_le
 obtain ⟨q2, hq3, hK2⟩ := Option.bind_eq_some_iff.mp h
 clear h
 refine WC.meet (fun L w' => ∃ (κ' : Col), L = [] ∧ Stp [] κ w κ' w' ∧ q2 = Sum.inr ()) ?_ ?_
 ·
  refine WC.block ?_
  refine WC.loop (fun k L w' => ∃ (κ' : Col) (v5 : Int), L = [(0, .slice a0 p0.length u0), (1, .int .i64 p1), (5, .int .i64 v5)] ∧ Stp [] κ w κ' w' ∧ 0 ≤ v5 ∧ Int.toNat ((p0.length : Int) - v5) = k ∧ cntM (s_l23Below_b0 p0 p1) k v5 () = some q2) ⟨_, _, ⟨κ, 0, rfl, (Stp.refl _ _).wk rfl, (by decide), (by simp), hq3⟩, fun a ha => (ha.more (ha.more (ha.more ha.nil rfl) rfl) rfl)⟩ ?_
  rintro k _ w7 ⟨K8, v5, rfl, S9, hj1, hJ1, h⟩
  rcases k with _ | k
  ·
   have hk10 := h; obtain ⟨o1, h⟩ := ex_eq (Sum.inr (Sum.inl ()) : Bool ⊕ ((Unit) ⊕ (Unit)))
   have hc1 : decide (v5 < (p0.length : Int)) = false := decide_eq_false (by omega)
   refine WC.seq ?_
   refine WC.seq ?_
   refine WC.rs [(0, 2), (1, 2), (2, 2), (3, 2)] rfl ?_
   refine WO.pn 2 rfl ?_
   refine WO.k2 rfl rfl rfl rfl (rn_len Tryd.runUnderlying60 rfl rfl) ?_
   refine WO.pn 1 rfl ?_
   refine WO.fin ?_
   refine DN.seq ?_
   refine WC.cf' rfl hc1 ?_
   refine WC.exit ?_
   refine DN.exitThen ?_
   refine DN.exitThen ?_
   obtain rfl := Option.some.inj h
   have h := hk10
   refine DN.hit ?_
   obtain rfl := Option.some.inj h
   exact DN.meet _ ⟨K8, rfl, S9.wk rfl, rfl⟩ fun a ha => ha.nil
  ·
   obtain ⟨o1, h, hk10⟩ := Option.bind_eq_some_iff.mp h; unfold s_l23Below_b0 at h
   have hc1 : decide (v5 < (p0.length : Int)) = true := decide_eq_true (by omega)
   refine WC.seq ?_
   refine WC.seq ?_
   refine WC.rs [(0, 2), (1, 2), (2, 2), (3, 2)] rfl ?_
   refine WO.pn 2 rfl ?_
   refine WO.k2 rfl rfl rfl rfl (rn_len Tryd.runUnderlying60 rfl rfl) ?_
   refine WO.pn 1 rfl ?_
   refine WO.fin ?_
   refine DN.seq ?_
   refine WC.ct' rfl hc1 ?_
   refine WC.skip ?_
   refine DN.seq ?_
   refine WC.seq ?_
   refine WC.block ?_
   refine WC.seq ?_
   refine WC.rs [(0, 2), (1, 2), (2, 2), (3, 1), (4, 2), (5, 2), (6, 1), (7, 2)] rfl ?_
   refine WO.pn 2 rfl ?_
   obtain ⟨x14, hx14, h⟩ := Option.bind_eq_some_iff.mp h
   refine WO.k2 rfl rfl rfl rfl (rn_index g0 hx14 Tryd.runUnderlying60 Tryd.sizeOf2 rfl rfl rfl rfl) ?_
   have f11 := g0.stp S9 rfl rfl
   refine WO.k1 trivial rfl rfl rfl rfl (rn_ld Tryd.isAgg2 rfl rfl (hvE (f11.gInt hx14))) ?_
   refine WO.pn 2 rfl ?_
   obtain ⟨x18, hx18, h⟩ := Option.bind_eq_some_iff.mp h
   refine WO.call rfl rfl rfl rfl rfl rfl Tryd.call37 (s_l1In_ok (κ := fun b => mp [] 0 (K8 b)) hx18) ?_
   rintro _ w12 ⟨k13, rfl, e14⟩
   obtain ⟨K15, S16, m17⟩ := Ent.mixed (l := []) (κ := K8) e14 2 rfl
   refine ⟨trivial, ?_⟩
   refine WO.pn 1 rfl ?_
   refine WO.fin ?_
   refine DN.seq ?_
   revert h
   cases ht19 : (!x18) with
   | true =>
    intro h; replace h := cT h
    refine WC.ct rfl ?_
    refine WC.seq ?_
    refine WC.rs [(0, 2)] rfl ?_
    refine WO.pn 1 rfl ?_
    refine WO.fin ?_
    refine DN.seq ?_
    refine WC.ret ?_
    refine DN.retBlock ?_
    refine DN.retThen ?_
    refine DN.retThen ?_
    obtain rfl := Option.some.inj h
    obtain rfl := Option.some.inj hk10
    have h := hK2
    dsimp only [aft] at h
    refine DN.retBlock ?_
    refine DN.retMeet ?_
    refine DN.retThen ?_
    have f20 := hE.stp (S9.tr S16) rfl rfl
    refine DN.res (l := [.tmp 4]) Tryd.results67 (res_tmp rfl rfl) rfl ?_
    obtain rfl := Option.some.inj h
    exact ⟨K15, rfl, f20⟩
   | false =>
    intro h; replace h := cF h
    refine WC.cf rfl ?_
    refine WC.skip ?_
    refine DN.block ?_
    refine DN.seq ?_
    refine WC.rs [(0, 2), (1, 2), (2, 2)] rfl ?_
    refine WO.pn 3 rfl ?_
    refine WO.fin ?_
    have hw1 : IntKind.wrap .i64 (v5 + 1) = v5 + 1 := wr1 hj1 (of_decide_eq_true hc1) hN1
    rw [hw1]
    have hc1 := of_decide_eq_true hc1
    obtain rfl := Option.some.inj h
    refine DN.round fun a ha => ?_
    exact ⟨k, _, Nat.lt_succ_self _, ⟨K15, v5 + 1, rfl, (S9.tr S16).wk rfl, by omega, by omega, hk10⟩, (ha.more (ha.more (ha.more ha.nil rfl) rfl) rfl)⟩
 rintro _ w4 ⟨K5, rfl, S6, rfl⟩
 have h := hK2
 dsimp only [aft] at h
 refine DN.seq ?_
 refine WC.seq ?_
 refine WC.rs [(0, 2)] rfl ?_
 refine WO.pn 1 rfl ?_
 refine WO.fin ?_
 refine DN.seq ?_
 refine WC.ret ?_
 have f21 := hE.stp S6 rfl rfl
 refine DN.res (l := [.tmp 4]) Tryd.results67 (res_tmp rfl rfl) rfl ?_
 obtain rfl := Option.some.inj h
 exact ⟨K5, rfl, f21⟩

/- loop.example/g00869/spec.MachineOk -/
theorem s_MachineOk_ok {w : World} {κ : Col} {p0 : Sig} {a1_0 : Option Addr} {u1_0 : Nat} {a1_1 : Option Addr} {u1_1 : Nat} {p1 : Machine} (g1_0 : Rd (Rp.sl (Rp.int .i64)) κ w 0 a1_0 u1_0 p1.Next) (g1_1 : Rd (Rp.sl (Rp.int .i64)) κ w 0 a1_1 u1_1 p1.Out) {r : Bool} (h : s_MachineOk p0 p1 = some r) : Ret Tryd.prog 44 [.agg #[.int .i64 p0.In, .int .i64 p0.Out], .agg #[.slice a1_0 p1.Next.length u1_0, .slice a1_1 p1.Out.length u1_1]] w (fun v w' => ∃ (κ' : Col), v = .bool r ∧ Ent κ w κ' w') := by
 unfold s_MachineOk at h
 refine Ret.enter Tryd.func44 rfl Tryd.ntmps44 rfl ?_
 dsimp only [envOf]
 have hE := Ent.refl κ w
 refine WC.seq ?_
 refine WC.rs [(0, 1), (1, 1), (2, 2)] rfl ?_
 refine WO.box (κ := κ) 2 rfl rfl rfl rfl rfl rfl rfl fun b2 w1 K2 S3 f4 => ⟨trivial, ?_⟩
 refine WO.box (κ := K2) 3 rfl rfl rfl rfl rfl rfl rfl fun b3 w5 K6 S7 f8 => ⟨trivial, ?_⟩
 refine WO.pn 1 rfl ?_
 refine WO.fin ?_
 refine DN.seq ?_
 refine WC.seq ?_
 refine WC.rs [(0, 2), (1, 1), (2, 2), (3, 2)] rfl ?_
 refine WO.k2 rfl rfl rfl rfl (rn_fieldAddr Tryd.runUnderlying42 rfl Tryd.sizeOf35 rfl rfl) ?_
 refine WO.k1 trivial rfl rfl rfl rfl (rn_ld Tryd.isAgg35 rfl rfl (hvE (f8.ld 0 rfl rfl))) ?_
 refine WO.k2 rfl rfl rfl rfl (rn_len Tryd.runUnderlying35 rfl rfl) ?_
 refine WO.pn 1 rfl ?_
 refine WO.fin ?_
 refine DN.seq ?_
 refine WC.seq ?_
 refine WC.seq ?_
 refine WC.rs [(0, 1), (1, 1), (2, 2), (3, 2), (4, 2), (5, 1), (6, 2), (7, 2), (8, 2), (9, 2), (10, 1), (11, 2), (12, 2), (13, 1), (14, 2), (15, 2), (16, 2)] rfl ?_
 have f9 := f4.stp S7 rfl rfl
 refine WO.k1 trivial rfl rfl rfl rfl (rn_la (cs := [.int .i64 p0.In, .int .i64 p0.Out]) Tryd.isAgg40 Tryd.sizeOf40 rfl rfl rfl (haE f9.cells)) ?_
 obtain ⟨x11, hx11, h⟩ := Option.bind_eq_some_iff.mp h
 refine WO.call rfl rfl rfl rfl rfl rfl Tryd.call65 (s_SigOk_ok (κ := fun b => mp [] 0 (K6 b)) (p0 := p0) hx11) ?_
 rintro _ w10 ⟨k11, rfl, e12⟩
 obtain ⟨K13, S14, m15⟩ := Ent.mixed (l := []) (κ := K6) e12 4 rfl
 refine ⟨trivial, ?_⟩
 refine WO.pn 2 rfl ?_
 obtain ⟨p17, h, hK17⟩ := Option.bind_eq_some_iff.mp h
 refine WO.meet [(4, 2), (5, 1), (6, 2), (7, 2)] [(8, 2), (9, 2), (10, 1), (11, 2), (12, 2), (13, 1), (14, 2), (15, 2), (16, 2)] (fun L w' => L = [(2, .pointer (some ⟨b2, 0, none⟩)), (3, .pointer (some ⟨b3, 0, none⟩)), (5, .int .i64 (p1.Next.length : Int)), (17, .bool p17)] ∧ ∃ κ', Stp [] K13 w10 κ' w') trivial ?_ ?_
 ·
  revert h
  cases ht18 : (!x11) with
  | true =>
   intro h; replace h := cT h
   refine WO.pn 1 rfl ?_
   refine WO.ls rfl rfl rfl rfl ?_
   refine WO.pn 2 rfl ?_
   obtain rfl := Option.some.inj h
   exact WO.met _ trivial ⟨rfl, _, (Stp.refl _ _).wk rfl⟩ fun a ha => (ha.more (ha.more (ha.more (ha.more ha.nil rfl) rfl) rfl) rfl)
  | false =>
   intro h; replace h := cF h
   refine WO.pn 1 rfl ?_
   obtain ⟨x15, hx15, h⟩ := Option.bind_eq_some_iff.mp h
   refine WO.call rfl rfl rfl rfl rfl rfl Tryd.call37 (s_l1In_ok (κ := fun b => mp [] 0 (K13 b)) hx15) ?_
   rintro _ w19 ⟨k20, rfl, e21⟩
   obtain ⟨K22, S23, m24⟩ := Ent.mixed (l := []) (κ := K13) e21 6 rfl
   refine ⟨trivial, ?_⟩
   refine WO.pn 2 rfl ?_
   obtain rfl := Option.some.inj h
   exact WO.met _ trivial ⟨rfl, _, S23.wk rfl⟩ fun a ha => (ha.more (ha.more (ha.more (ha.more ha.nil rfl) rfl) rfl) rfl)
 rintro _ w26 _ ⟨rfl, K27, S28⟩
 have h := hK17
 refine WO.pn 1 rfl ?_
 obtain ⟨p26, h, hK29⟩ := Option.bind_eq_some_iff.mp h
 refine WO.meet [(9, 2), (10, 1), (11, 2), (12, 2), (13, 1), (14, 2), (15, 2), (16, 2)] [] (fun L w' => L = [(2, .pointer (some ⟨b2, 0, none⟩)), (3, .pointer (some ⟨b3, 0, none⟩)), (5, .int .i64 (p1.Next.length : Int)), (26, .bool p26)] ∧ ∃ κ', Stp [] K27 w26 κ' w') trivial ?_ ?_
 ·
  revert h
  cases ht30 : p17 with
  | true =>
   intro h; replace h := cT h
   refine WO.pn 1 rfl ?_
   refine WO.ls rfl rfl rfl rfl ?_
   refine WO.pn 2 rfl ?_
   refine WO.ls rfl rfl rfl rfl ?_
   refine WO.pn 3 rfl ?_
   obtain rfl := Option.some.inj h
   exact WO.met _ trivial ⟨rfl, _, (Stp.refl _ _).wk rfl⟩ fun a ha => (ha.more (ha.more (ha.more (ha.more ha.nil rfl) rfl) rfl) rfl)
  | false =>
   intro h; replace h := cF h
   refine WO.k2 rfl rfl rfl rfl (rn_fieldAddr Tryd.runUnderlying42 rfl Tryd.sizeOf35 rfl rfl) ?_
   have f31 := f8.stp (S14.tr S28) rfl rfl
   refine WO.k1 trivial rfl rfl rfl rfl (rn_ld Tryd.isAgg35 rfl rfl (hvE (f31.ld 1 rfl rfl))) ?_
   refine WO.k2 rfl rfl rfl rfl (rn_len Tryd.runUnderlying35 rfl rfl) ?_
   refine WO.k2 rfl rfl rfl rfl (rn_fieldAddr Tryd.runUnderlying42 rfl Tryd.sizeOf35 rfl rfl) ?_
   refine WO.k1 trivial rfl rfl rfl rfl (rn_ld Tryd.isAgg35 rfl rfl (hvE (f31.ld 0 rfl rfl))) ?_
   refine WO.k2 rfl rfl rfl rfl (rn_len Tryd.runUnderlying35 rfl rfl) ?_
   refine WO.pn 2 rfl ?_
   obtain rfl := Option.some.inj h
   exact WO.met _ trivial ⟨rfl, _, (Stp.refl _ _).wk rfl⟩ fun a ha => (ha.more (ha.more (ha.more (ha.more ha.nil rfl) rfl) rfl) rfl)
 rintro _ w32 _ ⟨rfl, K33, S34⟩
 have h := hK29
 refine WO.fin ?_
 refine DN.seq ?_
 revert h
 cases ht35 : p26 with
 | true =>
  intro h; replace h := cT h
  refine WC.ct rfl ?_
  refine WC.seq ?_
  refine WC.rs [(0, 2)] rfl ?_
  refine WO.pn 1 rfl ?_
  refine WO.fin ?_
  refine DN.seq ?_
  refine WC.ret ?_
  refine DN.retThen ?_
  have f36 := hE.stp (S3.tr (S7.tr (S14.tr (S28.tr S34)))) rfl rfl
  refine DN.res (l := [.tmp 4]) Tryd.results44 (res_tmp rfl rfl) rfl ?_
  obtain rfl := Option.some.inj h
  exact ⟨K33, rfl, f36⟩
 | false =>
  intro h; replace h := cF h
  refine WC.cf rfl ?_
  refine WC.skip ?_
  refine DN.seq ?_
  refine WC.seq ?_
  refine WC.seq ?_
  refine WC.rs [(0, 2)] rfl ?_
  refine WO.pn 1 rfl ?_
  refine WO.fin ?_
  refine DN.seq ?_
  have hN37 : (p1.Next.length : Int) ≤ 9223372036854775807 := g1_0.len_le
  obtain ⟨q2, hq39, hK38⟩ := Option.bind_eq_some_iff.mp h
  clear h
  refine WC.meet (fun L w' => ∃ (κ' : Col), L = [] ∧ Stp [] K33 w32 κ' w' ∧ q2 = Sum.inr ()) ?_ ?_
  ·
   refine WC.block ?_
   refine WC.loop (fun k L w' => ∃ (κ' : Col) (v6 : Int), L = [(2, .pointer (some ⟨b2, 0, none⟩)), (3, .pointer (some ⟨b3, 0, none⟩)), (5, .int .i64 (p1.Next.length : Int)), (6, .int .i64 v6)] ∧ Stp [] K33 w32 κ' w' ∧ 0 ≤ v6 ∧ Int.toNat ((p1.Next.length : Int) - v6) = k ∧ cntM (s_MachineOk_b0 p0 p1) k v6 () = some q2) ⟨_, _, ⟨K33, 0, rfl, (Stp.refl _ _).wk rfl, (by decide), (by simp), hq39⟩, fun a ha => (ha.more (ha.more (ha.more (ha.more ha.nil rfl) rfl) rfl) rfl)⟩ ?_
   rintro k _ w43 ⟨K44, v6, rfl, S45, hj37, hJ37, h⟩
   rcases k with _ | k
   ·
    have hk46 := h; obtain ⟨o37, h⟩ := ex_eq (Sum.inr (Sum.inl ()) : Bool ⊕ ((Unit) ⊕ (Unit)))
    have hc37 : decide (v6 < (p1.Next.length : Int)) = false := decide_eq_false (by omega)
    refine WC.seq ?_
    refine WC.seq ?_
    refine WC.rs [(0, 2), (1, 2), (2, 1), (3, 2), (4, 2)] rfl ?_
    refine WO.pn 1 rfl ?_
    refine WO.k2 rfl rfl rfl rfl (rn_fieldAddr Tryd.runUnderlying42 rfl Tryd.sizeOf35 rfl rfl) ?_
    have f47 := f8.stp (S14.tr (S28.tr (S34.tr S45))) rfl rfl
    refine WO.k1 trivial rfl rfl rfl rfl (rn_ld Tryd.isAgg35 rfl rfl (hvE (f47.ld 0 rfl rfl))) ?_
    refine WO.k2 rfl rfl rfl rfl (rn_len Tryd.runUnderlying35 rfl rfl) ?_
    refine WO.pn 1 rfl ?_
    refine WO.fin ?_
    refine DN.seq ?_
    refine WC.cf' rfl hc37 ?_
    refine WC.exit ?_
    refine DN.exitThen ?_
    refine DN.exitThen ?_
    obtain rfl := Option.some.inj h
    have h := hk46
    refine DN.hit ?_
    obtain rfl := Option.some.inj h
    exact DN.meet _ ⟨K44, rfl, S45.wk rfl, rfl⟩ fun a ha => ha.nil
   ·
    obtain ⟨o37, h, hk46⟩ := Option.bind_eq_some_iff.mp h; unfold s_MachineOk_b0 at h
    have hc37 : decide (v6 < (p1.Next.length : Int)) = true := decide_eq_true (by omega)
    refine WC.seq ?_
    refine WC.seq ?_
    refine WC.rs [(0, 2), (1, 2), (2, 1), (3, 2), (4, 2)] rfl ?_
    refine WO.pn 1 rfl ?_
    refine WO.k2 rfl rfl rfl rfl (rn_fieldAddr Tryd.runUnderlying42 rfl Tryd.sizeOf35 rfl rfl) ?_
    have f48 := f8.stp (S14.tr (S28.tr (S34.tr S45))) rfl rfl
    refine WO.k1 trivial rfl rfl rfl rfl (rn_ld Tryd.isAgg35 rfl rfl (hvE (f48.ld 0 rfl rfl))) ?_
    refine WO.k2 rfl rfl rfl rfl (rn_len Tryd.runUnderlying35 rfl rfl) ?_
    refine WO.pn 1 rfl ?_
    refine WO.fin ?_
    refine DN.seq ?_
    refine WC.ct' rfl hc37 ?_
    refine WC.skip ?_
    refine DN.seq ?_
    refine WC.seq ?_
    refine WC.block ?_
    refine WC.seq ?_
    refine WC.rx (κ := K44) [0, 2, 3] none [(0, 2), (2, 2), (1, 0), (3, 2), (4, 0), (5, 2), (6, 0), (7, 1), (8, 2), (9, 2), (10, 2), (12, 2), (16, 2), (18, 2), (11, 0), (13, 2), (14, 0), (15, 2), (17, 0), (19, 2), (20, 0), (21, 2), (22, 2), (23, 2), (24, 2), (25, 2), (27, 2), (30, 2), (26, 0), (28, 2), (29, 0), (31, 1), (32, 2), (33, 2), (34, 2), (35, 2), (37, 2), (40, 2), (36, 0), (38, 2), (39, 0), (41, 0), (42, 1), (43, 1), (44, 2), (45, 2)] [] (by kernel_rfl) (by kernel_rfl) fun w50 S49 => ?_
    refine WO.k2 rfl rfl rfl rfl (rn_fieldAddr Tryd.runUnderlying42 rfl Tryd.sizeOf35 rfl rfl) ?_
    refine WO.pn 1 rfl ?_
    have f51 := f48.stp S49 rfl rfl
    refine WO.k0 rfl rfl rfl rfl (rn_ld Tryd.isAgg35 rfl rfl (hvC (f51.ld 0 rfl rfl) rfl)) ?_
    obtain ⟨x37, hx37, h⟩ := Option.bind_eq_some_iff.mp h
    refine WO.k2 rfl rfl rfl rfl (rn_index g1_0 hx37 Tryd.runUnderlying35 Tryd.sizeOf60 rfl rfl rfl rfl) ?_
    have f52 := g1_0.stp (S3.tr (S7.tr (S14.tr (S28.tr (S34.tr (S45.tr S49)))))) rfl rfl
    obtain ⟨ax37, ux37, f53, hl54⟩ := f52.gSl hx37
    refine WO.k0 rfl rfl rfl rfl (rn_ld Tryd.isAgg60 rfl rfl (hvC hl54 rfl)) ?_
    refine WO.k2 rfl rfl rfl rfl (rn_len Tryd.runUnderlying60 rfl rfl) ?_
    have f55 := f9.stp (S14.tr (S28.tr (S34.tr (S45.tr S49)))) rfl rfl
    refine WO.k0 rfl rfl rfl rfl (rn_la (cs := [.int .i64 p0.In, .int .i64 p0.Out]) Tryd.isAgg40 Tryd.sizeOf40 rfl rfl rfl (haC f55.cells rfl)) ?_
    obtain ⟨x41, hx41, h⟩ := Option.bind_eq_some_iff.mp h
    refine WO.call rfl rfl rfl rfl rfl rfl Tryd.call66 (s_l29Ins_ok (κ := fun b => mp [] 0 (K44 b)) (p0 := p0) hx41) ?_
    rintro _ w56 ⟨k57, rfl, e58⟩
    obtain ⟨K59, S60, m61⟩ := Ent.mixed (l := []) (κ := K44) e58 6 rfl
    refine ⟨(S60.cl rfl), ?_⟩
    refine WO.pn 2 rfl ?_
    obtain ⟨p57, h, hK63⟩ := Option.bind_eq_some_iff.mp h
    refine WO.meet [(10, 2), (12, 2), (16, 2), (18, 2), (11, 0), (13, 2), (14, 0), (15, 2), (17, 0), (19, 2), (20, 0), (21, 2), (22, 2), (23, 2)] [(24, 2), (25, 2), (27, 2), (30, 2), (26, 0), (28, 2), (29, 0), (31, 1), (32, 2), (33, 2), (34, 2), (35, 2), (37, 2), (40, 2), (36, 0), (38, 2), (39, 0), (41, 0), (42, 1), (43, 1), (44, 2), (45, 2)] (fun L w' => L = [(2, .pointer (some ⟨b2, 0, none⟩)), (3, .pointer (some ⟨b3, 0, none⟩)), (5, .int .i64 (p1.Next.length : Int)), (6, .int .i64 v6), (57, .bool p57)] ∧ ∃ κ', Stp [] K59 w56 κ' w') (S60.cl rfl) ?_ ?_
    ·
     revert h
     cases ht64 : ((x37.length : Int) != x41) with
     | true =>
      intro h; replace h := cT h
      refine WO.pn 4 rfl ?_
      refine WO.qs rfl rfl rfl rfl ?_
      refine WO.pn 1 rfl ?_
      refine WO.qs rfl rfl rfl rfl ?_
      refine WO.pn 1 rfl ?_
      refine WO.qs rfl rfl rfl rfl ?_
      refine WO.pn 1 rfl ?_
      refine WO.qs rfl rfl rfl rfl ?_
      refine WO.pn 3 rfl ?_
      obtain rfl := Option.some.inj h
      exact WO.met _ (S60.cl rfl) ⟨rfl, _, (Stp.refl _ _).wk rfl⟩ fun a ha => (ha.more (ha.more (ha.more (ha.more (ha.more ha.nil rfl) rfl) rfl) rfl) rfl)
     | false =>
      intro h; replace h := cF h
      refine WO.k2 rfl rfl rfl rfl (rn_fieldAddr Tryd.runUnderlying42 rfl Tryd.sizeOf35 rfl rfl) ?_
      refine WO.pn 1 rfl ?_
      refine WO.k2 rfl rfl rfl rfl (rn_fieldAddr Tryd.runUnderlying42 rfl Tryd.sizeOf35 rfl rfl) ?_
      refine WO.pn 1 rfl ?_
      refine WO.k0 rfl rfl rfl rfl (rn_ld Tryd.isAgg35 rfl rfl (hvC (f51.ld 1 rfl rfl) rfl)) ?_
      obtain ⟨x47, hx47, h⟩ := Option.bind_eq_some_iff.mp h
      refine WO.k2 rfl rfl rfl rfl (rn_index g1_1 hx47 Tryd.runUnderlying35 Tryd.sizeOf60 rfl rfl rfl rfl) ?_
      have f65 := g1_1.stp (S3.tr (S7.tr (S14.tr (S28.tr (S34.tr (S45.tr S49)))))) rfl rfl
      obtain ⟨ax47, ux47, f66, hl67⟩ := f65.gSl hx47
      refine WO.k0 rfl rfl rfl rfl (rn_ld Tryd.isAgg60 rfl rfl (hvC hl67 rfl)) ?_
      refine WO.k2 rfl rfl rfl rfl (rn_len Tryd.runUnderlying60 rfl rfl) ?_
      refine WO.k0 rfl rfl rfl rfl (rn_ld Tryd.isAgg35 rfl rfl (hvC (f51.ld 0 rfl rfl) rfl)) ?_
      obtain ⟨x53, hx53, h⟩ := Option.bind_eq_some_iff.mp h
      refine WO.k2 rfl rfl rfl rfl (rn_index f52 hx53 Tryd.runUnderlying35 Tryd.sizeOf60 rfl rfl rfl rfl) ?_
      obtain ⟨ax53, ux53, f68, hl69⟩ := f52.gSl hx53
      refine WO.k0 rfl rfl rfl rfl (rn_ld Tryd.isAgg60 rfl rfl (hvC hl69 rfl)) ?_
      refine WO.k2 rfl rfl rfl rfl (rn_len Tryd.runUnderlying60 rfl rfl) ?_
      refine WO.pn 2 rfl ?_
      obtain rfl := Option.some.inj h
      exact WO.met _ (S60.cl rfl) ⟨rfl, _, (Stp.refl _ _).wk rfl⟩ fun a ha => (ha.more (ha.more (ha.more (ha.more (ha.more ha.nil rfl) rfl) rfl) rfl) rfl)
    rintro _ w70 _ ⟨rfl, K71, S72⟩
    have h := hK63
    refine WO.pn 1 rfl ?_
    obtain ⟨p67, h, hK73⟩ := Option.bind_eq_some_iff.mp h
    refine WO.meet [(25, 2), (27, 2), (30, 2), (26, 0), (28, 2), (29, 0), (31, 1), (32, 2), (33, 2)] [(34, 2), (35, 2), (37, 2), (40, 2), (36, 0), (38, 2), (39, 0), (41, 0), (42, 1), (43, 1), (44, 2), (45, 2)] (fun L w' => L = [(2, .pointer (some ⟨b2, 0, none⟩)), (3, .pointer (some ⟨b3, 0, none⟩)), (5, .int .i64 (p1.Next.length : Int)), (6, .int .i64 v6), (67, .bool p67)] ∧ ∃ κ', Stp [] K71 w70 κ' w') ((S60.tr S72).cl rfl) ?_ ?_
    ·
     revert h
     cases ht74 : p57 with
     | true =>
      intro h; replace h := cT h
      refine WO.pn 3 rfl ?_
      refine WO.qs rfl rfl rfl rfl ?_
      refine WO.pn 1 rfl ?_
      refine WO.qs rfl rfl rfl rfl ?_
      refine WO.ls rfl rfl rfl rfl ?_
      refine WO.pn 2 rfl ?_
      obtain rfl := Option.some.inj h
      exact WO.met _ ((S60.tr S72).cl rfl) ⟨rfl, _, (Stp.refl _ _).wk rfl⟩ fun a ha => (ha.more (ha.more (ha.more (ha.more (ha.more ha.nil rfl) rfl) rfl) rfl) rfl)
     | false =>
      intro h; replace h := cF h
      refine WO.k2 rfl rfl rfl rfl (rn_fieldAddr Tryd.runUnderlying42 rfl Tryd.sizeOf35 rfl rfl) ?_
      refine WO.pn 2 rfl ?_
      refine WO.k0 rfl rfl rfl rfl (rn_ld Tryd.isAgg35 rfl rfl (hvC (f51.ld 0 rfl rfl) rfl)) ?_
      obtain ⟨x62, hx62, h⟩ := Option.bind_eq_some_iff.mp h
      refine WO.k2 rfl rfl rfl rfl (rn_index f52 hx62 Tryd.runUnderlying35 Tryd.sizeOf60 rfl rfl rfl rfl) ?_
      obtain ⟨ax62, ux62, f75, hl76⟩ := f52.gSl hx62
      refine WO.k0 rfl rfl rfl rfl (rn_ld Tryd.isAgg60 rfl rfl (hvC hl76 rfl)) ?_
      obtain ⟨x65, hx65, h⟩ := Option.bind_eq_some_iff.mp h
      have f77 := f75.stp (S60.tr S72) rfl rfl
      refine WO.call rfl rfl rfl rfl rfl rfl Tryd.call67 (s_l23Below_ok (κ := fun b => mp [] 0 (K71 b)) (Sl.map f77 (mp [] 0) rfl rfl) hx65) ?_
      rintro _ w78 ⟨k79, rfl, e80⟩
      obtain ⟨K81, S82, m83⟩ := Ent.mixed (l := []) (κ := K71) e80 8 rfl
      refine ⟨((S60.tr (S72.tr S82)).cl rfl), ?_⟩
      refine WO.pn 2 rfl ?_
      obtain rfl := Option.some.inj h
      exact WO.met _ ((S60.tr (S72.tr S82)).cl rfl) ⟨rfl, _, S82.wk rfl⟩ fun a ha => (ha.more (ha.more (ha.more (ha.more (ha.more ha.nil rfl) rfl) rfl) rfl) rfl)
    rintro _ w85 _ ⟨rfl, K86, S87⟩
    have h := hK73
    refine WO.pn 1 rfl ?_
    obtain ⟨p79, h, hK88⟩ := Option.bind_eq_some_iff.mp h
    refine WO.meet [(35, 2), (37, 2), (40, 2), (36, 0), (38, 2), (39, 0), (41, 0), (42, 1), (43, 1), (44, 2), (45, 2)] [] (fun L w' => L = [(2, .pointer (some ⟨b2, 0, none⟩)), (3, .pointer (some ⟨b3, 0, none⟩)), (5, .int .i64 (p1.Next.length : Int)), (6, .int .i64 v6), (79, .bool p79)] ∧ ∃ κ', Stp [] K86 w85 κ' w') ((S60.tr (S72.tr S87)).cl rfl) ?_ ?_
    ·
     revert h
     cases ht89 : p67 with
     | true =>
      intro h; replace h := cT h
      refine WO.pn 3 rfl ?_
      refine WO.qs rfl rfl rfl rfl ?_
      refine WO.pn 1 rfl ?_
      refine WO.qs rfl rfl rfl rfl ?_
      refine WO.qs rfl rfl rfl rfl ?_
      refine WO.ls rfl rfl rfl rfl ?_
      refine WO.ls rfl rfl rfl rfl ?_
      refine WO.pn 2 rfl ?_
      obtain rfl := Option.some.inj h
      exact WO.met _ ((S60.tr (S72.tr S87)).cl rfl) ⟨rfl, _, (Stp.refl _ _).wk rfl⟩ fun a ha => (ha.more (ha.more (ha.more (ha.more (ha.more ha.nil rfl) rfl) rfl) rfl) rfl)
     | false =>
      intro h; replace h := cF h
      refine WO.k2 rfl rfl rfl rfl (rn_fieldAddr Tryd.runUnderlying42 rfl Tryd.sizeOf35 rfl rfl) ?_
      refine WO.pn 1 rfl ?_
      refine WO.k2 rfl rfl rfl rfl (rn_fieldAddr Tryd.runUnderlying40 rfl Tryd.sizeOf2 rfl rfl) ?_
      refine WO.k0 rfl rfl rfl rfl (rn_ld Tryd.isAgg35 rfl rfl (hvC (f51.ld 1 rfl rfl) rfl)) ?_
      obtain ⟨x72, hx72, h⟩ := Option.bind_eq_some_iff.mp h
      refine WO.k2 rfl rfl rfl rfl (rn_index g1_1 hx72 Tryd.runUnderlying35 Tryd.sizeOf60 rfl rfl rfl rfl) ?_
      have f90 := g1_1.stp (S3.tr (S7.tr (S14.tr (S28.tr (S34.tr (S45.tr S49)))))) rfl rfl
      obtain ⟨ax72, ux72, f91, hl92⟩ := f90.gSl hx72
      refine WO.k0 rfl rfl rfl rfl (rn_ld Tryd.isAgg60 rfl rfl (hvC hl92 rfl)) ?_
      refine WO.k0 rfl rfl rfl rfl (rn_ld Tryd.isAgg2 rfl rfl (hvC (f55.ld 1 rfl rfl) rfl)) ?_
      obtain ⟨x76, hx76, h⟩ := Option.bind_eq_some_iff.mp h
      refine WO.call rfl rfl rfl rfl rfl rfl Tryd.call68 (s_l23Power_ok (κ := fun b => mp [] 0 (K86 b)) hx76) ?_
      rintro _ w93 ⟨k94, rfl, e95⟩
      obtain ⟨K96, S97, m98⟩ := Ent.mixed (l := []) (κ := K86) e95 8 rfl
      refine ⟨((S60.tr (S72.tr (S87.tr S97))).cl rfl), ?_⟩
      obtain ⟨x77, hx77, h⟩ := Option.bind_eq_some_iff.mp h
      have f100 := f91.stp (S60.tr (S72.tr (S87.tr S97))) rfl rfl
      refine WO.call rfl rfl rfl rfl rfl rfl Tryd.call67 (s_l23Below_ok (κ := fun b => mp [] 0 (K96 b)) (Sl.map f100 (mp [] 0) rfl rfl) hx77) ?_
      rintro _ w101 ⟨k102, rfl, e103⟩
      obtain ⟨K104, S105, m106⟩ := Ent.mixed (l := []) (κ := K96) e103 10 rfl
      refine ⟨((S60.tr (S72.tr (S87.tr (S97.tr S105)))).cl rfl), ?_⟩
      refine WO.pn 2 rfl ?_
      obtain rfl := Option.some.inj h
      exact WO.met _ ((S60.tr (S72.tr (S87.tr (S97.tr S105)))).cl rfl) ⟨rfl, _, (S97.tr S105).wk rfl⟩ fun a ha => (ha.more (ha.more (ha.more (ha.more (ha.more ha.nil rfl) rfl) rfl) rfl) rfl)
    rintro _ w108 _ ⟨rfl, K109, S110⟩
    have h := hK88
    refine WO.nx ?_
    refine WO.fin ?_
    refine DN.seq ?_
    revert h
    cases ht111 : p79 with
    | true =>
     intro h; replace h := cT h
     refine WC.ct rfl ?_
     refine WC.seq ?_
     refine WC.rs [(0, 2)] rfl ?_
     refine WO.pn 1 rfl ?_
     refine WO.fin ?_
     refine DN.seq ?_
     refine WC.ret ?_
     refine DN.retBlock ?_
     refine DN.retThen ?_
     refine DN.retThen ?_
     obtain rfl := Option.some.inj h
     obtain rfl := Option.some.inj hk46
     have h := hK38
     dsimp only [aft] at h
     refine DN.retBlock ?_
     refine DN.retMeet ?_
     refine DN.retThen ?_
     have f112 := hE.stp (S3.tr (S7.tr (S14.tr (S28.tr (S34.tr (S45.tr (S49.tr (S60.tr (S72.tr (S87.tr S110)))))))))) rfl rfl
     refine DN.res (l := [.tmp 4]) Tryd.results44 (res_tmp rfl rfl) rfl ?_
     obtain rfl := Option.some.inj h
     exact ⟨K109, rfl, f112⟩
    | false =>
     intro h; replace h := cF h
     refine WC.cf rfl ?_
     refine WC.skip ?_
     refine DN.block ?_
     refine DN.seq ?_
     refine WC.rs [(0, 2), (1, 2), (2, 2)] rfl ?_
     refine WO.pn 3 rfl ?_
     refine WO.fin ?_
     have hw37 : IntKind.wrap .i64 (v6 + 1) = v6 + 1 := wr1 hj37 (of_decide_eq_true hc37) hN37
     rw [hw37]
     have hc37 := of_decide_eq_true hc37
     obtain rfl := Option.some.inj h
     refine DN.round fun a ha => ?_
     exact ⟨k, _, Nat.lt_succ_self _, ⟨K109, v6 + 1, rfl, (S45.tr (S49.tr (S60.tr (S72.tr (S87.tr S110))))).wk rfl, by omega, by omega, hk46⟩, (ha.more (ha.more (ha.more (ha.more ha.nil rfl) rfl) rfl) rfl)⟩
  rintro _ w40 ⟨K41, rfl, S42, rfl⟩
  have h := hK38
  dsimp only [aft] at h
  refine DN.seq ?_
  refine WC.seq ?_
  refine WC.rs [(0, 2)] rfl ?_
  refine WO.pn 1 rfl ?_
  refine WO.fin ?_
  refine DN.seq ?_
  refine WC.ret ?_
  have f113 := hE.stp (S3.tr (S7.tr (S14.tr (S28.tr (S34.tr S42))))) rfl rfl
  refine DN.res (l := [.tmp 4]) Tryd.results44 (res_tmp rfl rfl) rfl ?_
  obtain rfl := Option.some.inj h
  exact ⟨K41, rfl, f113⟩

/- loop.example/g00869/spec.l13Lines -/
theorem s_l13Lines_ok {w : World} {κ : Col} {p0 : ByteArray}  {r : (List ByteArray) × Bool} (h : s_l13Lines p0 = some r) : Ret Tryd.prog 53 [.string p0] w (fun v w' => ∃ (κ' : Col) (ra0 : Option Addr) (ru0 : Nat), v = .tuple #[.slice ra0 r.1.length ru0, .bool r.2] ∧ Ent κ w κ' w' ∧ Rd Rp.str κ' w' 0 ra0 ru0 r.1) := by
 unfold s_l13Lines at h
 refine Ret.enter Tryd.func53 rfl Tryd.ntmps53 rfl ?_
 dsimp only [envOf]
 have hE := Ent.refl κ w
 refine WC.seq ?_
 refine WC.rs [(0, 2), (1, 2)] rfl ?_
 refine WO.pn 2 rfl ?_
 refine WO.fin ?_
 refine DN.seq ?_
 refine WC.seq ?_
 refine WC.rs [(0, 2), (1, 1), (2, 2)] rfl ?_
 refine WO.pn 1 rfl ?_
 obtain ⟨x7, hx7, h⟩ := Option.bind_eq_some_iff.mp h
 refine WO.call rfl rfl rfl rfl rfl rfl Tryd.call51 (s_l1Split_ok (κ := fun b => mp [] 0 (κ b)) hx7) ?_
 rintro _ w1 ⟨k2, a7_0, u7_0, rfl, e3, f4⟩
 obtain ⟨K5, S6, m7⟩ := Ent.mixed (l := []) (κ := κ) e3 2 rfl
 refine ⟨trivial, ?_⟩
 have f9 := f4.mx no_str m7 rfl (rfl : 2 + 2 = 4)
 refine WO.pn 1 rfl ?_
 refine WO.fin ?_
 refine DN.seq ?_
 refine WC.seq ?_
 refine WC.rs [(0, 2), (1, 2), (2, 2), (3, 2)] rfl ?_
 refine WO.pn 1 rfl ?_
 refine WO.k2 rfl rfl rfl rfl (rn_len Tryd.runUnderlying57 rfl rfl) ?_
 refine WO.pn 2 rfl ?_
 refine WO.fin ?_
 refine DN.seq ?_
 refine WC.seq ?_
 refine WC.rx (κ := K5) [0, 4] none [(0, 2), (1, 2), (2, 2), (3, 2), (4, 2), (5, 2), (8, 2), (6, 0), (7, 2), (9, 2)] [] (by kernel_rfl) (by kernel_rfl) fun w11 S10 => ?_
 refine WO.pn 2 rfl ?_
 obtain ⟨x13, hx13, h⟩ := Option.bind_eq_some_iff.mp h
 refine WO.k2 rfl rfl rfl rfl (rn_slice (k1 := .i64) (k2 := .i64) Tryd.runUnderlying57 Tryd.sizeOf9 (.inl ⟨rfl, rfl⟩) (.inr ⟨_, rfl, rfl⟩) hx13 f9.rdc.1 rfl rfl rfl) ?_
 have f13 := f9.stp S10 rfl rfl
 have f12 := f13.rdc.sub hx13
 refine WO.pn 2 rfl ?_
 obtain ⟨x16, hx16, h⟩ := Option.bind_eq_some_iff.mp h
 refine WO.k2 rfl rfl rfl rfl (rn_index f13.rdc hx16 Tryd.runUnderlying57 Tryd.sizeOf9 rfl rfl rfl rfl) ?_
 refine WO.pn 1 rfl ?_
 refine WO.k0 rfl rfl rfl rfl (rn_ld Tryd.isAgg9 rfl rfl (hvC (f13.rdc.gStr hx16) rfl)) ?_
 refine WO.k2 rfl rfl rfl rfl (rn_neqSt rfl rfl rfl) ?_
 refine WO.pn 1 rfl ?_
 refine WO.nx ?_
 refine WO.fin ?_
 refine DN.seq ?_
 refine WC.ret ?_
 obtain ⟨K14, S15, z16⟩ := fz_ex K5 w11 4
 have f17 := Sl.st z16 f13.rdc
 have f18 := Sl.st z16 f12
 have f19 := hE.stp (S6.tr (S10.tr S15)) rfl rfl
 refine DN.res (l := [.tmp 2, .tmp 3]) Tryd.results53 (res_tmp rfl (res_tmp rfl rfl)) rfl ?_
 obtain rfl := Option.some.inj h
 exact ⟨K14, (subA a7_0 u7_0 (0 : Int).toNat 1), (u7_0 - (0 : Int).toNat), rfl, f19, f18⟩

/- loop.example/g00869/spec.l29State -/
theorem s_l29State_ok {w : World} {κ : Col} {a0_0 : Option Addr} {u0_0 : Nat} {a0_1 : Option Addr} {u0_1 : Nat} {p0 : Machine} {p1 : ByteArray} (g0_0 : Oc (Ep.own (Ep.int .i64) 2) 60 κ w 2 a0_0 u0_0 p0.Next) (g0_1 : Oc (Ep.own (Ep.int .i64) 2) 60 κ w 3 a0_1 u0_1 p0.Out) {r : Machine × Bool} (h : s_l29State p0 p1 = some r) : Ret Tryd.prog 54 [.agg #[.slice a0_0 p0.Next.length u0_0, .slice a0_1 p0.Out.length u0_1], .string p1] w (fun v w' => ∃ (κ' : Col) (ra0 : Option Addr) (ru0 : Nat) (ra1 : Option Addr) (ru1 : Nat), v = .tuple #[.agg #[.slice ra0 r.1.Next.length ru0, .slice ra1 r.1.Out.length ru1], .bool r.2] ∧ Ent κ w κ' w' ∧ Oc (Ep.own (Ep.int .i64) 2) 60 κ' w' 4 ra0 ru0 r.1.Next ∧ Oc (Ep.own (Ep.int .i64) 2) 60 κ' w' 5 ra1 ru1 r.1.Out) := by
 unfold s_l29State at h
 refine Ret.enter Tryd.func54 rfl Tryd.ntmps54 rfl ?_
 dsimp only [envOf]
 have hE := Ent.refl κ w
 refine WC.seq ?_
 refine WC.rs [(0, 1), (1, 1), (2, 2)] rfl ?_
 refine WO.box (κ := κ) 4 rfl rfl rfl rfl rfl rfl rfl fun b2 w1 K2 S3 f4 => ⟨trivial, ?_⟩
 refine WO.alloc (κ := K2) 5 rfl rfl rfl rfl rfl Tryd.zeroValue42 rfl fun b4 w5 K6 S7 f8 => ⟨trivial, ?_⟩
 refine WO.pn 1 rfl ?_
 refine WO.fin ?_
 refine DN.seq ?_
 refine WC.seq ?_
 refine WC.rs [(0, 2), (1, 1), (2, 2)] rfl ?_
 refine WO.pn 1 rfl ?_
 obtain ⟨x16, hx16, h⟩ := Option.bind_eq_some_iff.mp h
 refine WO.call rfl rfl rfl rfl rfl rfl Tryd.call51 (s_l1Split_ok (κ := fun b => mp [] 0 (K6 b)) hx16) ?_
 rintro _ w9 ⟨k10, a16_0, u16_0, rfl, e11, f12⟩
 obtain ⟨K13, S14, m15⟩ := Ent.mixed (l := []) (κ := K6) e11 6 rfl
 refine ⟨trivial, ?_⟩
 have f17 := f12.mx no_str m15 rfl (rfl : 6 + 2 = 8)
 refine WO.pn 1 rfl ?_
 refine WO.fin ?_
 refine DN.seq ?_
 refine WC.seq ?_
 refine WC.rs [(0, 1), (1, 2)] rfl ?_
 refine WO.bl0 (κ := K13) (E := (Ep.int .i64)) 9 rfl rfl rfl rfl rfl Tryd.underlying60 Trydinfo2 rfl fun a17 u17 w18 K19 S20 f21 => ⟨trivial, ?_⟩
 refine WO.pn 1 rfl ?_
 refine WO.fin ?_
 refine DN.seq ?_
 refine WC.seq ?_
 refine WC.rs [(0, 1), (1, 2)] rfl ?_
 refine WO.bl0 (κ := K19) (E := (Ep.int .i64)) 10 rfl rfl rfl rfl rfl Tryd.underlying60 Trydinfo2 rfl fun a18 u18 w22 K23 S24 f25 => ⟨trivial, ?_⟩
 refine WO.pn 1 rfl ?_
 refine WO.fin ?_
 refine DN.seq ?_
 refine WC.seq ?_
 refine WC.seq ?_
 refine WC.rs [(0, 2)] rfl ?_
 refine WO.pn 1 rfl ?_
 refine WO.fin ?_
 refine DN.seq ?_
 have hN26 : (x16.length : Int) ≤ 9223372036854775807 := f17.len_le
 obtain ⟨q2, hq28, hK27⟩ := Option.bind_eq_some_iff.mp h
 clear h
 refine WC.meet (fun L w' => ∃ (κ' : Col) (s3 : (List Int) × (List Int)) (las3_0 : Option Addr) (lus3_0 : Nat) (las3_1 : Option Addr) (lus3_1 : Nat), L = [(2, .pointer (some ⟨b2, 0, none⟩)), (4, .pointer (some ⟨b4, 0, none⟩)), (7, .slice las3_0 s3.1.length lus3_0), (8, .slice las3_1 s3.2.length lus3_1)] ∧ Stp [9, 10] K23 w22 κ' w' ∧ Oc (Ep.int .i64) 2 κ' w' 9 las3_0 lus3_0 s3.1 ∧ Oc (Ep.int .i64) 2 κ' w' 10 las3_1 lus3_1 s3.2 ∧ q2 = Sum.inr s3) ?_ ?_
 ·
  refine WC.block ?_
  have f39 := f21.stp S24 rfl rfl
  refine WC.loop (fun k L w' => ∃ (κ' : Col) (v9 : Int) (s1 : (List Int) × (List Int)) (las1_0 : Option Addr) (lus1_0 : Nat) (las1_1 : Option Addr) (lus1_1 : Nat), L = [(2, .pointer (some ⟨b2, 0, none⟩)), (4, .pointer (some ⟨b4, 0, none⟩)), (6, .slice a16_0 x16.length u16_0), (7, .slice las1_0 s1.1.length lus1_0), (8, .slice las1_1 s1.2.length lus1_1), (9, .int .i64 v9)] ∧ Stp [9, 10] K23 w22 κ' w' ∧ Oc (Ep.int .i64) 2 κ' w' 9 las1_0 lus1_0 s1.1 ∧ Oc (Ep.int .i64) 2 κ' w' 10 las1_1 lus1_1 s1.2 ∧ 0 ≤ v9 ∧ Int.toNat ((x16.length : Int) - v9) = k ∧ cntM (s_l29State_b0 p0 x16) k v9 s1 = some q2) ⟨_, _, ⟨K23, 0, ((([] : List Int) : (List Int)), (([] : List Int) : (List Int))), a17, u17, a18, u18, rfl, (Stp.refl _ _).wk rfl, f39, f25, (by decide), (by simp), hq28⟩, fun a ha => (ha.more (ha.more (ha.more (ha.more (ha.more (ha.more ha.nil rfl) rfl) rfl) rfl) rfl) rfl)⟩ ?_
  rintro k _ w34 ⟨K35, v9, s1, las1_0, lus1_0, las1_1, lus1_1, rfl, S36, f37, f38, hj26, hJ26, h⟩
  rcases k with _ | k
  ·
   have hk40 := h; obtain ⟨o26, h⟩ := ex_eq (Sum.inr (Sum.inl s1) : (Machine × Bool) ⊕ (((List Int) × (List Int)) ⊕ ((List Int) × (List Int))))
   have hc26 : decide (v9 < (x16.length : Int)) = false := decide_eq_false (by omega)
   refine WC.seq ?_
   refine WC.seq ?_
   refine WC.rs [(0, 2), (1, 2), (2, 2), (3, 2)] rfl ?_
   refine WO.pn 2 rfl ?_
   refine WO.k2 rfl rfl rfl rfl (rn_len Tryd.runUnderlying57 rfl rfl) ?_
   refine WO.pn 1 rfl ?_
   refine WO.fin ?_
   refine DN.seq ?_
   refine WC.cf' rfl hc26 ?_
   refine WC.exit ?_
   refine DN.exitThen ?_
   refine DN.exitThen ?_
   obtain rfl := Option.some.inj h
   have h := hk40
   refine DN.hit ?_
   obtain rfl := Option.some.inj h
   exact DN.meet _ ⟨K35, ((s1.1 : (List Int)), (s1.2 : (List Int))), las1_0, lus1_0, las1_1, lus1_1, rfl, S36.wk rfl, f37, f38, rfl⟩ fun a ha => (ha.more (ha.more (ha.more (ha.more ha.nil rfl) rfl) rfl) rfl)
  ·
   obtain ⟨o26, h, hk40⟩ := Option.bind_eq_some_iff.mp h; unfold s_l29State_b0 at h
   have hc26 : decide (v9 < (x16.length : Int)) = true := decide_eq_true (by omega)
   refine WC.seq ?_
   refine WC.seq ?_
   refine WC.rs [(0, 2), (1, 2), (2, 2), (3, 2)] rfl ?_
   refine WO.pn 2 rfl ?_
   refine WO.k2 rfl rfl rfl rfl (rn_len Tryd.runUnderlying57 rfl rfl) ?_
   refine WO.pn 1 rfl ?_
   refine WO.fin ?_
   refine DN.seq ?_
   refine WC.ct' rfl hc26 ?_
   refine WC.skip ?_
   refine DN.seq ?_
   refine WC.seq ?_
   refine WC.block ?_
   refine WC.seq ?_
   refine WC.rs [(0, 2), (1, 2), (2, 2), (3, 1), (4, 1), (5, 2)] rfl ?_
   refine WO.pn 2 rfl ?_
   obtain ⟨x27, hx27, h⟩ := Option.bind_eq_some_iff.mp h
   refine WO.k2 rfl rfl rfl rfl (rn_index f17.rdc hx27 Tryd.runUnderlying57 Tryd.sizeOf9 rfl rfl rfl rfl) ?_
   have f41 := f17.stp (S20.tr (S24.tr S36)) rfl rfl
   refine WO.k1 trivial rfl rfl rfl rfl (rn_ld Tryd.isAgg9 rfl rfl (hvE (f41.rdc.gStr hx27))) ?_
   obtain ⟨x29, hx29, h⟩ := Option.bind_eq_some_iff.mp h
   refine WO.call rfl rfl rfl rfl rfl rfl Tryd.call51 (s_l1Split_ok (κ := fun b => mp [] 0 (K35 b)) hx29) ?_
   rintro _ w42 ⟨k43, a29_0, u29_0, rfl, e44, f45⟩
   obtain ⟨K46, S47, m48⟩ := Ent.mixed (l := []) (κ := K35) e44 11 rfl
   refine ⟨trivial, ?_⟩
   have f50 := f45.mx no_str m48 rfl (rfl : 11 + 2 = 13)
   refine WO.pn 1 rfl ?_
   refine WO.fin ?_
   refine DN.seq ?_
   refine WC.seq ?_
   refine WC.seq ?_
   refine WC.rs [(0, 2), (1, 2), (2, 2)] rfl ?_
   refine WO.pn 1 rfl ?_
   refine WO.k2 rfl rfl rfl rfl (rn_len Tryd.runUnderlying57 rfl rfl) ?_
   refine WO.pn 1 rfl ?_
   refine WO.fin ?_
   refine DN.seq ?_
   revert h
   cases ht51 : ((x29.length : Int) != 2) with
   | true =>
    intro h; replace h := cT h
    refine WC.ct rfl ?_
    refine WC.seq ?_
    refine WC.rs [(0, 1), (1, 1), (2, 2)] rfl ?_
    have f52 := f4.stp (S7.tr (S14.tr (S20.tr (S24.tr (S36.tr S47))))) rfl rfl
    refine WO.k1 trivial rfl rfl rfl rfl (rn_la (cs := [.slice a0_0 p0.Next.length u0_0, .slice a0_1 p0.Out.length u0_1]) Tryd.isAgg42 Tryd.sizeOf42 rfl rfl rfl (haE f52.cells)) ?_
    have f53 := f8.stp (S14.tr (S20.tr (S24.tr (S36.tr S47)))) rfl rfl
    refine WO.stB0 (κ := K46) 5 (vc := [.slice a0_0 p0.Next.length u0_0, .slice a0_1 p0.Out.length u0_1]) rfl rfl rfl rfl rfl rfl rfl Tryd.sizeOf42 rfl rfl f53 rfl fun w54 S55 f56 => ⟨trivial, ?_⟩
    refine WO.pn 1 rfl ?_
    refine WO.fin ?_
    refine DN.seq ?_
    refine WC.ret ?_
    refine DN.retThen ?_
    refine DN.retBlock ?_
    refine DN.retThen ?_
    refine DN.retThen ?_
    obtain rfl := Option.some.inj h
    obtain rfl := Option.some.inj hk40
    have h := hK27
    dsimp only [aft] at h
    refine DN.retBlock ?_
    refine DN.retMeet ?_
    refine DN.retThen ?_
    have f57 := hE.stp (S3.tr (S7.tr (S14.tr (S20.tr (S24.tr (S36.tr (S47.tr S55))))))) rfl rfl
    have f58 := g0_0.stp (S3.tr (S7.tr (S14.tr (S20.tr (S24.tr (S36.tr (S47.tr S55))))))) rfl rfl
    have f59 := g0_1.stp (S3.tr (S7.tr (S14.tr (S20.tr (S24.tr (S36.tr (S47.tr S55))))))) rfl rfl
    refine DN.res (l := [.cell 4 42, .tmp 5]) Tryd.results54 (res_cellA rfl f56 Tryd.isAgg42 Tryd.sizeOf42 rfl (res_tmp rfl rfl)) rfl ?_
    obtain rfl := Option.some.inj h
    exact ⟨(fun b => ren [(2, 4), (3, 5)] (K46 b)), a0_0, u0_0, a0_1, u0_1, rfl, (f57.map (ren [(2, 4), (3, 5)]) rfl rfl), (f58.map (ren [(2, 4), (3, 5)]) rfl rfl), (f59.map (ren [(2, 4), (3, 5)]) rfl rfl)⟩
   | false =>
    intro h; replace h := cF h
    refine WC.cf rfl ?_
    refine WC.skip ?_
    refine DN.seq ?_
    refine WC.seq ?_
    refine WC.rs [(0, 2), (1, 2), (2, 1), (3, 1), (4, 2), (5, 2), (6, 2), (7, 2), (8, 2)] rfl ?_
    refine WO.pn 1 rfl ?_
    obtain ⟨x36, hx36, h⟩ := Option.bind_eq_some_iff.mp h
    refine WO.k2 rfl rfl rfl rfl (rn_index f50.rdc hx36 Tryd.runUnderlying57 Tryd.sizeOf9 rfl rfl rfl rfl) ?_
    refine WO.k1 trivial rfl rfl rfl rfl (rn_ld Tryd.isAgg9 rfl rfl (hvE (f50.rdc.gStr hx36))) ?_
    obtain ⟨x38, hx38, h⟩ := Option.bind_eq_some_iff.mp h
    refine WO.call rfl rfl rfl rfl rfl rfl Tryd.call52 (s_l1Read_ok (κ := fun b => mp [] 0 (K46 b)) hx38) ?_
    rintro _ w60 ⟨k61, rfl, e62⟩
    obtain ⟨K63, S64, m65⟩ := Ent.mixed (l := []) (κ := K46) e62 14 rfl
    refine ⟨trivial, ?_⟩
    refine WO.pn 5 rfl ?_
    refine WO.fin ?_
    refine DN.seq ?_
    refine WC.seq ?_
    refine WC.rs [(0, 2), (1, 2), (2, 1), (3, 1), (4, 2), (5, 2), (6, 2), (7, 2), (8, 2)] rfl ?_
    refine WO.pn 1 rfl ?_
    obtain ⟨x43, hx43, h⟩ := Option.bind_eq_some_iff.mp h
    refine WO.k2 rfl rfl rfl rfl (rn_index f50.rdc hx43 Tryd.runUnderlying57 Tryd.sizeOf9 rfl rfl rfl rfl) ?_
    have f67 := f50.stp S64 rfl rfl
    refine WO.k1 trivial rfl rfl rfl rfl (rn_ld Tryd.isAgg9 rfl rfl (hvE (f67.rdc.gStr hx43))) ?_
    obtain ⟨x45, hx45, h⟩ := Option.bind_eq_some_iff.mp h
    refine WO.call rfl rfl rfl rfl rfl rfl Tryd.call52 (s_l1Read_ok (κ := fun b => mp [] 0 (K63 b)) hx45) ?_
    rintro _ w68 ⟨k69, rfl, e70⟩
    obtain ⟨K71, S72, m73⟩ := Ent.mixed (l := []) (κ := K63) e70 16 rfl
    refine ⟨trivial, ?_⟩
    refine WO.pn 5 rfl ?_
    refine WO.fin ?_
    refine DN.seq ?_
    refine WC.seq ?_
    refine WC.seq ?_
    refine WC.rs [(0, 2), (1, 2), (2, 2), (3, 2), (4, 2), (5, 2)] rfl ?_
    refine WO.pn 3 rfl ?_
    obtain ⟨p53, h, hK75⟩ := Option.bind_eq_some_iff.mp h
    refine WO.meet [(3, 2), (4, 2), (5, 2)] [] (fun L w' => L = [(2, .pointer (some ⟨b2, 0, none⟩)), (4, .pointer (some ⟨b4, 0, none⟩)), (6, .slice a16_0 x16.length u16_0), (7, .slice las1_0 s1.1.length lus1_0), (8, .slice las1_1 s1.2.length lus1_1), (9, .int .i64 v9), (11, .int .i64 x38.1), (13, .int .i64 x45.1), (53, .bool p53)] ∧ ∃ κ', Stp [] K71 w68 κ' w') trivial ?_ ?_
    ·
     revert h
     cases ht76 : (!x38.2) with
     | true =>
      intro h; replace h := cT h
      refine WO.pn 3 rfl ?_
      obtain rfl := Option.some.inj h
      exact WO.met _ trivial ⟨rfl, _, (Stp.refl _ _).wk rfl⟩ fun a ha => (ha.more (ha.more (ha.more (ha.more (ha.more (ha.more (ha.more (ha.more (ha.more ha.nil rfl) rfl) rfl) rfl) rfl) rfl) rfl) rfl) rfl)
     | false =>
      intro h; replace h := cF h
      refine WO.pn 3 rfl ?_
      obtain rfl := Option.some.inj h
      exact WO.met _ trivial ⟨rfl, _, (Stp.refl _ _).wk rfl⟩ fun a ha => (ha.more (ha.more (ha.more (ha.more (ha.more (ha.more (ha.more (ha.more (ha.more ha.nil rfl) rfl) rfl) rfl) rfl) rfl) rfl) rfl) rfl)
    rintro _ w77 _ ⟨rfl, K78, S79⟩
    have h := hK75
    refine WO.fin ?_
    refine DN.seq ?_
    revert h
    cases ht80 : p53 with
    | true =>
     intro h; replace h := cT h
     refine WC.ct rfl ?_
     refine WC.seq ?_
     refine WC.rs [(0, 1), (1, 1), (2, 2)] rfl ?_
     have f81 := f4.stp (S7.tr (S14.tr (S20.tr (S24.tr (S36.tr (S47.tr (S64.tr (S72.tr S79)))))))) rfl rfl
     refine WO.k1 trivial rfl rfl rfl rfl (rn_la (cs := [.slice a0_0 p0.Next.length u0_0, .slice a0_1 p0.Out.length u0_1]) Tryd.isAgg42 Tryd.sizeOf42 rfl rfl rfl (haE f81.cells)) ?_
     have f82 := f8.stp (S14.tr (S20.tr (S24.tr (S36.tr (S47.tr (S64.tr (S72.tr S79))))))) rfl rfl
     refine WO.stB0 (κ := K78) 5 (vc := [.slice a0_0 p0.Next.length u0_0, .slice a0_1 p0.Out.length u0_1]) rfl rfl rfl rfl rfl rfl rfl Tryd.sizeOf42 rfl rfl f82 rfl fun w83 S84 f85 => ⟨trivial, ?_⟩
     refine WO.pn 1 rfl ?_
     refine WO.fin ?_
     refine DN.seq ?_
     refine WC.ret ?_
     refine DN.retThen ?_
     refine DN.retBlock ?_
     refine DN.retThen ?_
     refine DN.retThen ?_
     obtain rfl := Option.some.inj h
     obtain rfl := Option.some.inj hk40
     have h := hK27
     dsimp only [aft] at h
     refine DN.retBlock ?_
     refine DN.retMeet ?_
     refine DN.retThen ?_
     have f86 := hE.stp (S3.tr (S7.tr (S14.tr (S20.tr (S24.tr (S36.tr (S47.tr (S64.tr (S72.tr (S79.tr S84)))))))))) rfl rfl
     have f87 := g0_0.stp (S3.tr (S7.tr (S14.tr (S20.tr (S24.tr (S36.tr (S47.tr (S64.tr (S72.tr (S79.tr S84)))))))))) rfl rfl
     have f88 := g0_1.stp (S3.tr (S7.tr (S14.tr (S20.tr (S24.tr (S36.tr (S47.tr (S64.tr (S72.tr (S79.tr S84)))))))))) rfl rfl
     refine DN.res (l := [.cell 4 42, .tmp 5]) Tryd.results54 (res_cellA rfl f85 Tryd.isAgg42 Tryd.sizeOf42 rfl (res_tmp rfl rfl)) rfl ?_
     obtain rfl := Option.some.inj h
     exact ⟨(fun b => ren [(2, 4), (3, 5)] (K78 b)), a0_0, u0_0, a0_1, u0_1, rfl, (f86.map (ren [(2, 4), (3, 5)]) rfl rfl), (f87.map (ren [(2, 4), (3, 5)]) rfl rfl), (f88.map (ren [(2, 4), (3, 5)]) rfl rfl)⟩
    | false =>
     intro h; replace h := cF h
     refine WC.cf rfl ?_
     refine WC.skip ?_
     refine DN.seq ?_
     refine WC.seq ?_
     refine WC.rs [(0, 2), (1, 2), (2, 1), (3, 1), (4, 2)] rfl ?_
     refine WO.pn 2 rfl ?_
     refine WO.bl (κ := K78) (E := (Ep.int .i64)) 18 [] (parts := [(0, .tmp 56)]) (cells := [.int .i64 x38.1]) (xs := ([x38.1] : List Int)) rfl rfl rfl rfl rfl rfl Tryd.underlying60 Trydinfo2 rfl rfl rfl rfl rfl rfl rfl rfl rfl rfl ⟨[.int .i64 x38.1], [], Zl K78 w77 [], Zl K78 w77 [], rfl, Zl.sp (l1 := []) (l2 := []) rfl, Zl.sr (l1 := []) (l2 := []), rfl, rfl⟩ fun a57 u57 w89 K90 S91 f92 => ⟨trivial, ?_⟩
     obtain ⟨x58, hx58, h⟩ := Option.bind_eq_some_iff.mp h
     have f93 := f37.stp (S47.tr (S64.tr (S72.tr (S79.tr S91)))) rfl rfl
     refine WO.app (κ := K90) (E := (Ep.int .i64)) 9 [] rfl rfl rfl rfl rfl rfl rfl rfl rfl Tryd.underlying60 Trydinfo2 rfl rfl rfl rfl f93 (Sl.srcP (pu_int _) f92.rdc) sy_false hx58 rfl fun a58 u58 w94 K95 S96 f97 => ⟨trivial, ?_⟩
     refine WO.pn 1 rfl ?_
     refine WO.fin ?_
     refine DN.seq ?_
     refine WC.rs [(0, 2), (1, 2), (2, 1), (3, 1), (4, 2)] rfl ?_
     refine WO.pn 2 rfl ?_
     refine WO.bl (κ := K95) (E := (Ep.int .i64)) 19 [] (parts := [(0, .tmp 60)]) (cells := [.int .i64 x45.1]) (xs := ([x45.1] : List Int)) rfl rfl rfl rfl rfl rfl Tryd.underlying60 Trydinfo2 rfl rfl rfl rfl rfl rfl rfl rfl rfl rfl ⟨[.int .i64 x45.1], [], Zl K95 w94 [], Zl K95 w94 [], rfl, Zl.sp (l1 := []) (l2 := []) rfl, Zl.sr (l1 := []) (l2 := []), rfl, rfl⟩ fun a61 u61 w98 K99 S100 f101 => ⟨trivial, ?_⟩
     obtain ⟨x62, hx62, h⟩ := Option.bind_eq_some_iff.mp h
     have f102 := f38.stp (S47.tr (S64.tr (S72.tr (S79.tr (S91.tr (S96.tr S100)))))) rfl rfl
     refine WO.app (κ := K99) (E := (Ep.int .i64)) 10 [] rfl rfl rfl rfl rfl rfl rfl rfl rfl Tryd.underlying60 Trydinfo2 rfl rfl rfl rfl f102 (Sl.srcP (pu_int _) f101.rdc) sy_false hx62 rfl fun a62 u62 w103 K104 S105 f106 => ⟨trivial, ?_⟩
     refine WO.pn 1 rfl ?_
     refine WO.fin ?_
     refine DN.block ?_
     refine DN.seq ?_
     refine WC.rs [(0, 2), (1, 2), (2, 2)] rfl ?_
     refine WO.pn 3 rfl ?_
     refine WO.fin ?_
     have hw26 : IntKind.wrap .i64 (v9 + 1) = v9 + 1 := wr1 hj26 (of_decide_eq_true hc26) hN26
     rw [hw26]
     have hc26 := of_decide_eq_true hc26
     have f107 := f97.stp (S100.tr S105) rfl rfl
     obtain rfl := Option.some.inj h
     refine DN.round fun a ha => ?_
     exact ⟨k, _, Nat.lt_succ_self _, ⟨K104, v9 + 1, ((x58 : (List Int)), (x62 : (List Int))), a58, u58, a62, u62, rfl, (S36.tr (S47.tr (S64.tr (S72.tr (S79.tr (S91.tr (S96.tr (S100.tr S105)))))))).wk rfl, f107, f106, by omega, by omega, hk40⟩, (ha.more (ha.more (ha.more (ha.more (ha.more (ha.more ha.nil rfl) rfl) rfl) rfl) rfl) rfl)⟩
 rintro _ w29 ⟨K30, s3, las3_0, lus3_0, las3_1, lus3_1, rfl, S31, f32, f33, rfl⟩
 have h := hK27
 dsimp only [aft] at h
 refine DN.seq ?_
 refine WC.seq ?_
 obtain ⟨x67, hx67, h⟩ := Option.bind_eq_some_iff.mp h
 obtain ⟨x72, hx72, h⟩ := Option.bind_eq_some_iff.mp h
 refine WC.meet (fun L w' => ∃ (κ' : Col) (lar111_0 : Option Addr) (lur111_0 : Nat) (lar111_1 : Option Addr) (lur111_1 : Nat), L = [(4, .pointer (some ⟨b4, 0, none⟩)), (5, .bool true)] ∧ Stp [2, 3, 5, 9, 10, 11, 12] K30 w29 κ' w' ∧ Oc (Ep.own (Ep.int .i64) 2) 60 κ' w' 11 lar111_0 lur111_0 x67 ∧ Oc (Ep.own (Ep.int .i64) 2) 60 κ' w' 12 lar111_1 lur111_1 x72 ∧ Bc κ' w' 5 b4 42 [.slice lar111_0 x67.length lur111_0, .slice lar111_1 x72.length lur111_1]) ?_ ?_
 ·
  refine WC.rxt (κ := K30) [4] none (by kernel_rfl) fun w115 S116 => ?_
  refine WA.seg (fuel := 7) [(0, 2), (2, 2), (5, 2), (7, 2), (1, 0), (6, 0)] (by kernel_rfl) (by kernel_rfl) rfl ?_
  refine WO.k2 rfl rfl rfl rfl (rn_fieldAddr Tryd.runUnderlying42 rfl Tryd.sizeOf35 rfl rfl) ?_
  refine WO.pn 1 rfl ?_
  refine WO.k2 rfl rfl rfl rfl (rn_fieldAddr Tryd.runUnderlying42 rfl Tryd.sizeOf35 rfl rfl) ?_
  refine WO.pn 1 rfl ?_
  have f117 := f4.stp (S7.tr (S14.tr (S20.tr (S24.tr (S31.tr S116))))) rfl rfl
  refine WO.k0 rfl rfl rfl rfl (rn_ld Tryd.isAgg35 rfl rfl (hvC (f117.ld 0 rfl rfl) rfl)) ?_
  refine WO.k0 rfl rfl rfl rfl (rn_ld Tryd.isAgg35 rfl rfl (hvC (f117.ld 1 rfl rfl) rfl)) ?_
  refine WO.wa ?_
  refine WA.fork2 (fuel := 6) 3 8 (by kernel_rfl) rfl ?_ ?_
  ·
   have f118 := f32.stp S116 rfl rfl
   refine WO.bl (κ := K30) (E := (Ep.own (Ep.int .i64) 2)) 11 [9] (parts := [(0, .tmp 65)]) (cells := [.slice las3_0 s3.1.length lus3_0]) (xs := ([s3.1] : List (List Int))) rfl rfl rfl rfl rfl rfl Tryd.underlying35 Trydinfo60 rfl rfl rfl rfl rfl rfl rfl rfl rfl rfl ⟨[.slice las3_0 s3.1.length lus3_0], [], Zl K30 w115 [9], Zl K30 w115 [], rfl, Zl.sp (l1 := [9]) (l2 := []) rfl, Zl.sr (l1 := [9]) (l2 := []), ⟨_, _, rfl, f118⟩, rfl⟩ fun a66 u66 w119 K120 S121 f122 => ⟨(S121.cl rfl), ?_⟩
   refine WO.wa ?_
   refine WA.fork2 (fuel := 5) 4 8 (by kernel_rfl) rfl ?_ ?_
   ·
    have f123 := g0_0.stp (S3.tr (S7.tr (S14.tr (S20.tr (S24.tr (S31.tr (S116.tr S121))))))) rfl rfl
    refine WO.app (κ := K120) (E := (Ep.own (Ep.int .i64) 2)) 2 [11] rfl rfl rfl rfl rfl rfl rfl rfl rfl Tryd.underlying35 Trydinfo60 rfl rfl rfl rfl f123 f122.src (sy_one rfl) hx67 rfl fun a67 u67 w124 K125 S126 f127 => ⟨((S121.tr S126).cl rfl), ?_⟩
    refine WO.wa ?_
    refine WA.seg (fuel := 0) [(8, 1), (9, 1), (10, 2), (11, 1), (12, 2)] (by kernel_rfl) (by kernel_rfl) rfl ?_
    have f128 := f33.stp (S116.tr (S121.tr S126)) rfl rfl
    refine WO.bl (κ := K125) (E := (Ep.own (Ep.int .i64) 2)) 12 [10] (parts := [(0, .tmp 70)]) (cells := [.slice las3_1 s3.2.length lus3_1]) (xs := ([s3.2] : List (List Int))) rfl rfl rfl rfl rfl rfl Tryd.underlying35 Trydinfo60 rfl rfl rfl rfl rfl rfl rfl rfl rfl rfl ⟨[.slice las3_1 s3.2.length lus3_1], [], Zl K125 w124 [10], Zl K125 w124 [], rfl, Zl.sp (l1 := [10]) (l2 := []) rfl, Zl.sr (l1 := [10]) (l2 := []), ⟨_, _, rfl, f128⟩, rfl⟩ fun a71 u71 w129 K130 S131 f132 => ⟨((S121.tr (S126.tr S131)).cl rfl), ?_⟩
    have f133 := g0_1.stp (S3.tr (S7.tr (S14.tr (S20.tr (S24.tr (S31.tr (S116.tr (S121.tr (S126.tr S131))))))))) rfl rfl
    refine WO.app (κ := K130) (E := (Ep.own (Ep.int .i64) 2)) 3 [12] rfl rfl rfl rfl rfl rfl rfl rfl rfl Tryd.underlying35 Trydinfo60 rfl rfl rfl rfl f133 f132.src (sy_one rfl) hx72 rfl fun a72 u72 w134 K135 S136 f137 => ⟨((S121.tr (S126.tr (S131.tr S136))).cl rfl), ?_⟩
    refine WO.k2 rfl rfl rfl rfl (rn_build (parts := [(0, .tmp 67), (1, .tmp 72)]) (cells := [.slice a67 x67.length u67, .slice a72 x72.length u72]) rfl rfl (by kernel_rfl)) ?_
    have f138 := f8.stp (S14.tr (S20.tr (S24.tr (S31.tr (S116.tr (S121.tr (S126.tr (S131.tr S136)))))))) rfl rfl
    refine WO.stB0 (κ := K135) 5 (vc := [.slice a67 x67.length u67, .slice a72 x72.length u72]) rfl rfl rfl rfl rfl rfl rfl Tryd.sizeOf42 rfl rfl f138 rfl fun w139 S140 f141 => ⟨((S121.tr (S126.tr (S131.tr (S136.tr S140)))).cl rfl), ?_⟩
    refine WO.pn 1 rfl ?_
    refine WO.wa ?_
    refine WA.last [] (by kernel_rfl) (by kernel_rfl) rfl ?_
    refine WO.fin ?_
    have f142 := f127.stp (S131.tr (S136.tr S140)) rfl rfl
    have f143 := f137.stp S140 rfl rfl
    exact DN.meet _ ⟨(fun b => ren [(2, 11), (3, 12)] (K135 b)), a67, u67, a72, u72, rfl, (Stp.ren ((S116.tr (S121.tr (S126.tr (S131.tr (S136.tr S140))))).wk rfl) [(2, 11), (3, 12)] rfl), (f142.map (ren [(2, 11), (3, 12)]) rfl rfl), (f143.map (ren [(2, 11), (3, 12)]) rfl rfl), (f141.map (ren [(2, 11), (3, 12)]) rfl rfl)⟩ fun a ha => (ha.more (ha.more ha.nil rfl) rfl)
   ·
    have f144 := f33.stp (S116.tr S121) rfl rfl
    refine WO.bl (κ := K120) (E := (Ep.own (Ep.int .i64) 2)) 12 [10] (parts := [(0, .tmp 70)]) (cells := [.slice las3_1 s3.2.length lus3_1]) (xs := ([s3.2] : List (List Int))) rfl rfl rfl rfl rfl rfl Tryd.underlying35 Trydinfo60 rfl rfl rfl rfl rfl rfl rfl rfl rfl rfl ⟨[.slice las3_1 s3.2.length lus3_1], [], Zl K120 w119 [10], Zl K120 w119 [], rfl, Zl.sp (l1 := [10]) (l2 := []) rfl, Zl.sr (l1 := [10]) (l2 := []), ⟨_, _, rfl, f144⟩, rfl⟩ fun a71 u71 w145 K146 S147 f148 => ⟨((S121.tr S147).cl rfl), ?_⟩
    refine WO.wa ?_
    refine WA.seg (fuel := 0) [(4, 1), (9, 1), (10, 2), (11, 1), (12, 2)] (by kernel_rfl) (by kernel_rfl) rfl ?_
    have f149 := f122.stp S147 rfl rfl
    have f150 := g0_0.stp (S3.tr (S7.tr (S14.tr (S20.tr (S24.tr (S31.tr (S116.tr (S121.tr S147)))))))) rfl rfl
    refine WO.app (κ := K146) (E := (Ep.own (Ep.int .i64) 2)) 2 [11] rfl rfl rfl rfl rfl rfl rfl rfl rfl Tryd.underlying35 Trydinfo60 rfl rfl rfl rfl f150 f149.src (sy_one rfl) hx67 rfl fun a67 u67 w151 K152 S153 f154 => ⟨((S121.tr (S147.tr S153)).cl rfl), ?_⟩
    have f155 := f148.stp S153 rfl rfl
    have f156 := g0_1.stp (S3.tr (S7.tr (S14.tr (S20.tr (S24.tr (S31.tr (S116.tr (S121.tr (S147.tr S153))))))))) rfl rfl
    refine WO.app (κ := K152) (E := (Ep.own (Ep.int .i64) 2)) 3 [12] rfl rfl rfl rfl rfl rfl rfl rfl rfl Tryd.underlying35 Trydinfo60 rfl rfl rfl rfl f156 f155.src (sy_one rfl) hx72 rfl fun a72 u72 w157 K158 S159 f160 => ⟨((S121.tr (S147.tr (S153.tr S159))).cl rfl), ?_⟩
    refine WO.k2 rfl rfl rfl rfl (rn_build (parts := [(0, .tmp 67), (1, .tmp 72)]) (cells := [.slice a67 x67.length u67, .slice a72 x72.length u72]) rfl rfl (by kernel_rfl)) ?_
    have f161 := f8.stp (S14.tr (S20.tr (S24.tr (S31.tr (S116.tr (S121.tr (S147.tr (S153.tr S159)))))))) rfl rfl
    refine WO.stB0 (κ := K158) 5 (vc := [.slice a67 x67.length u67, .slice a72 x72.length u72]) rfl rfl rfl rfl rfl rfl rfl Tryd.sizeOf42 rfl rfl f161 rfl fun w162 S163 f164 => ⟨((S121.tr (S147.tr (S153.tr (S159.tr S163)))).cl rfl), ?_⟩
    refine WO.pn 1 rfl ?_
    refine WO.wa ?_
    refine WA.last [] (by kernel_rfl) (by kernel_rfl) rfl ?_
    refine WO.fin ?_
    have f165 := f154.stp (S159.tr S163) rfl rfl
    have f166 := f160.stp S163 rfl rfl
    exact DN.meet _ ⟨(fun b => ren [(2, 11), (3, 12)] (K158 b)), a67, u67, a72, u72, rfl, (Stp.ren ((S116.tr (S121.tr (S147.tr (S153.tr (S159.tr S163))))).wk rfl) [(2, 11), (3, 12)] rfl), (f165.map (ren [(2, 11), (3, 12)]) rfl rfl), (f166.map (ren [(2, 11), (3, 12)]) rfl rfl), (f164.map (ren [(2, 11), (3, 12)]) rfl rfl)⟩ fun a ha => (ha.more (ha.more ha.nil rfl) rfl)
  ·
   have f167 := f33.stp S116 rfl rfl
   refine WO.bl (κ := K30) (E := (Ep.own (Ep.int .i64) 2)) 11 [10] (parts := [(0, .tmp 70)]) (cells := [.slice las3_1 s3.2.length lus3_1]) (xs := ([s3.2] : List (List Int))) rfl rfl rfl rfl rfl rfl Tryd.underlying35 Trydinfo60 rfl rfl rfl rfl rfl rfl rfl rfl rfl rfl ⟨[.slice las3_1 s3.2.length lus3_1], [], Zl K30 w115 [10], Zl K30 w115 [], rfl, Zl.sp (l1 := [10]) (l2 := []) rfl, Zl.sr (l1 := [10]) (l2 := []), ⟨_, _, rfl, f167⟩, rfl⟩ fun a71 u71 w168 K169 S170 f171 => ⟨(S170.cl rfl), ?_⟩
   refine WO.wa ?_
   refine WA.seg (fuel := 0) [(3, 1), (4, 1), (9, 1), (10, 2), (11, 1), (12, 2)] (by kernel_rfl) (by kernel_rfl) rfl ?_
   have f172 := f32.stp (S116.tr S170) rfl rfl
   refine WO.bl (κ := K169) (E := (Ep.own (Ep.int .i64) 2)) 12 [9] (parts := [(0, .tmp 65)]) (cells := [.slice las3_0 s3.1.length lus3_0]) (xs := ([s3.1] : List (List Int))) rfl rfl rfl rfl rfl rfl Tryd.underlying35 Trydinfo60 rfl rfl rfl rfl rfl rfl rfl rfl rfl rfl ⟨[.slice las3_0 s3.1.length lus3_0], [], Zl K169 w168 [9], Zl K169 w168 [], rfl, Zl.sp (l1 := [9]) (l2 := []) rfl, Zl.sr (l1 := [9]) (l2 := []), ⟨_, _, rfl, f172⟩, rfl⟩ fun a66 u66 w173 K174 S175 f176 => ⟨((S170.tr S175).cl rfl), ?_⟩
   have f177 := g0_0.stp (S3.tr (S7.tr (S14.tr (S20.tr (S24.tr (S31.tr (S116.tr (S170.tr S175)))))))) rfl rfl
   refine WO.app (κ := K174) (E := (Ep.own (Ep.int .i64) 2)) 2 [12] rfl rfl rfl rfl rfl rfl rfl rfl rfl Tryd.underlying35 Trydinfo60 rfl rfl rfl rfl f177 f176.src (sy_one rfl) hx67 rfl fun a67 u67 w178 K179 S180 f181 => ⟨((S170.tr (S175.tr S180)).cl rfl), ?_⟩
   have f182 := f171.stp (S175.tr S180) rfl rfl
   have f183 := g0_1.stp (S3.tr (S7.tr (S14.tr (S20.tr (S24.tr (S31.tr (S116.tr (S170.tr (S175.tr S180))))))))) rfl rfl
   refine WO.app (κ := K179) (E := (Ep.own (Ep.int .i64) 2)) 3 [11] rfl rfl rfl rfl rfl rfl rfl rfl rfl Tryd.underlying35 Trydinfo60 rfl rfl rfl rfl f183 f182.src (sy_one rfl) hx72 rfl fun a72 u72 w184 K185 S186 f187 => ⟨((S170.tr (S175.tr (S180.tr S186))).cl rfl), ?_⟩
   refine WO.k2 rfl rfl rfl rfl (rn_build (parts := [(0, .tmp 67), (1, .tmp 72)]) (cells := [.slice a67 x67.length u67, .slice a72 x72.length u72]) rfl rfl (by kernel_rfl)) ?_
   have f188 := f8.stp (S14.tr (S20.tr (S24.tr (S31.tr (S116.tr (S170.tr (S175.tr (S180.tr S186)))))))) rfl rfl
   refine WO.stB0 (κ := K185) 5 (vc := [.slice a67 x67.length u67, .slice a72 x72.length u72]) rfl rfl rfl rfl rfl rfl rfl Tryd.sizeOf42 rfl rfl f188 rfl fun w189 S190 f191 => ⟨((S170.tr (S175.tr (S180.tr (S186.tr S190)))).cl rfl), ?_⟩
   refine WO.pn 1 rfl ?_
   refine WO.wa ?_
   refine WA.last [] (by kernel_rfl) (by kernel_rfl) rfl ?_
   refine WO.fin ?_
   have f192 := f181.stp (S186.tr S190) rfl rfl
   have f193 := f187.stp S190 rfl rfl
   exact DN.meet _ ⟨(fun b => ren [(2, 11), (3, 12)] (K185 b)), a67, u67, a72, u72, rfl, (Stp.ren ((S116.tr (S170.tr (S175.tr (S180.tr (S186.tr S190))))).wk rfl) [(2, 11), (3, 12)] rfl), (f192.map (ren [(2, 11), (3, 12)]) rfl rfl), (f193.map (ren [(2, 11), (3, 12)]) rfl rfl), (f191.map (ren [(2, 11), (3, 12)]) rfl rfl)⟩ fun a ha => (ha.more (ha.more ha.nil rfl) rfl)
 rintro _ w108 ⟨K109, lar111_0, lur111_0, lar111_1, lur111_1, rfl, S110, f112, f113, f114⟩
 refine DN.seq ?_
 refine WC.ret ?_
 have f194 := hE.stp (S3.tr (S7.tr (S14.tr (S20.tr (S24.tr (S31.tr S110)))))) rfl rfl
 refine DN.res (l := [.cell 4 42, .tmp 5]) Tryd.results54 (res_cellA rfl f114 Tryd.isAgg42 Tryd.sizeOf42 rfl (res_tmp rfl rfl)) rfl ?_
 obtain rfl := Option.some.inj h
 exact ⟨(fun b => ren [(11, 4), (12, 5)] (K109 b)), lar111_0, lur111_0, lar111_1, lur111_1, rfl, (f194.map (ren [(11, 4), (12, 5)]) rfl rfl), (f112.map (ren [(11, 4), (12, 5)]) rfl rfl), (f113.map (ren [(11, 4), (12, 5)]) rfl rfl)⟩

end Go.Proofs.YtnpmbkaoeihdmaaDoor
