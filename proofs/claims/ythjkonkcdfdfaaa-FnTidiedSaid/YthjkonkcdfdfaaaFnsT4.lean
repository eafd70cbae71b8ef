/- The walks, part 4. By program. -/
import Derived.Test.YthjkonkcdfdfaaaFnsT1
import Derived.Test.YthjkonkcdfdfaaaFnsT2
set_option linter.unusedVariables false
set_option linter.unusedSimpArgs false
namespace Go.Proofs.Ythjkonkcdfdfaaa
open Go Go.Wk Go.Proofs
set_option maxRecDepth 100000
set_option maxHeartbeats 1000000

/- loop.example/g00869/spec.l31Draw -/
theorem s_l31Draw_ok {w : World} {κ : Col} {a0_0 : Option Addr} {u0_0 : Nat} {p0 : l1Cur} {b0 : Nat} (g0_0 : Rd (Rp.int .u8) κ w 0 a0_0 u0_0 p0.b) (gb0 : Bc κ w 2 b0 89 [.slice a0_0 p0.b.length u0_0, .int .i64 p0.i, .int .i64 p0.h]) {r : Circuit × Int × Int} (h : s_l31Draw p0 = some r) : Ret Try.prog 63 [.pointer (some ⟨b0, 0, none⟩)] w (fun v w' => ∃ (κ' : Col) (ra0 : Option Addr) (ru0 : Nat) (ra1 : Option Addr) (ru1 : Nat) (ra2 : Option Addr) (ru2 : Nat), v = .agg #[.int .i64 r.1.Inputs, .int .i64 r.1.Latches, .slice ra0 r.1.Next.length ru0, .slice ra1 r.1.Gates.length ru1, .slice ra2 r.1.Outs.length ru2] ∧ Ent κ w κ' w' ∧ Oc (Ep.int .i64) 2 κ' w' 3 ra0 ru0 r.1.Next ∧ Oc Gate.ep33 33 κ' w' 4 ra1 ru1 r.1.Gates ∧ Oc (Ep.int .i64) 2 κ' w' 5 ra2 ru2 r.1.Outs ∧ Bc κ' w' 2 b0 89 [.slice a0_0 p0.b.length u0_0, .int .i64 r.2.1, .int .i64 r.2.2]) := by
 unfold s_l31Draw at h
 refine Ret.enter Try.func63 rfl Try.ntmps63 rfl ?_
 dsimp only [envOf]
 have hE := Ent.refl κ w
 refine WC.seq ?_
 refine WC.rs [(0, 1)] rfl ?_
 refine WO.alloc (κ := κ) 3 rfl rfl rfl rfl rfl Try.zeroValue27 rfl fun b2 w1 K2 S3 f4 => ⟨trivial, ?_⟩
 refine WO.fin ?_
 refine DN.seq ?_
 refine WC.seq ?_
 refine WC.rs [(0, 2), (1, 1), (2, 2), (3, 2), (4, 1), (5, 2), (6, 1), (7, 1)] rfl ?_
 refine WO.pn 1 rfl ?_
 obtain ⟨x10, hx10, h⟩ := Option.bind_eq_some_iff.mp h
 have f5 := g0_0.stp S3 rfl rfl
 have f6 := gb0.stp S3 rfl rfl
 refine WO.call rfl rfl rfl rfl rfl rfl Try.call65 (s_l1Below_ok (κ := fun b => mp [(2, 2)] 0 (K2 b)) (p0 := p0) (Sl.map f5 (mp [(2, 2)] 0) rfl rfl) (f6.map (mp [(2, 2)] 0) rfl rfl) hx10) ?_
 rintro _ w7 ⟨k8, rfl, e9, f10⟩
 obtain ⟨K11, S12, m13⟩ := Ent.mixed (l := [(2, 2)]) (κ := K2) e9 4 rfl
 refine ⟨trivial, ?_⟩
 have f15 := f10.mx m13 rfl (rfl : 4 + 2 = 6)
 refine WO.pn 2 rfl ?_
 obtain ⟨x13, hx13, h⟩ := Option.bind_eq_some_iff.mp h
 have f16 := f5.stp S12 rfl rfl
 refine WO.call rfl rfl rfl rfl rfl rfl Try.call65 (s_l1Below_ok (κ := fun b => mp [(6, 2)] 0 (K11 b)) (p0 := (⟨p0.b, x10.2.1, x10.2.2⟩ : l1Cur)) (Sl.map f16 (mp [(6, 2)] 0) rfl rfl) (f15.map (mp [(6, 2)] 0) rfl rfl) hx13) ?_
 rintro _ w17 ⟨k18, rfl, e19, f20⟩
 obtain ⟨K21, S22, m23⟩ := Ent.mixed (l := [(6, 2)]) (κ := K11) e19 7 rfl
 refine ⟨trivial, ?_⟩
 have f25 := f20.mx m23 rfl (rfl : 7 + 2 = 9)
 refine WO.k2 rfl rfl rfl rfl (rn_build (parts := [(0, .tmp 11), (1, .tmp 13)]) (cells := [.int .i64 (IntKind.i64.wrap (1 + x10.1)), .int .i64 x13.1, .slice none 0 0, .slice none 0 0, .slice none 0 0]) rfl rfl (by kernel_rfl)) ?_
 refine WO.alloc (κ := K21) 10 rfl rfl rfl rfl rfl Try.zeroValue27 rfl fun b3 w26 K27 S28 f29 => ⟨trivial, ?_⟩
 refine WO.stB0 (κ := K27) 10 (vc := [.int .i64 (IntKind.i64.wrap (1 + x10.1)), .int .i64 x13.1, .slice none 0 0, .slice none 0 0, .slice none 0 0]) rfl rfl rfl rfl rfl rfl rfl Try.sizeOf27 rfl rfl f29 rfl fun w30 S31 f32 => ⟨trivial, ?_⟩
 refine WO.fin ?_
 refine DN.seq ?_
 refine WC.seq ?_
 refine WC.seq ?_
 refine WC.rs [(0, 2), (1, 1), (2, 2)] rfl ?_
 refine WO.pn 1 rfl ?_
 obtain ⟨x16, hx16, h⟩ := Option.bind_eq_some_iff.mp h
 have f33 := f16.stp (S22.tr (S28.tr S31)) rfl rfl
 have f34 := f25.stp (S28.tr S31) rfl rfl
 refine WO.call rfl rfl rfl rfl rfl rfl Try.call65 (s_l1Below_ok (κ := fun b => mp [(9, 2)] 0 (K27 b)) (p0 := (⟨p0.b, x13.2.1, x13.2.2⟩ : l1Cur)) (Sl.map f33 (mp [(9, 2)] 0) rfl rfl) (f34.map (mp [(9, 2)] 0) rfl rfl) hx16) ?_
 rintro _ w35 ⟨k36, rfl, e37, f38⟩
 obtain ⟨K39, S40, m41⟩ := Ent.mixed (l := [(9, 2)]) (κ := K27) e37 11 rfl
 refine ⟨trivial, ?_⟩
 have f43 := f38.mx m41 rfl (rfl : 11 + 2 = 13)
 refine WO.pn 1 rfl ?_
 refine WO.fin ?_
 refine DN.seq ?_
 obtain ⟨q2, hq46, hK45⟩ := Option.bind_eq_some_iff.mp h
 clear h
 refine WC.meet (fun L w' => ∃ (κ' : Col) (s3 : Int × Int × Int × (List Gate)) (las3_0 : Option Addr) (lus3_0 : Nat), L = [(0, .pointer (some ⟨b0, 0, none⟩)), (2, .pointer (some ⟨b2, 0, none⟩)), (3, .pointer (some ⟨b3, 0, none⟩))] ∧ Stp [10, 13, 14, 19, 22] K39 w35 κ' w' ∧ Oc Gate.ep33 33 κ' w' 14 las3_0 lus3_0 s3.2.2.2 ∧ Bc κ' w' 13 b0 89 [.slice a0_0 p0.b.length u0_0, .int .i64 s3.2.1, .int .i64 s3.2.2.1] ∧ Bc κ' w' 10 b3 27 [.int .i64 (IntKind.i64.wrap (1 + x10.1)), .int .i64 x13.1, .slice none 0 0, .slice las3_0 s3.2.2.2.length lus3_0, .slice none 0 0] ∧ q2 = Sum.inr s3) ?_ ?_
 ·
  refine WC.block ?_
  have f59 := f32.stp S40 rfl rfl
  refine WC.loop (fun k L w' => ∃ (κ' : Col) (s1 : Int × Int × Int × (List Gate)) (las1_0 : Option Addr) (lus1_0 : Nat), L = [(0, .pointer (some ⟨b0, 0, none⟩)), (2, .pointer (some ⟨b2, 0, none⟩)), (3, .pointer (some ⟨b3, 0, none⟩)), (4, .int .i64 s1.1)] ∧ Stp [10, 13, 14, 19, 22] K39 w35 κ' w' ∧ Oc Gate.ep33 33 κ' w' 14 las1_0 lus1_0 s1.2.2.2 ∧ Bc κ' w' 13 b0 89 [.slice a0_0 p0.b.length u0_0, .int .i64 s1.2.1, .int .i64 s1.2.2.1] ∧ Bc κ' w' 10 b3 27 [.int .i64 (IntKind.i64.wrap (1 + x10.1)), .int .i64 x13.1, .slice none 0 0, .slice las1_0 s1.2.2.2.length lus1_0, .slice none 0 0] ∧ whileM (s_l31Draw_b0 p0 x10 x13) k s1 = some q2) ⟨_, _, ⟨K39, ((x16.1 : Int), (x16.2.1 : Int), (x16.2.2 : Int), (([] : List Gate) : (List Gate))), none, 0, rfl, (Stp.refl _ _).wk rfl, Ow.nil, f43, f59, hq46⟩, fun a ha => (ha.more (ha.more (ha.more (ha.more ha.nil rfl) rfl) rfl) rfl)⟩ ?_
  rintro k _ w53 ⟨K54, s1, las1_0, lus1_0, rfl, S55, f56, f57, f58, h⟩
  rcases k with _ | k
  ·
   cases h
  ·
   obtain ⟨o44, h, hk60⟩ := Option.bind_eq_some_iff.mp h; unfold s_l31Draw_b0 at h
   refine WC.seq ?_
   refine WC.seq ?_
   refine WC.rs [(0, 2), (1, 2)] rfl ?_
   refine WO.pn 2 rfl ?_
   refine WO.fin ?_
   refine DN.seq ?_
   revert h
   cases ht61 : decide (0 < s1.1) with
   | true =>
    intro h; replace h := cT h
    refine WC.ct rfl ?_
    refine WC.skip ?_
    refine DN.seq ?_
    refine WC.seq ?_
    refine WC.block ?_
    refine WC.seq ?_
    refine WC.rs [(0, 1), (1, 1), (2, 2), (3, 2)] rfl ?_
    refine WO.k1 trivial rfl rfl rfl rfl (rn_la (cs := [.int .i64 (IntKind.i64.wrap (1 + x10.1)), .int .i64 x13.1, .slice none 0 0, .slice las1_0 s1.2.2.2.length lus1_0, .slice none 0 0]) Try.isAgg27 Try.sizeOf27 rfl rfl rfl (haE f58.cells)) ?_
    obtain ⟨x22, hx22, h⟩ := Option.bind_eq_some_iff.mp h
    refine WO.call rfl rfl rfl rfl rfl rfl Try.call35 (s_l31Signals_ok (κ := fun b => mp [] 0 (K54 b)) (p0 := (⟨(IntKind.i64.wrap (1 + x10.1)), x13.1, ([] : List Int), s1.2.2.2, ([] : List Int)⟩ : Circuit)) Sl.nil (Sl.map f56.rdc (mp [] 0) rfl rfl) Sl.nil hx22) ?_
    rintro _ w62 ⟨k63, rfl, e64⟩
    obtain ⟨K65, S66, m67⟩ := Ent.mixed (l := []) (κ := K54) e64 15 rfl
    refine ⟨trivial, ?_⟩
    refine WO.pn 2 rfl ?_
    refine WO.fin ?_
    refine DN.seq ?_
    refine WC.rx (κ := K65) [10] (some 12) [(0, 2), (2, 2), (3, 2), (5, 2), (6, 2), (1, 0), (4, 1), (7, 1), (8, 2), (9, 1), (10, 1), (11, 2)] [(12, 1)] (by kernel_rfl) (by kernel_rfl) fun w70 S69 => ?_
    refine WO.k2 rfl rfl rfl rfl (rn_fieldAddr Try.runUnderlying27 rfl Try.sizeOf25 rfl rfl) ?_
    refine WO.pn 4 rfl ?_
    have f71 := f58.stp (S66.tr S69) rfl rfl
    refine WO.k0 rfl rfl rfl rfl (rn_ld Try.isAgg25 rfl rfl (hvC (f71.ld 3 rfl rfl) rfl)) ?_
    obtain ⟨x28, hx28, h⟩ := Option.bind_eq_some_iff.mp h
    have f72 := f33.stp (S40.tr (S55.tr (S66.tr S69))) rfl rfl
    have f73 := f57.stp (S66.tr S69) rfl rfl
    refine WO.call rfl rfl rfl rfl rfl rfl Try.call65 (s_l1Below_ok (κ := fun b => mp [(13, 2)] 0 (K65 b)) (p0 := (⟨p0.b, s1.2.1, s1.2.2.1⟩ : l1Cur)) (Sl.map f72 (mp [(13, 2)] 0) rfl rfl) (f73.map (mp [(13, 2)] 0) rfl rfl) hx28) ?_
    rintro _ w74 ⟨k75, rfl, e76, f77⟩
    obtain ⟨K78, S79, m80⟩ := Ent.mixed (l := [(13, 2)]) (κ := K65) e76 17 rfl
    refine ⟨(S79.cl rfl), ?_⟩
    have f82 := f77.mx m80 rfl (rfl : 17 + 2 = 19)
    obtain ⟨x31, hx31, h⟩ := Option.bind_eq_some_iff.mp h
    have f83 := f72.stp S79 rfl rfl
    refine WO.call rfl rfl rfl rfl rfl rfl Try.call65 (s_l1Below_ok (κ := fun b => mp [(19, 2)] 0 (K78 b)) (p0 := (⟨p0.b, x28.2.1, x28.2.2⟩ : l1Cur)) (Sl.map f83 (mp [(19, 2)] 0) rfl rfl) (f82.map (mp [(19, 2)] 0) rfl rfl) hx31) ?_
    rintro _ w84 ⟨k85, rfl, e86, f87⟩
    obtain ⟨K88, S89, m90⟩ := Ent.mixed (l := [(19, 2)]) (κ := K78) e86 20 rfl
    refine ⟨((S79.tr S89).cl rfl), ?_⟩
    have f92 := f87.mx m90 rfl (rfl : 20 + 2 = 22)
    refine WO.k2 rfl rfl rfl rfl (rn_build (parts := [(0, .tmp 28), (1, .tmp 31)]) (cells := [.int .i64 x28.1, .int .i64 x31.1]) rfl rfl (by kernel_rfl)) ?_
    refine WO.bl (κ := K88) (E := Gate.ep33) 23 [] (parts := [(0, .tmp 32)]) (cells := [.int .i64 x28.1, .int .i64 x31.1]) (xs := ([(⟨x28.1, x31.1⟩ : Gate)] : List Gate)) rfl rfl rfl rfl rfl rfl Try.underlying25 Tryinfo33 rfl rfl rfl rfl rfl rfl rfl rfl rfl rfl ⟨[.int .i64 x28.1, .int .i64 x31.1], [], Zl K88 w84 [], Zl K88 w84 [], rfl, Zl.sp (l1 := []) (l2 := []) rfl, Zl.sr (l1 := []) (l2 := []), ⟨[.int .i64 x28.1], [.int .i64 x31.1], Zl K88 w84 [], Zl K88 w84 [], rfl, Zl.sp (l1 := []) (l2 := []) rfl, Zl.sr (l1 := []) (l2 := []), rfl, rfl⟩, rfl⟩ fun a33 u33 w93 K94 S95 f96 => ⟨((S79.tr (S89.tr S95)).cl rfl), ?_⟩
    obtain ⟨x34, hx34, h⟩ := Option.bind_eq_some_iff.mp h
    have f97 := f56.stp (S66.tr (S69.tr (S79.tr (S89.tr S95)))) rfl rfl
    refine WO.app (κ := K94) (E := Gate.ep33) 14 [] rfl rfl rfl rfl rfl rfl rfl rfl rfl Try.underlying25 Tryinfo33 rfl rfl rfl rfl f97 (Sl.srcP Gate.pu33 f96.rdc) sy_false hx34 rfl fun a34 u34 w98 K99 S100 f101 => ⟨((S79.tr (S89.tr (S95.tr S100))).cl rfl), ?_⟩
    refine WO.k2 rfl rfl rfl rfl (rn_fieldAddr Try.runUnderlying27 rfl Try.sizeOf25 rfl rfl) ?_
    refine WO.nx ?_
    have f102 := f71.stp (S79.tr (S89.tr (S95.tr S100))) rfl rfl
    refine WO.stB (κ := K99) 10 (off := 3) (vc := [.slice a34 x34.length u34]) (cs' := [.int .i64 (IntKind.i64.wrap (1 + x10.1)), .int .i64 x13.1, .slice none 0 0, .slice a34 x34.length u34, .slice none 0 0]) rfl rfl rfl rfl rfl rfl rfl Try.sizeOf25 rfl rfl f102 rfl rfl fun w103 S104 f105 => ⟨trivial, ?_⟩
    refine WO.fin ?_
    refine DN.block ?_
    refine DN.seq ?_
    refine WC.rs [(0, 2), (1, 2), (2, 2)] rfl ?_
    refine WO.pn 3 rfl ?_
    refine WO.fin ?_
    have f106 := f101.stp S104 rfl rfl
    have f107 := f92.stp (S95.tr (S100.tr S104)) rfl rfl
    obtain rfl := Option.some.inj h
    refine DN.round fun a ha => ?_
    exact ⟨k, _, Nat.lt_succ_self _, ⟨(fun b => ren [(22, 13)] (K99 b)), (((IntKind.i64.wrap (s1.1 - 1)) : Int), (x31.2.1 : Int), (x31.2.2 : Int), (x34 : (List Gate))), a34, u34, rfl, (Stp.ren ((S55.tr (S66.tr (S69.tr (S79.tr (S89.tr (S95.tr (S100.tr S104))))))).wk rfl) [(22, 13)] rfl), (f106.map (ren [(22, 13)]) rfl rfl), (f107.map (ren [(22, 13)]) rfl rfl), (f105.map (ren [(22, 13)]) rfl rfl), hk60⟩, (ha.more (ha.more (ha.more (ha.more ha.nil rfl) rfl) rfl) rfl)⟩
   | false =>
    intro h; replace h := cF h
    refine WC.cf rfl ?_
    refine WC.exit ?_
    refine DN.exitThen ?_
    refine DN.exitThen ?_
    obtain rfl := Option.some.inj h
    have h := hk60
    refine DN.hit ?_
    obtain rfl := Option.some.inj h
    exact DN.meet _ ⟨K54, ((s1.1 : Int), (s1.2.1 : Int), (s1.2.2.1 : Int), (s1.2.2.2 : (List Gate))), las1_0, lus1_0, rfl, S55.wk rfl, f56, f57, f58, rfl⟩ fun a ha => (ha.more (ha.more (ha.more ha.nil rfl) rfl) rfl)
 rintro _ w47 ⟨K48, s3, las3_0, lus3_0, rfl, S49, f50, f51, f52, rfl⟩
 have h := hK45
 dsimp only [aft] at h
 refine DN.seq ?_
 refine WC.seq ?_
 refine WC.rs [(0, 1), (1, 1), (2, 2), (3, 2)] rfl ?_
 refine WO.k1 trivial rfl rfl rfl rfl (rn_la (cs := [.int .i64 (IntKind.i64.wrap (1 + x10.1)), .int .i64 x13.1, .slice none 0 0, .slice las3_0 s3.2.2.2.length lus3_0, .slice none 0 0]) Try.isAgg27 Try.sizeOf27 rfl rfl rfl (haE f52.cells)) ?_
 obtain ⟨x37, hx37, h⟩ := Option.bind_eq_some_iff.mp h
 refine WO.call rfl rfl rfl rfl rfl rfl Try.call35 (s_l31Signals_ok (κ := fun b => mp [] 0 (K48 b)) (p0 := (⟨(IntKind.i64.wrap (1 + x10.1)), x13.1, ([] : List Int), s3.2.2.2, ([] : List Int)⟩ : Circuit)) Sl.nil (Sl.map f50.rdc (mp [] 0) rfl rfl) Sl.nil hx37) ?_
 rintro _ w108 ⟨k109, rfl, e110⟩
 obtain ⟨K111, S112, m113⟩ := Ent.mixed (l := []) (κ := K48) e110 15 rfl
 refine ⟨trivial, ?_⟩
 refine WO.pn 2 rfl ?_
 refine WO.fin ?_
 refine DN.seq ?_
 refine WC.seq ?_
 refine WC.seq ?_
 refine WC.rs [(0, 2)] rfl ?_
 refine WO.pn 1 rfl ?_
 refine WO.fin ?_
 refine DN.seq ?_
 obtain ⟨_, hr115, h⟩ := Option.bind_eq_some_iff.mp h
 have hN115 := rng_ok hr115
 obtain ⟨q5, hq117, hK116⟩ := Option.bind_eq_some_iff.mp h
 clear h
 refine WC.meet (fun L w' => ∃ (κ' : Col) (s6 : Int × Int × (List Int)) (las6_0 : Option Addr) (lus6_0 : Nat), L = [(0, .pointer (some ⟨b0, 0, none⟩)), (2, .pointer (some ⟨b2, 0, none⟩)), (3, .pointer (some ⟨b3, 0, none⟩)), (6, .int .i64 (IntKind.i64.wrap (2 * x37)))] ∧ Stp [10, 13, 17, 20] K111 w108 κ' w' ∧ Oc (Ep.int .i64) 2 κ' w' 17 las6_0 lus6_0 s6.2.2 ∧ Bc κ' w' 13 b0 89 [.slice a0_0 p0.b.length u0_0, .int .i64 s6.1, .int .i64 s6.2.1] ∧ Bc κ' w' 10 b3 27 [.int .i64 (IntKind.i64.wrap (1 + x10.1)), .int .i64 x13.1, .slice las6_0 s6.2.2.length lus6_0, .slice las3_0 s3.2.2.2.length lus3_0, .slice none 0 0] ∧ q5 = Sum.inr s6) ?_ ?_
 ·
  refine WC.block ?_
  have f130 := f51.stp S112 rfl rfl
  have f131 := f52.stp S112 rfl rfl
  refine WC.loop (fun k L w' => ∃ (κ' : Col) (v7 : Int) (s4 : Int × Int × (List Int)) (las4_0 : Option Addr) (lus4_0 : Nat), L = [(0, .pointer (some ⟨b0, 0, none⟩)), (2, .pointer (some ⟨b2, 0, none⟩)), (3, .pointer (some ⟨b3, 0, none⟩)), (6, .int .i64 (IntKind.i64.wrap (2 * x37))), (7, .int .i64 v7)] ∧ Stp [10, 13, 17, 20] K111 w108 κ' w' ∧ Oc (Ep.int .i64) 2 κ' w' 17 las4_0 lus4_0 s4.2.2 ∧ Bc κ' w' 13 b0 89 [.slice a0_0 p0.b.length u0_0, .int .i64 s4.1, .int .i64 s4.2.1] ∧ Bc κ' w' 10 b3 27 [.int .i64 (IntKind.i64.wrap (1 + x10.1)), .int .i64 x13.1, .slice las4_0 s4.2.2.length lus4_0, .slice las3_0 s3.2.2.2.length lus3_0, .slice none 0 0] ∧ 0 ≤ v7 ∧ Int.toNat (x13.1 - v7) = k ∧ cntM (s_l31Draw_b2 p0 x37) k v7 s4 = some q5) ⟨_, _, ⟨K111, 0, ((s3.2.1 : Int), (s3.2.2.1 : Int), (([] : List Int) : (List Int))), none, 0, rfl, (Stp.refl _ _).wk rfl, Ow.nil, f130, f131, (by decide), (by simp), hq117⟩, fun a ha => (ha.more (ha.more (ha.more (ha.more (ha.more ha.nil rfl) rfl) rfl) rfl) rfl)⟩ ?_
  rintro k _ w124 ⟨K125, v7, s4, las4_0, lus4_0, rfl, S126, f127, f128, f129, hj115, hJ115, h⟩
  rcases k with _ | k
  ·
   have hk132 := h; obtain ⟨o115, h⟩ := ex_eq (Sum.inr (Sum.inl s4) : (Circuit × Int × Int) ⊕ ((Int × Int × (List Int)) ⊕ (Int × Int × (List Int))))
   have hc115 : decide (v7 < x13.1) = false := decide_eq_false (by omega)
   refine WC.seq ?_
   refine WC.seq ?_
   refine WC.rs [(0, 2), (1, 2), (2, 1), (3, 2)] rfl ?_
   refine WO.pn 1 rfl ?_
   refine WO.k2 rfl rfl rfl rfl (rn_fieldAddr Try.runUnderlying27 rfl Try.sizeOf2 rfl rfl) ?_
   refine WO.k1 trivial rfl rfl rfl rfl (rn_ld Try.isAgg2 rfl rfl (hvE (f129.ld 1 rfl rfl))) ?_
   refine WO.pn 1 rfl ?_
   refine WO.fin ?_
   refine DN.seq ?_
   refine WC.cf' rfl hc115 ?_
   refine WC.exit ?_
   refine DN.exitThen ?_
   refine DN.exitThen ?_
   obtain rfl := Option.some.inj h
   have h := hk132
   refine DN.hit ?_
   obtain rfl := Option.some.inj h
   exact DN.meet _ ⟨K125, ((s4.1 : Int), (s4.2.1 : Int), (s4.2.2 : (List Int))), las4_0, lus4_0, rfl, S126.wk rfl, f127, f128, f129, rfl⟩ fun a ha => (ha.more (ha.more (ha.more (ha.more ha.nil rfl) rfl) rfl) rfl)
  ·
   obtain ⟨o115, h, hk132⟩ := Option.bind_eq_some_iff.mp h; unfold s_l31Draw_b2 at h
   have hc115 : decide (v7 < x13.1) = true := decide_eq_true (by omega)
   refine WC.seq ?_
   refine WC.seq ?_
   refine WC.rs [(0, 2), (1, 2), (2, 1), (3, 2)] rfl ?_
   refine WO.pn 1 rfl ?_
   refine WO.k2 rfl rfl rfl rfl (rn_fieldAddr Try.runUnderlying27 rfl Try.sizeOf2 rfl rfl) ?_
   refine WO.k1 trivial rfl rfl rfl rfl (rn_ld Try.isAgg2 rfl rfl (hvE (f129.ld 1 rfl rfl))) ?_
   refine WO.pn 1 rfl ?_
   refine WO.fin ?_
   refine DN.seq ?_
   refine WC.ct' rfl hc115 ?_
   refine WC.skip ?_
   refine DN.seq ?_
   refine WC.seq ?_
   refine WC.block ?_
   refine WC.rx (κ := K125) [10] (some 8) [(0, 2), (2, 2), (3, 2), (1, 0), (4, 1), (5, 1), (6, 1), (7, 2)] [(8, 1)] (by kernel_rfl) (by kernel_rfl) fun w134 S133 => ?_
   refine WO.k2 rfl rfl rfl rfl (rn_fieldAddr Try.runUnderlying27 rfl Try.sizeOf24 rfl rfl) ?_
   refine WO.pn 2 rfl ?_
   have f135 := f129.stp S133 rfl rfl
   refine WO.k0 rfl rfl rfl rfl (rn_ld Try.isAgg24 rfl rfl (hvC (f135.ld 2 rfl rfl) rfl)) ?_
   obtain ⟨x49, hx49, h⟩ := Option.bind_eq_some_iff.mp h
   have f136 := f33.stp (S40.tr (S49.tr (S112.tr (S126.tr S133)))) rfl rfl
   have f137 := f128.stp S133 rfl rfl
   refine WO.call rfl rfl rfl rfl rfl rfl Try.call65 (s_l1Below_ok (κ := fun b => mp [(13, 2)] 0 (K125 b)) (p0 := (⟨p0.b, s4.1, s4.2.1⟩ : l1Cur)) (Sl.map f136 (mp [(13, 2)] 0) rfl rfl) (f137.map (mp [(13, 2)] 0) rfl rfl) hx49) ?_
   rintro _ w138 ⟨k139, rfl, e140, f141⟩
   obtain ⟨K142, S143, m144⟩ := Ent.mixed (l := [(13, 2)]) (κ := K125) e140 18 rfl
   refine ⟨(S143.cl rfl), ?_⟩
   have f146 := f141.mx m144 rfl (rfl : 18 + 2 = 20)
   refine WO.bl (κ := K142) (E := (Ep.int .i64)) 21 [] (parts := [(0, .tmp 49)]) (cells := [.int .i64 x49.1]) (xs := ([x49.1] : List Int)) rfl rfl rfl rfl rfl rfl Try.underlying24 Tryinfo2 rfl rfl rfl rfl rfl rfl rfl rfl rfl rfl ⟨[.int .i64 x49.1], [], Zl K142 w138 [], Zl K142 w138 [], rfl, Zl.sp (l1 := []) (l2 := []) rfl, Zl.sr (l1 := []) (l2 := []), rfl, rfl⟩ fun a50 u50 w147 K148 S149 f150 => ⟨((S143.tr S149).cl rfl), ?_⟩
   obtain ⟨x51, hx51, h⟩ := Option.bind_eq_some_iff.mp h
   have f151 := f127.stp (S133.tr (S143.tr S149)) rfl rfl
   refine WO.app (κ := K148) (E := (Ep.int .i64)) 17 [] rfl rfl rfl rfl rfl rfl rfl rfl rfl Try.underlying24 Tryinfo2 rfl rfl rfl rfl f151 (Sl.srcP (pu_int _) f150.rdc) sy_false hx51 rfl fun a51 u51 w152 K153 S154 f155 => ⟨((S143.tr (S149.tr S154)).cl rfl), ?_⟩
   refine WO.k2 rfl rfl rfl rfl (rn_fieldAddr Try.runUnderlying27 rfl Try.sizeOf24 rfl rfl) ?_
   refine WO.nx ?_
   have f156 := f135.stp (S143.tr (S149.tr S154)) rfl rfl
   refine WO.stB (κ := K153) 10 (off := 2) (vc := [.slice a51 x51.length u51]) (cs' := [.int .i64 (IntKind.i64.wrap (1 + x10.1)), .int .i64 x13.1, .slice a51 x51.length u51, .slice las3_0 s3.2.2.2.length lus3_0, .slice none 0 0]) rfl rfl rfl rfl rfl rfl rfl Try.sizeOf24 rfl rfl f156 rfl rfl fun w157 S158 f159 => ⟨trivial, ?_⟩
   refine WO.fin ?_
   refine DN.block ?_
   refine DN.seq ?_
   refine WC.rs [(0, 2), (1, 2), (2, 2)] rfl ?_
   refine WO.pn 3 rfl ?_
   refine WO.fin ?_
   have hw115 : IntKind.wrap .i64 (v7 + 1) = v7 + 1 := wr1 hj115 (of_decide_eq_true hc115) hN115
   rw [hw115]
   have hc115 := of_decide_eq_true hc115
   have f160 := f155.stp S158 rfl rfl
   have f161 := f146.stp (S149.tr (S154.tr S158)) rfl rfl
   obtain rfl := Option.some.inj h
   refine DN.round fun a ha => ?_
   exact ⟨k, _, Nat.lt_succ_self _, ⟨(fun b => ren [(20, 13)] (K153 b)), v7 + 1, ((x49.2.1 : Int), (x49.2.2 : Int), (x51 : (List Int))), a51, u51, rfl, (Stp.ren ((S126.tr (S133.tr (S143.tr (S149.tr (S154.tr S158))))).wk rfl) [(20, 13)] rfl), (f160.map (ren [(20, 13)]) rfl rfl), (f161.map (ren [(20, 13)]) rfl rfl), (f159.map (ren [(20, 13)]) rfl rfl), by omega, by omega, hk132⟩, (ha.more (ha.more (ha.more (ha.more (ha.more ha.nil rfl) rfl) rfl) rfl) rfl)⟩
 rintro _ w118 ⟨K119, s6, las6_0, lus6_0, rfl, S120, f121, f122, f123, rfl⟩
 have h := hK116
 dsimp only [aft] at h
 refine DN.seq ?_
 refine WC.seq ?_
 refine WC.seq ?_
 refine WC.rs [(0, 2), (1, 1), (2, 2), (3, 2)] rfl ?_
 refine WO.pn 1 rfl ?_
 obtain ⟨x54, hx54, h⟩ := Option.bind_eq_some_iff.mp h
 have f162 := f33.stp (S40.tr (S49.tr (S112.tr S120))) rfl rfl
 refine WO.call rfl rfl rfl rfl rfl rfl Try.call65 (s_l1Below_ok (κ := fun b => mp [(13, 2)] 0 (K119 b)) (p0 := (⟨p0.b, s6.1, s6.2.1⟩ : l1Cur)) (Sl.map f162 (mp [(13, 2)] 0) rfl rfl) (f122.map (mp [(13, 2)] 0) rfl rfl) hx54) ?_
 rintro _ w163 ⟨k164, rfl, e165, f166⟩
 obtain ⟨K167, S168, m169⟩ := Ent.mixed (l := [(13, 2)]) (κ := K119) e165 18 rfl
 refine ⟨trivial, ?_⟩
 have f171 := f166.mx m169 rfl (rfl : 18 + 2 = 20)
 refine WO.pn 2 rfl ?_
 refine WO.fin ?_
 refine DN.seq ?_
 obtain ⟨q8, hq174, hK173⟩ := Option.bind_eq_some_iff.mp h
 clear h
 refine WC.meet (fun L w' => ∃ (κ' : Col) (s9 : Int × Int × Int × (List Int)) (las9_0 : Option Addr) (lus9_0 : Nat), L = [(0, .pointer (some ⟨b0, 0, none⟩)), (2, .pointer (some ⟨b2, 0, none⟩)), (3, .pointer (some ⟨b3, 0, none⟩))] ∧ Stp [10, 20, 21, 24] K167 w163 κ' w' ∧ Oc (Ep.int .i64) 2 κ' w' 21 las9_0 lus9_0 s9.2.2.2 ∧ Bc κ' w' 20 b0 89 [.slice a0_0 p0.b.length u0_0, .int .i64 s9.2.1, .int .i64 s9.2.2.1] ∧ Bc κ' w' 10 b3 27 [.int .i64 (IntKind.i64.wrap (1 + x10.1)), .int .i64 x13.1, .slice las6_0 s6.2.2.length lus6_0, .slice las3_0 s3.2.2.2.length lus3_0, .slice las9_0 s9.2.2.2.length lus9_0] ∧ q8 = Sum.inr s9) ?_ ?_
 ·
  refine WC.block ?_
  have f187 := f123.stp S168 rfl rfl
  refine WC.loop (fun k L w' => ∃ (κ' : Col) (s7 : Int × Int × Int × (List Int)) (las7_0 : Option Addr) (lus7_0 : Nat), L = [(0, .pointer (some ⟨b0, 0, none⟩)), (2, .pointer (some ⟨b2, 0, none⟩)), (3, .pointer (some ⟨b3, 0, none⟩)), (6, .int .i64 (IntKind.i64.wrap (2 * x37))), (8, .int .i64 s7.1)] ∧ Stp [10, 20, 21, 24] K167 w163 κ' w' ∧ Oc (Ep.int .i64) 2 κ' w' 21 las7_0 lus7_0 s7.2.2.2 ∧ Bc κ' w' 20 b0 89 [.slice a0_0 p0.b.length u0_0, .int .i64 s7.2.1, .int .i64 s7.2.2.1] ∧ Bc κ' w' 10 b3 27 [.int .i64 (IntKind.i64.wrap (1 + x10.1)), .int .i64 x13.1, .slice las6_0 s6.2.2.length lus6_0, .slice las3_0 s3.2.2.2.length lus3_0, .slice las7_0 s7.2.2.2.length lus7_0] ∧ whileM (s_l31Draw_b4 p0 x37) k s7 = some q8) ⟨_, _, ⟨K167, (((IntKind.i64.wrap (1 + x54.1)) : Int), (x54.2.1 : Int), (x54.2.2 : Int), (([] : List Int) : (List Int))), none, 0, rfl, (Stp.refl _ _).wk rfl, Ow.nil, f171, f187, hq174⟩, fun a ha => (ha.more (ha.more (ha.more (ha.more (ha.more ha.nil rfl) rfl) rfl) rfl) rfl)⟩ ?_
  rintro k _ w181 ⟨K182, s7, las7_0, lus7_0, rfl, S183, f184, f185, f186, h⟩
  rcases k with _ | k
  ·
   cases h
  ·
   obtain ⟨o172, h, hk188⟩ := Option.bind_eq_some_iff.mp h; unfold s_l31Draw_b4 at h
   refine WC.seq ?_
   refine WC.seq ?_
   refine WC.rs [(0, 2), (1, 2)] rfl ?_
   refine WO.pn 2 rfl ?_
   refine WO.fin ?_
   refine DN.seq ?_
   revert h
   cases ht189 : decide (0 < s7.1) with
   | true =>
    intro h; replace h := cT h
    refine WC.ct rfl ?_
    refine WC.skip ?_
    refine DN.seq ?_
    refine WC.seq ?_
    refine WC.block ?_
    refine WC.rx (κ := K182) [10] (some 8) [(0, 2), (2, 2), (3, 2), (1, 0), (4, 1), (5, 1), (6, 1), (7, 2)] [(8, 1)] (by kernel_rfl) (by kernel_rfl) fun w191 S190 => ?_
    refine WO.k2 rfl rfl rfl rfl (rn_fieldAddr Try.runUnderlying27 rfl Try.sizeOf24 rfl rfl) ?_
    refine WO.pn 2 rfl ?_
    have f192 := f186.stp S190 rfl rfl
    refine WO.k0 rfl rfl rfl rfl (rn_ld Try.isAgg24 rfl rfl (hvC (f192.ld 4 rfl rfl) rfl)) ?_
    obtain ⟨x64, hx64, h⟩ := Option.bind_eq_some_iff.mp h
    have f193 := f162.stp (S168.tr (S183.tr S190)) rfl rfl
    have f194 := f185.stp S190 rfl rfl
    refine WO.call rfl rfl rfl rfl rfl rfl Try.call65 (s_l1Below_ok (κ := fun b => mp [(20, 2)] 0 (K182 b)) (p0 := (⟨p0.b, s7.2.1, s7.2.2.1⟩ : l1Cur)) (Sl.map f193 (mp [(20, 2)] 0) rfl rfl) (f194.map (mp [(20, 2)] 0) rfl rfl) hx64) ?_
    rintro _ w195 ⟨k196, rfl, e197, f198⟩
    obtain ⟨K199, S200, m201⟩ := Ent.mixed (l := [(20, 2)]) (κ := K182) e197 22 rfl
    refine ⟨(S200.cl rfl), ?_⟩
    have f203 := f198.mx m201 rfl (rfl : 22 + 2 = 24)
    refine WO.bl (κ := K199) (E := (Ep.int .i64)) 25 [] (parts := [(0, .tmp 64)]) (cells := [.int .i64 x64.1]) (xs := ([x64.1] : List Int)) rfl rfl rfl rfl rfl rfl Try.underlying24 Tryinfo2 rfl rfl rfl rfl rfl rfl rfl rfl rfl rfl ⟨[.int .i64 x64.1], [], Zl K199 w195 [], Zl K199 w195 [], rfl, Zl.sp (l1 := []) (l2 := []) rfl, Zl.sr (l1 := []) (l2 := []), rfl, rfl⟩ fun a65 u65 w204 K205 S206 f207 => ⟨((S200.tr S206).cl rfl), ?_⟩
    obtain ⟨x66, hx66, h⟩ := Option.bind_eq_some_iff.mp h
    have f208 := f184.stp (S190.tr (S200.tr S206)) rfl rfl
    refine WO.app (κ := K205) (E := (Ep.int .i64)) 21 [] rfl rfl rfl rfl rfl rfl rfl rfl rfl Try.underlying24 Tryinfo2 rfl rfl rfl rfl f208 (Sl.srcP (pu_int _) f207.rdc) sy_false hx66 rfl fun a66 u66 w209 K210 S211 f212 => ⟨((S200.tr (S206.tr S211)).cl rfl), ?_⟩
    refine WO.k2 rfl rfl rfl rfl (rn_fieldAddr Try.runUnderlying27 rfl Try.sizeOf24 rfl rfl) ?_
    refine WO.nx ?_
    have f213 := f192.stp (S200.tr (S206.tr S211)) rfl rfl
    refine WO.stB (κ := K210) 10 (off := 4) (vc := [.slice a66 x66.length u66]) (cs' := [.int .i64 (IntKind.i64.wrap (1 + x10.1)), .int .i64 x13.1, .slice las6_0 s6.2.2.length lus6_0, .slice las3_0 s3.2.2.2.length lus3_0, .slice a66 x66.length u66]) rfl rfl rfl rfl rfl rfl rfl Try.sizeOf24 rfl rfl f213 rfl rfl fun w214 S215 f216 => ⟨trivial, ?_⟩
    refine WO.fin ?_
    refine DN.block ?_
    refine DN.seq ?_
    refine WC.rs [(0, 2), (1, 2), (2, 2)] rfl ?_
    refine WO.pn 3 rfl ?_
    refine WO.fin ?_
    have f217 := f212.stp S215 rfl rfl
    have f218 := f203.stp (S206.tr (S211.tr S215)) rfl rfl
    obtain rfl := Option.some.inj h
    refine DN.round fun a ha => ?_
    exact ⟨k, _, Nat.lt_succ_self _, ⟨(fun b => ren [(24, 20)] (K210 b)), (((IntKind.i64.wrap (s7.1 - 1)) : Int), (x64.2.1 : Int), (x64.2.2 : Int), (x66 : (List Int))), a66, u66, rfl, (Stp.ren ((S183.tr (S190.tr (S200.tr (S206.tr (S211.tr S215))))).wk rfl) [(24, 20)] rfl), (f217.map (ren [(24, 20)]) rfl rfl), (f218.map (ren [(24, 20)]) rfl rfl), (f216.map (ren [(24, 20)]) rfl rfl), hk188⟩, (ha.more (ha.more (ha.more (ha.more (ha.more ha.nil rfl) rfl) rfl) rfl) rfl)⟩
   | false =>
    intro h; replace h := cF h
    refine WC.cf rfl ?_
    refine WC.exit ?_
    refine DN.exitThen ?_
    refine DN.exitThen ?_
    obtain rfl := Option.some.inj h
    have h := hk188
    refine DN.hit ?_
    obtain rfl := Option.some.inj h
    exact DN.meet _ ⟨K182, ((s7.1 : Int), (s7.2.1 : Int), (s7.2.2.1 : Int), (s7.2.2.2 : (List Int))), las7_0, lus7_0, rfl, S183.wk rfl, f184, f185, f186, rfl⟩ fun a ha => (ha.more (ha.more (ha.more ha.nil rfl) rfl) rfl)
 rintro _ w175 ⟨K176, s9, las9_0, lus9_0, rfl, S177, f178, f179, f180, rfl⟩
 have h := hK173
 dsimp only [aft] at h
 refine DN.seq ?_
 refine WC.seq ?_
 refine WC.rs [(0, 1), (1, 1)] rfl ?_
 refine WO.k1 trivial rfl rfl rfl rfl (rn_la (cs := [.int .i64 (IntKind.i64.wrap (1 + x10.1)), .int .i64 x13.1, .slice las6_0 s6.2.2.length lus6_0, .slice las3_0 s3.2.2.2.length lus3_0, .slice las9_0 s9.2.2.2.length lus9_0]) Try.isAgg27 Try.sizeOf27 rfl rfl rfl (haE f180.cells)) ?_
 have f219 := f4.stp (S12.tr (S22.tr (S28.tr (S31.tr (S40.tr (S49.tr (S112.tr (S120.tr (S168.tr S177))))))))) rfl rfl
 refine WO.stB0 (κ := K176) 3 (vc := [.int .i64 (IntKind.i64.wrap (1 + x10.1)), .int .i64 x13.1, .slice las6_0 s6.2.2.length lus6_0, .slice las3_0 s3.2.2.2.length lus3_0, .slice las9_0 s9.2.2.2.length lus9_0]) rfl rfl rfl rfl rfl rfl rfl Try.sizeOf27 rfl rfl f219 rfl fun w220 S221 f222 => ⟨trivial, ?_⟩
 refine WO.fin ?_
 refine DN.seq ?_
 refine WC.ret ?_
 have f223 := hE.stp (S3.tr (S12.tr (S22.tr (S28.tr (S31.tr (S40.tr (S49.tr (S112.tr (S120.tr (S168.tr (S177.tr S221))))))))))) rfl rfl
 have f224 := f121.stp (S168.tr (S177.tr S221)) rfl rfl
 have f225 := f50.stp (S112.tr (S120.tr (S168.tr (S177.tr S221)))) rfl rfl
 have f226 := f178.stp S221 rfl rfl
 have f227 := f179.stp S221 rfl rfl
 refine DN.res (l := [.cell 2 27]) Try.results63 (res_cellA rfl f222 Try.isAgg27 Try.sizeOf27 rfl rfl) rfl ?_
 obtain rfl := Option.some.inj h
 exact ⟨(fun b => ren [(17, 3), (14, 4), (21, 5), (20, 2)] (K176 b)), las6_0, lus6_0, las3_0, lus3_0, las9_0, lus9_0, rfl, (f223.map (ren [(17, 3), (14, 4), (21, 5), (20, 2)]) rfl rfl), (f224.map (ren [(17, 3), (14, 4), (21, 5), (20, 2)]) rfl rfl), (f225.map (ren [(17, 3), (14, 4), (21, 5), (20, 2)]) rfl rfl), (f226.map (ren [(17, 3), (14, 4), (21, 5), (20, 2)]) rfl rfl), (f227.map (ren [(17, 3), (14, 4), (21, 5), (20, 2)]) rfl rfl)⟩

/- loop.example/g00869/spec.l1Odd -/
theorem s_l1Odd_ok {w : World} {κ : Col} {a0_0 : Option Addr} {u0_0 : Nat} {p0 : l1Cur} {b0 : Nat} (g0_0 : Rd (Rp.int .u8) κ w 0 a0_0 u0_0 p0.b) (gb0 : Bc κ w 2 b0 89 [.slice a0_0 p0.b.length u0_0, .int .i64 p0.i, .int .i64 p0.h]) {r : Int × Int × Int} (h : s_l1Odd p0 = some r) : Ret Try.prog 83 [.pointer (some ⟨b0, 0, none⟩)] w (fun v w' => ∃ (κ' : Col), v = .int .i64 r.1 ∧ Ent κ w κ' w' ∧ Bc κ' w' 2 b0 89 [.slice a0_0 p0.b.length u0_0, .int .i64 r.2.1, .int .i64 r.2.2]) := by
 unfold s_l1Odd at h
 refine Ret.enter Try.func83 rfl Try.ntmps83 rfl ?_
 dsimp only [envOf]
 have hE := Ent.refl κ w
 refine WC.seq ?_
 refine WC.rs [(0, 2)] rfl ?_
 refine WO.pn 1 rfl ?_
 refine WO.fin ?_
 refine DN.seq ?_
 refine WC.seq ?_
 refine WC.rs [(0, 1), (1, 2), (2, 1), (3, 2), (4, 1), (5, 2)] rfl ?_
 refine WO.bl (κ := κ) (E := (Ep.int .i64)) 3 [] (parts := [(0, .const (.int .i64 (-1))), (1, .const (.int .i64 0)), (2, .const (.int .i64 1)), (3, .const (.int .i64 2147483648)), (4, .const (.int .i64 (-2147483648))), (5, .const (.int .i64 1099511627776)), (6, .const (.int .i64 4611686018427387904)), (7, .const (.int .i64 (-4611686018427387904))), (8, .const (.int .i64 9223372036854775807)), (9, .const (.int .i64 (-9223372036854775808)))]) (cells := [.int .i64 (-1), .int .i64 0, .int .i64 1, .int .i64 2147483648, .int .i64 (-2147483648), .int .i64 1099511627776, .int .i64 4611686018427387904, .int .i64 (-4611686018427387904), .int .i64 9223372036854775807, .int .i64 (-9223372036854775808)]) (xs := ([(-1), 0, 1, 2147483648, (-2147483648), 1099511627776, 4611686018427387904, (-4611686018427387904), 9223372036854775807, (-9223372036854775808)] : List Int)) rfl rfl rfl rfl rfl rfl Try.underlying24 Tryinfo2 rfl rfl rfl rfl rfl rfl rfl rfl rfl rfl ⟨[.int .i64 (-1)], [.int .i64 0, .int .i64 1, .int .i64 2147483648, .int .i64 (-2147483648), .int .i64 1099511627776, .int .i64 4611686018427387904, .int .i64 (-4611686018427387904), .int .i64 9223372036854775807, .int .i64 (-9223372036854775808)], Zl κ w [], Zl κ w [], rfl, Zl.sp (l1 := []) (l2 := []) rfl, Zl.sr (l1 := []) (l2 := []), rfl, ⟨[.int .i64 0], [.int .i64 1, .int .i64 2147483648, .int .i64 (-2147483648), .int .i64 1099511627776, .int .i64 4611686018427387904, .int .i64 (-4611686018427387904), .int .i64 9223372036854775807, .int .i64 (-9223372036854775808)], Zl κ w [], Zl κ w [], rfl, Zl.sp (l1 := []) (l2 := []) rfl, Zl.sr (l1 := []) (l2 := []), rfl, ⟨[.int .i64 1], [.int .i64 2147483648, .int .i64 (-2147483648), .int .i64 1099511627776, .int .i64 4611686018427387904, .int .i64 (-4611686018427387904), .int .i64 9223372036854775807, .int .i64 (-9223372036854775808)], Zl κ w [], Zl κ w [], rfl, Zl.sp (l1 := []) (l2 := []) rfl, Zl.sr (l1 := []) (l2 := []), rfl, ⟨[.int .i64 2147483648], [.int .i64 (-2147483648), .int .i64 1099511627776, .int .i64 4611686018427387904, .int .i64 (-4611686018427387904), .int .i64 9223372036854775807, .int .i64 (-9223372036854775808)], Zl κ w [], Zl κ w [], rfl, Zl.sp (l1 := []) (l2 := []) rfl, Zl.sr (l1 := []) (l2 := []), rfl, ⟨[.int .i64 (-2147483648)], [.int .i64 1099511627776, .int .i64 4611686018427387904, .int .i64 (-4611686018427387904), .int .i64 9223372036854775807, .int .i64 (-9223372036854775808)], Zl κ w [], Zl κ w [], rfl, Zl.sp (l1 := []) (l2 := []) rfl, Zl.sr (l1 := []) (l2 := []), rfl, ⟨[.int .i64 1099511627776], [.int .i64 4611686018427387904, .int .i64 (-4611686018427387904), .int .i64 9223372036854775807, .int .i64 (-9223372036854775808)], Zl κ w [], Zl κ w [], rfl, Zl.sp (l1 := []) (l2 := []) rfl, Zl.sr (l1 := []) (l2 := []), rfl, ⟨[.int .i64 4611686018427387904], [.int .i64 (-4611686018427387904), .int .i64 9223372036854775807, .int .i64 (-9223372036854775808)], Zl κ w [], Zl κ w [], rfl, Zl.sp (l1 := []) (l2 := []) rfl, Zl.sr (l1 := []) (l2 := []), rfl, ⟨[.int .i64 (-4611686018427387904)], [.int .i64 9223372036854775807, .int .i64 (-9223372036854775808)], Zl κ w [], Zl κ w [], rfl, Zl.sp (l1 := []) (l2 := []) rfl, Zl.sr (l1 := []) (l2 := []), rfl, ⟨[.int .i64 9223372036854775807], [.int .i64 (-9223372036854775808)], Zl κ w [], Zl κ w [], rfl, Zl.sp (l1 := []) (l2 := []) rfl, Zl.sr (l1 := []) (l2 := []), rfl, ⟨[.int .i64 (-9223372036854775808)], [], Zl κ w [], Zl κ w [], rfl, Zl.sp (l1 := []) (l2 := []) rfl, Zl.sr (l1 := []) (l2 := []), rfl, rfl⟩⟩⟩⟩⟩⟩⟩⟩⟩⟩ fun a3 u3 w1 K2 S3 f4 => ⟨trivial, ?_⟩
 refine WO.pn 1 rfl ?_
 obtain ⟨x5, hx5, h⟩ := Option.bind_eq_some_iff.mp h
 have f5 := g0_0.stp S3 rfl rfl
 have f6 := gb0.stp S3 rfl rfl
 refine WO.call rfl rfl rfl rfl rfl rfl Try.call65 (s_l1Below_ok (κ := fun b => mp [(2, 2)] 0 (K2 b)) (p0 := p0) (Sl.map f5 (mp [(2, 2)] 0) rfl rfl) (f6.map (mp [(2, 2)] 0) rfl rfl) hx5) ?_
 rintro _ w7 ⟨k8, rfl, e9, f10⟩
 obtain ⟨K11, S12, m13⟩ := Ent.mixed (l := [(2, 2)]) (κ := K2) e9 4 rfl
 refine ⟨trivial, ?_⟩
 have f15 := f10.mx m13 rfl (rfl : 4 + 2 = 6)
 obtain ⟨x6, hx6, h⟩ := Option.bind_eq_some_iff.mp h
 refine WO.k2 rfl rfl rfl rfl (rn_index f4.rdc hx6 Try.runUnderlying24 Try.sizeOf2 rfl rfl rfl rfl) ?_
 have f16 := f4.stp S12 rfl rfl
 refine WO.k1 trivial rfl rfl rfl rfl (rn_ld Try.isAgg2 rfl rfl (hvE (f16.rdc.gInt hx6))) ?_
 refine WO.pn 1 rfl ?_
 refine WO.fin ?_
 refine DN.seq ?_
 refine WC.ret ?_
 have f17 := hE.stp (S3.tr S12) rfl rfl
 refine DN.res (l := [.tmp 2]) Try.results83 (res_tmp rfl rfl) rfl ?_
 obtain rfl := Option.some.inj h
 exact ⟨(fun b => ren [(6, 2)] (K11 b)), rfl, (f17.map (ren [(6, 2)]) rfl rfl), (f15.map (ren [(6, 2)]) rfl rfl)⟩

/- loop.example/g00869/spec.CircuitOk -/
theorem s_CircuitOk_ok {w : World} {κ : Col} {a0_2 : Option Addr} {u0_2 : Nat} {a0_3 : Option Addr} {u0_3 : Nat} {a0_4 : Option Addr} {u0_4 : Nat} {p0 : Circuit} (g0_2 : Rd (Rp.int .i64) κ w 0 a0_2 u0_2 p0.Next) (g0_3 : Rd Gate.rp κ w 0 a0_3 u0_3 p0.Gates) (g0_4 : Rd (Rp.int .i64) κ w 0 a0_4 u0_4 p0.Outs) {r : Bool} (h : s_CircuitOk p0 = some r) : Ret Try.prog 9 [.agg #[.int .i64 p0.Inputs, .int .i64 p0.Latches, .slice a0_2 p0.Next.length u0_2, .slice a0_3 p0.Gates.length u0_3, .slice a0_4 p0.Outs.length u0_4]] w (fun v w' => ∃ (κ' : Col), v = .bool r ∧ Ent κ w κ' w') := by
 unfold s_CircuitOk at h
 refine Ret.enter Try.func9 rfl Try.ntmps9 rfl ?_
 dsimp only [envOf]
 have hE := Ent.refl κ w
 refine WC.seq ?_
 refine WC.rs [(0, 1), (1, 2)] rfl ?_
 refine WO.box (κ := κ) 2 rfl rfl rfl rfl rfl rfl rfl fun b1 w1 K2 S3 f4 => ⟨trivial, ?_⟩
 refine WO.pn 1 rfl ?_
 refine WO.fin ?_
 refine DN.seq ?_
 refine WC.seq ?_
 refine WC.seq ?_
 refine WC.rs [(0, 2), (1, 1), (2, 1), (3, 2), (4, 2), (5, 2), (6, 1), (7, 1), (8, 2), (9, 2), (10, 2), (11, 2), (12, 1), (13, 2), (14, 2), (15, 2), (16, 2), (17, 2), (18, 1), (19, 2), (20, 2), (21, 2), (22, 2), (23, 2), (24, 1), (25, 2), (26, 2), (27, 1), (28, 2), (29, 2)] rfl ?_
 refine WO.k2 rfl rfl rfl rfl (rn_fieldAddr Try.runUnderlying27 rfl Try.sizeOf2 rfl rfl) ?_
 refine WO.k1 trivial rfl rfl rfl rfl (rn_ld Try.isAgg2 rfl rfl (hvE (f4.ld 0 rfl rfl))) ?_
 obtain ⟨x7, hx7, h⟩ := Option.bind_eq_some_iff.mp h
 refine WO.call rfl rfl rfl rfl rfl rfl Try.call33 (s_l1In_ok (κ := fun b => mp [] 0 (K2 b)) hx7) ?_
 rintro _ w5 ⟨k6, rfl, e7⟩
 obtain ⟨K8, S9, m10⟩ := Ent.mixed (l := []) (κ := K2) e7 3 rfl
 refine ⟨trivial, ?_⟩
 refine WO.pn 2 rfl ?_
 obtain ⟨p14, h, hK12⟩ := Option.bind_eq_some_iff.mp h
 refine WO.meet [(5, 2), (6, 1), (7, 1), (8, 2), (9, 2)] [(10, 2), (11, 2), (12, 1), (13, 2), (14, 2), (15, 2), (16, 2), (17, 2), (18, 1), (19, 2), (20, 2), (21, 2), (22, 2), (23, 2), (24, 1), (25, 2), (26, 2), (27, 1), (28, 2), (29, 2)] (fun L w' => L = [(1, .pointer (some ⟨b1, 0, none⟩)), (14, .bool p14)] ∧ ∃ κ', Stp [] K8 w5 κ' w') trivial ?_ ?_
 ·
  revert h
  cases ht13 : (!x7) with
  | true =>
   intro h; replace h := cT h
   refine WO.pn 1 rfl ?_
   refine WO.ls rfl rfl rfl rfl ?_
   refine WO.ls rfl rfl rfl rfl ?_
   refine WO.pn 2 rfl ?_
   obtain rfl := Option.some.inj h
   exact WO.met _ trivial ⟨rfl, _, (Stp.refl _ _).wk rfl⟩ fun a ha => (ha.more (ha.more ha.nil rfl) rfl)
  | false =>
   intro h; replace h := cF h
   refine WO.k2 rfl rfl rfl rfl (rn_fieldAddr Try.runUnderlying27 rfl Try.sizeOf2 rfl rfl) ?_
   have f14 := f4.stp S9 rfl rfl
   refine WO.k1 trivial rfl rfl rfl rfl (rn_ld Try.isAgg2 rfl rfl (hvE (f14.ld 1 rfl rfl))) ?_
   obtain ⟨x12, hx12, h⟩ := Option.bind_eq_some_iff.mp h
   refine WO.call rfl rfl rfl rfl rfl rfl Try.call33 (s_l1In_ok (κ := fun b => mp [] 0 (K8 b)) hx12) ?_
   rintro _ w15 ⟨k16, rfl, e17⟩
   obtain ⟨K18, S19, m20⟩ := Ent.mixed (l := []) (κ := K8) e17 5 rfl
   refine ⟨trivial, ?_⟩
   refine WO.pn 2 rfl ?_
   obtain rfl := Option.some.inj h
   exact WO.met _ trivial ⟨rfl, _, S19.wk rfl⟩ fun a ha => (ha.more (ha.more ha.nil rfl) rfl)
 rintro _ w22 _ ⟨rfl, K23, S24⟩
 have h := hK12
 refine WO.pn 1 rfl ?_
 obtain ⟨p20, h, hK25⟩ := Option.bind_eq_some_iff.mp h
 refine WO.meet [(11, 2), (12, 1), (13, 2), (14, 2), (15, 2)] [(16, 2), (17, 2), (18, 1), (19, 2), (20, 2), (21, 2), (22, 2), (23, 2), (24, 1), (25, 2), (26, 2), (27, 1), (28, 2), (29, 2)] (fun L w' => L = [(1, .pointer (some ⟨b1, 0, none⟩)), (20, .bool p20)] ∧ ∃ κ', Stp [] K23 w22 κ' w') trivial ?_ ?_
 ·
  revert h
  cases ht26 : p14 with
  | true =>
   intro h; replace h := cT h
   refine WO.pn 1 rfl ?_
   refine WO.ls rfl rfl rfl rfl ?_
   refine WO.pn 3 rfl ?_
   obtain rfl := Option.some.inj h
   exact WO.met _ trivial ⟨rfl, _, (Stp.refl _ _).wk rfl⟩ fun a ha => (ha.more (ha.more ha.nil rfl) rfl)
  | false =>
   intro h; replace h := cF h
   refine WO.k2 rfl rfl rfl rfl (rn_fieldAddr Try.runUnderlying27 rfl Try.sizeOf25 rfl rfl) ?_
   have f27 := f4.stp (S9.tr S24) rfl rfl
   refine WO.k1 trivial rfl rfl rfl rfl (rn_ld Try.isAgg25 rfl rfl (hvE (f27.ld 3 rfl rfl))) ?_
   refine WO.k2 rfl rfl rfl rfl (rn_len Try.runUnderlying25 rfl rfl) ?_
   refine WO.pn 2 rfl ?_
   obtain rfl := Option.some.inj h
   exact WO.met _ trivial ⟨rfl, _, (Stp.refl _ _).wk rfl⟩ fun a ha => (ha.more (ha.more ha.nil rfl) rfl)
 rintro _ w28 _ ⟨rfl, K29, S30⟩
 have h := hK25
 refine WO.pn 1 rfl ?_
 obtain ⟨p26, h, hK31⟩ := Option.bind_eq_some_iff.mp h
 refine WO.meet [(17, 2), (18, 1), (19, 2), (20, 2), (21, 2)] [(22, 2), (23, 2), (24, 1), (25, 2), (26, 2), (27, 1), (28, 2), (29, 2)] (fun L w' => L = [(1, .pointer (some ⟨b1, 0, none⟩)), (26, .bool p26)] ∧ ∃ κ', Stp [] K29 w28 κ' w') trivial ?_ ?_
 ·
  revert h
  cases ht32 : p20 with
  | true =>
   intro h; replace h := cT h
   refine WO.pn 1 rfl ?_
   refine WO.ls rfl rfl rfl rfl ?_
   refine WO.pn 3 rfl ?_
   obtain rfl := Option.some.inj h
   exact WO.met _ trivial ⟨rfl, _, (Stp.refl _ _).wk rfl⟩ fun a ha => (ha.more (ha.more ha.nil rfl) rfl)
  | false =>
   intro h; replace h := cF h
   refine WO.k2 rfl rfl rfl rfl (rn_fieldAddr Try.runUnderlying27 rfl Try.sizeOf24 rfl rfl) ?_
   have f33 := f4.stp (S9.tr (S24.tr S30)) rfl rfl
   refine WO.k1 trivial rfl rfl rfl rfl (rn_ld Try.isAgg24 rfl rfl (hvE (f33.ld 4 rfl rfl))) ?_
   refine WO.k2 rfl rfl rfl rfl (rn_len Try.runUnderlying24 rfl rfl) ?_
   refine WO.pn 2 rfl ?_
   obtain rfl := Option.some.inj h
   exact WO.met _ trivial ⟨rfl, _, (Stp.refl _ _).wk rfl⟩ fun a ha => (ha.more (ha.more ha.nil rfl) rfl)
 rintro _ w34 _ ⟨rfl, K35, S36⟩
 have h := hK31
 refine WO.pn 1 rfl ?_
 obtain ⟨p34, h, hK37⟩ := Option.bind_eq_some_iff.mp h
 refine WO.meet [(23, 2), (24, 1), (25, 2), (26, 2), (27, 1), (28, 2), (29, 2)] [] (fun L w' => L = [(1, .pointer (some ⟨b1, 0, none⟩)), (34, .bool p34)] ∧ ∃ κ', Stp [] K35 w34 κ' w') trivial ?_ ?_
 ·
  revert h
  cases ht38 : p26 with
  | true =>
   intro h; replace h := cT h
   refine WO.pn 1 rfl ?_
   refine WO.ls rfl rfl rfl rfl ?_
   refine WO.pn 2 rfl ?_
   refine WO.ls rfl rfl rfl rfl ?_
   refine WO.pn 2 rfl ?_
   obtain rfl := Option.some.inj h
   exact WO.met _ trivial ⟨rfl, _, (Stp.refl _ _).wk rfl⟩ fun a ha => (ha.more (ha.more ha.nil rfl) rfl)
  | false =>
   intro h; replace h := cF h
   refine WO.k2 rfl rfl rfl rfl (rn_fieldAddr Try.runUnderlying27 rfl Try.sizeOf24 rfl rfl) ?_
   have f39 := f4.stp (S9.tr (S24.tr (S30.tr S36))) rfl rfl
   refine WO.k1 trivial rfl rfl rfl rfl (rn_ld Try.isAgg24 rfl rfl (hvE (f39.ld 2 rfl rfl))) ?_
   refine WO.k2 rfl rfl rfl rfl (rn_len Try.runUnderlying24 rfl rfl) ?_
   refine WO.k2 rfl rfl rfl rfl (rn_fieldAddr Try.runUnderlying27 rfl Try.sizeOf2 rfl rfl) ?_
   refine WO.k1 trivial rfl rfl rfl rfl (rn_ld Try.isAgg2 rfl rfl (hvE (f39.ld 1 rfl rfl))) ?_
   refine WO.pn 2 rfl ?_
   obtain rfl := Option.some.inj h
   exact WO.met _ trivial ⟨rfl, _, (Stp.refl _ _).wk rfl⟩ fun a ha => (ha.more (ha.more ha.nil rfl) rfl)
 rintro _ w40 _ ⟨rfl, K41, S42⟩
 have h := hK37
 refine WO.fin ?_
 refine DN.seq ?_
 revert h
 cases ht43 : p34 with
 | true =>
  intro h; replace h := cT h
  refine WC.ct rfl ?_
  refine WC.seq ?_
  refine WC.rs [(0, 2)] rfl ?_
  refine WO.pn 1 rfl ?_
  refine WO.fin ?_
  refine DN.seq ?_
  refine WC.ret ?_
  refine DN.retThen ?_
  have f44 := hE.stp (S3.tr (S9.tr (S24.tr (S30.tr (S36.tr S42))))) rfl rfl
  refine DN.res (l := [.tmp 2]) Try.results9 (res_tmp rfl rfl) rfl ?_
  obtain rfl := Option.some.inj h
  exact ⟨K41, rfl, f44⟩
 | false =>
  intro h; replace h := cF h
  refine WC.cf rfl ?_
  refine WC.skip ?_
  refine DN.seq ?_
  refine WC.seq ?_
  refine WC.seq ?_
  refine WC.rs [(0, 2)] rfl ?_
  refine WO.pn 1 rfl ?_
  refine WO.fin ?_
  refine DN.seq ?_
  have hN45 : (p0.Gates.length : Int) ≤ 9223372036854775807 := g0_3.len_le
  obtain ⟨q2, hq47, hK46⟩ := Option.bind_eq_some_iff.mp h
  clear h
  refine WC.meet (fun L w' => ∃ (κ' : Col), L = [(1, .pointer (some ⟨b1, 0, none⟩))] ∧ Stp [] K41 w40 κ' w' ∧ q2 = Sum.inr ()) ?_ ?_
  ·
   refine WC.block ?_
   refine WC.loop (fun k L w' => ∃ (κ' : Col) (v3 : Int), L = [(1, .pointer (some ⟨b1, 0, none⟩)), (3, .int .i64 v3)] ∧ Stp [] K41 w40 κ' w' ∧ 0 ≤ v3 ∧ Int.toNat ((p0.Gates.length : Int) - v3) = k ∧ cntM (s_CircuitOk_b0 p0) k v3 () = some q2) ⟨_, _, ⟨K41, 0, rfl, (Stp.refl _ _).wk rfl, (by decide), (by simp), hq47⟩, fun a ha => (ha.more (ha.more ha.nil rfl) rfl)⟩ ?_
   rintro k _ w51 ⟨K52, v3, rfl, S53, hj45, hJ45, h⟩
   rcases k with _ | k
   ·
    have hk54 := h; obtain ⟨o45, h⟩ := ex_eq (Sum.inr (Sum.inl ()) : Bool ⊕ ((Unit) ⊕ (Unit)))
    have hc45 : decide (v3 < (p0.Gates.length : Int)) = false := decide_eq_false (by omega)
    refine WC.seq ?_
    refine WC.seq ?_
    refine WC.rs [(0, 2), (1, 2), (2, 1), (3, 2), (4, 2)] rfl ?_
    refine WO.pn 1 rfl ?_
    refine WO.k2 rfl rfl rfl rfl (rn_fieldAddr Try.runUnderlying27 rfl Try.sizeOf25 rfl rfl) ?_
    have f55 := f4.stp (S9.tr (S24.tr (S30.tr (S36.tr (S42.tr S53))))) rfl rfl
    refine WO.k1 trivial rfl rfl rfl rfl (rn_ld Try.isAgg25 rfl rfl (hvE (f55.ld 3 rfl rfl))) ?_
    refine WO.k2 rfl rfl rfl rfl (rn_len Try.runUnderlying25 rfl rfl) ?_
    refine WO.pn 1 rfl ?_
    refine WO.fin ?_
    refine DN.seq ?_
    refine WC.cf' rfl hc45 ?_
    refine WC.exit ?_
    refine DN.exitThen ?_
    refine DN.exitThen ?_
    obtain rfl := Option.some.inj h
    have h := hk54
    refine DN.hit ?_
    obtain rfl := Option.some.inj h
    exact DN.meet _ ⟨K52, rfl, S53.wk rfl, rfl⟩ fun a ha => (ha.more ha.nil rfl)
   ·
    obtain ⟨o45, h, hk54⟩ := Option.bind_eq_some_iff.mp h; unfold s_CircuitOk_b0 at h
    have hc45 : decide (v3 < (p0.Gates.length : Int)) = true := decide_eq_true (by omega)
    refine WC.seq ?_
    refine WC.seq ?_
    refine WC.rs [(0, 2), (1, 2), (2, 1), (3, 2), (4, 2)] rfl ?_
    refine WO.pn 1 rfl ?_
    refine WO.k2 rfl rfl rfl rfl (rn_fieldAddr Try.runUnderlying27 rfl Try.sizeOf25 rfl rfl) ?_
    have f56 := f4.stp (S9.tr (S24.tr (S30.tr (S36.tr (S42.tr S53))))) rfl rfl
    refine WO.k1 trivial rfl rfl rfl rfl (rn_ld Try.isAgg25 rfl rfl (hvE (f56.ld 3 rfl rfl))) ?_
    refine WO.k2 rfl rfl rfl rfl (rn_len Try.runUnderlying25 rfl rfl) ?_
    refine WO.pn 1 rfl ?_
    refine WO.fin ?_
    refine DN.seq ?_
    refine WC.ct' rfl hc45 ?_
    refine WC.skip ?_
    refine DN.seq ?_
    refine WC.seq ?_
    refine WC.block ?_
    refine WC.seq ?_
    refine WC.rs [(0, 2), (1, 1), (2, 2), (3, 2), (4, 1), (5, 2), (6, 2), (7, 2), (8, 2), (9, 2), (10, 2)] rfl ?_
    refine WO.k2 rfl rfl rfl rfl (rn_fieldAddr Try.runUnderlying27 rfl Try.sizeOf2 rfl rfl) ?_
    refine WO.k1 trivial rfl rfl rfl rfl (rn_ld Try.isAgg2 rfl rfl (hvE (f56.ld 0 rfl rfl))) ?_
    refine WO.pn 1 rfl ?_
    refine WO.k2 rfl rfl rfl rfl (rn_fieldAddr Try.runUnderlying27 rfl Try.sizeOf2 rfl rfl) ?_
    refine WO.k1 trivial rfl rfl rfl rfl (rn_ld Try.isAgg2 rfl rfl (hvE (f56.ld 1 rfl rfl))) ?_
    refine WO.pn 6 rfl ?_
    refine WO.fin ?_
    refine DN.seq ?_
    refine WC.seq ?_
    refine WC.rs [(0, 2), (1, 1), (2, 2), (3, 2), (4, 2), (5, 1), (6, 2), (7, 1), (8, 2), (9, 2), (10, 2), (11, 1), (12, 2), (13, 2), (14, 2), (15, 1), (16, 2), (17, 1), (18, 2), (19, 2)] rfl ?_
    refine WO.k2 rfl rfl rfl rfl (rn_fieldAddr Try.runUnderlying27 rfl Try.sizeOf25 rfl rfl) ?_
    refine WO.k1 trivial rfl rfl rfl rfl (rn_ld Try.isAgg25 rfl rfl (hvE (f56.ld 3 rfl rfl))) ?_
    refine WO.pn 1 rfl ?_
    obtain ⟨x55, hx55, h⟩ := Option.bind_eq_some_iff.mp h
    refine WO.k2 rfl rfl rfl rfl (rn_index g0_3 hx55 Try.runUnderlying25 Try.sizeOf33 rfl rfl rfl rfl) ?_
    refine WO.k2 rfl rfl rfl rfl (rn_fieldAddr Try.runUnderlying33 rfl Try.sizeOf2 rfl rfl) ?_
    have f57 := g0_3.stp (S3.tr (S9.tr (S24.tr (S30.tr (S36.tr (S42.tr S53)))))) rfl rfl
    obtain ⟨cse58, hre58, hle58⟩ := (f57).gSt hx55
    obtain rfl := Gate.un hre58
    refine WO.k1 trivial rfl rfl rfl rfl (rn_ld Try.isAgg2 rfl rfl (hvE (fun w' hw' => hle58 w' hw' 0 _ rfl))) ?_
    refine WO.pn 1 rfl ?_
    obtain ⟨x59, hx59, h⟩ := Option.bind_eq_some_iff.mp h
    refine WO.call rfl rfl rfl rfl rfl rfl Try.call33 (s_l1In_ok (κ := fun b => mp [] 0 (K52 b)) hx59) ?_
    rintro _ w59 ⟨k60, rfl, e61⟩
    obtain ⟨K62, S63, m64⟩ := Ent.mixed (l := []) (κ := K52) e61 5 rfl
    refine ⟨trivial, ?_⟩
    refine WO.pn 2 rfl ?_
    obtain ⟨p71, h, hK66⟩ := Option.bind_eq_some_iff.mp h
    refine WO.meet [(10, 2), (11, 1), (12, 2), (13, 2), (14, 2), (15, 1), (16, 2), (17, 1), (18, 2), (19, 2)] [] (fun L w' => L = [(1, .pointer (some ⟨b1, 0, none⟩)), (3, .int .i64 v3), (71, .bool p71)] ∧ ∃ κ', Stp [] K62 w59 κ' w') trivial ?_ ?_
    ·
     revert h
     cases ht67 : (!x59) with
     | true =>
      intro h; replace h := cT h
      refine WO.pn 1 rfl ?_
      refine WO.ls rfl rfl rfl rfl ?_
      refine WO.pn 3 rfl ?_
      refine WO.ls rfl rfl rfl rfl ?_
      refine WO.pn 1 rfl ?_
      refine WO.ls rfl rfl rfl rfl ?_
      refine WO.pn 2 rfl ?_
      obtain rfl := Option.some.inj h
      exact WO.met _ trivial ⟨rfl, _, (Stp.refl _ _).wk rfl⟩ fun a ha => (ha.more (ha.more (ha.more ha.nil rfl) rfl) rfl)
     | false =>
      intro h; replace h := cF h
      refine WO.k2 rfl rfl rfl rfl (rn_fieldAddr Try.runUnderlying27 rfl Try.sizeOf25 rfl rfl) ?_
      have f68 := f56.stp S63 rfl rfl
      refine WO.k1 trivial rfl rfl rfl rfl (rn_ld Try.isAgg25 rfl rfl (hvE (f68.ld 3 rfl rfl))) ?_
      refine WO.pn 1 rfl ?_
      obtain ⟨x65, hx65, h⟩ := Option.bind_eq_some_iff.mp h
      refine WO.k2 rfl rfl rfl rfl (rn_index f57 hx65 Try.runUnderlying25 Try.sizeOf33 rfl rfl rfl rfl) ?_
      refine WO.k2 rfl rfl rfl rfl (rn_fieldAddr Try.runUnderlying33 rfl Try.sizeOf2 rfl rfl) ?_
      have f69 := f57.stp S63 rfl rfl
      obtain ⟨cse70, hre70, hle70⟩ := (f69).gSt hx65
      obtain rfl := Gate.un hre70
      refine WO.k1 trivial rfl rfl rfl rfl (rn_ld Try.isAgg2 rfl rfl (hvE (fun w' hw' => hle70 w' hw' 1 _ rfl))) ?_
      refine WO.pn 1 rfl ?_
      obtain ⟨x69, hx69, h⟩ := Option.bind_eq_some_iff.mp h
      refine WO.call rfl rfl rfl rfl rfl rfl Try.call33 (s_l1In_ok (κ := fun b => mp [] 0 (K62 b)) hx69) ?_
      rintro _ w71 ⟨k72, rfl, e73⟩
      obtain ⟨K74, S75, m76⟩ := Ent.mixed (l := []) (κ := K62) e73 7 rfl
      refine ⟨trivial, ?_⟩
      refine WO.pn 2 rfl ?_
      obtain rfl := Option.some.inj h
      exact WO.met _ trivial ⟨rfl, _, S75.wk rfl⟩ fun a ha => (ha.more (ha.more (ha.more ha.nil rfl) rfl) rfl)
    rintro _ w78 _ ⟨rfl, K79, S80⟩
    have h := hK66
    refine WO.fin ?_
    refine DN.seq ?_
    revert h
    cases ht81 : p71 with
    | true =>
     intro h; replace h := cT h
     refine WC.ct rfl ?_
     refine WC.seq ?_
     refine WC.rs [(0, 2)] rfl ?_
     refine WO.pn 1 rfl ?_
     refine WO.fin ?_
     refine DN.seq ?_
     refine WC.ret ?_
     refine DN.retBlock ?_
     refine DN.retThen ?_
     refine DN.retThen ?_
     obtain rfl := Option.some.inj h
     obtain rfl := Option.some.inj hk54
     have h := hK46
     dsimp only [aft] at h
     refine DN.retBlock ?_
     refine DN.retMeet ?_
     refine DN.retThen ?_
     have f82 := hE.stp (S3.tr (S9.tr (S24.tr (S30.tr (S36.tr (S42.tr (S53.tr (S63.tr S80)))))))) rfl rfl
     refine DN.res (l := [.tmp 2]) Try.results9 (res_tmp rfl rfl) rfl ?_
     obtain rfl := Option.some.inj h
     exact ⟨K79, rfl, f82⟩
    | false =>
     intro h; replace h := cF h
     refine WC.cf rfl ?_
     refine WC.skip ?_
     refine DN.block ?_
     refine DN.seq ?_
     refine WC.rs [(0, 2), (1, 2), (2, 2)] rfl ?_
     refine WO.pn 3 rfl ?_
     refine WO.fin ?_
     have hw45 : IntKind.wrap .i64 (v3 + 1) = v3 + 1 := wr1 hj45 (of_decide_eq_true hc45) hN45
     rw [hw45]
     have hc45 := of_decide_eq_true hc45
     obtain rfl := Option.some.inj h
     refine DN.round fun a ha => ?_
     exact ⟨k, _, Nat.lt_succ_self _, ⟨K79, v3 + 1, rfl, (S53.tr (S63.tr S80)).wk rfl, by omega, by omega, hk54⟩, (ha.more (ha.more ha.nil rfl) rfl)⟩
  rintro _ w48 ⟨K49, rfl, S50, rfl⟩
  have h := hK46
  dsimp only [aft] at h
  refine DN.seq ?_
  refine WC.seq ?_
  refine WC.rx (κ := K49) [2] none [(0, 2), (1, 0), (2, 0), (3, 1), (4, 1), (5, 2), (6, 2), (7, 0), (8, 0), (9, 1), (10, 1), (11, 2), (12, 2)] [] (by kernel_rfl) (by kernel_rfl) fun w84 S83 => ?_
  refine WO.k2 rfl rfl rfl rfl (rn_fieldAddr Try.runUnderlying27 rfl Try.sizeOf24 rfl rfl) ?_
  have f85 := f4.stp (S9.tr (S24.tr (S30.tr (S36.tr (S42.tr (S50.tr S83)))))) rfl rfl
  refine WO.k0 rfl rfl rfl rfl (rn_ld Try.isAgg24 rfl rfl (hvC (f85.ld 2 rfl rfl) rfl)) ?_
  refine WO.k0 rfl rfl rfl rfl (rn_la (cs := [.int .i64 p0.Inputs, .int .i64 p0.Latches, .slice a0_2 p0.Next.length u0_2, .slice a0_3 p0.Gates.length u0_3, .slice a0_4 p0.Outs.length u0_4]) Try.isAgg27 Try.sizeOf27 rfl rfl rfl (haC f85.cells rfl)) ?_
  obtain ⟨x75, hx75, h⟩ := Option.bind_eq_some_iff.mp h
  have f86 := g0_2.stp (S3.tr (S9.tr (S24.tr (S30.tr (S36.tr (S42.tr (S50.tr S83))))))) rfl rfl
  have f87 := g0_3.stp (S3.tr (S9.tr (S24.tr (S30.tr (S36.tr (S42.tr (S50.tr S83))))))) rfl rfl
  have f88 := g0_4.stp (S3.tr (S9.tr (S24.tr (S30.tr (S36.tr (S42.tr (S50.tr S83))))))) rfl rfl
  refine WO.call rfl rfl rfl rfl rfl rfl Try.call35 (s_l31Signals_ok (κ := fun b => mp [] 0 (K49 b)) (p0 := p0) (Sl.map f86 (mp [] 0) rfl rfl) (Sl.map f87 (mp [] 0) rfl rfl) (Sl.map f88 (mp [] 0) rfl rfl) hx75) ?_
  rintro _ w89 ⟨k90, rfl, e91⟩
  obtain ⟨K92, S93, m94⟩ := Ent.mixed (l := []) (κ := K49) e91 5 rfl
  refine ⟨(S93.cl rfl), ?_⟩
  obtain ⟨x76, hx76, h⟩ := Option.bind_eq_some_iff.mp h
  have f96 := f86.stp S93 rfl rfl
  refine WO.call rfl rfl rfl rfl rfl rfl Try.call34 (s_l31Literals_ok (κ := fun b => mp [] 0 (K92 b)) (Sl.map f96 (mp [] 0) rfl rfl) hx76) ?_
  rintro _ w97 ⟨k98, rfl, e99⟩
  obtain ⟨K100, S101, m102⟩ := Ent.mixed (l := []) (κ := K92) e99 7 rfl
  refine ⟨((S93.tr S101).cl rfl), ?_⟩
  refine WO.pn 1 rfl ?_
  obtain ⟨p83, h, hK104⟩ := Option.bind_eq_some_iff.mp h
  refine WO.meet [(6, 2), (7, 0), (8, 0), (9, 1), (10, 1), (11, 2)] [(12, 2)] (fun L w' => L = [(83, .bool p83)] ∧ ∃ κ', Stp [] K100 w97 κ' w') ((S93.tr S101).cl rfl) ?_ ?_
  ·
   revert h
   cases ht105 : x76 with
   | true =>
    intro h; replace h := cT h
    refine WO.k2 rfl rfl rfl rfl (rn_fieldAddr Try.runUnderlying27 rfl Try.sizeOf24 rfl rfl) ?_
    refine WO.k0 rfl rfl rfl rfl (rn_ld Try.isAgg24 rfl rfl (hvC (f85.ld 4 rfl rfl) rfl)) ?_
    refine WO.k0 rfl rfl rfl rfl (rn_la (cs := [.int .i64 p0.Inputs, .int .i64 p0.Latches, .slice a0_2 p0.Next.length u0_2, .slice a0_3 p0.Gates.length u0_3, .slice a0_4 p0.Outs.length u0_4]) Try.isAgg27 Try.sizeOf27 rfl rfl rfl (haC f85.cells rfl)) ?_
    obtain ⟨x81, hx81, h⟩ := Option.bind_eq_some_iff.mp h
    have f106 := f96.stp S101 rfl rfl
    have f107 := f87.stp (S93.tr S101) rfl rfl
    have f108 := f88.stp (S93.tr S101) rfl rfl
    refine WO.call rfl rfl rfl rfl rfl rfl Try.call35 (s_l31Signals_ok (κ := fun b => mp [] 0 (K100 b)) (p0 := p0) (Sl.map f106 (mp [] 0) rfl rfl) (Sl.map f107 (mp [] 0) rfl rfl) (Sl.map f108 (mp [] 0) rfl rfl) hx81) ?_
    rintro _ w109 ⟨k110, rfl, e111⟩
    obtain ⟨K112, S113, m114⟩ := Ent.mixed (l := []) (κ := K100) e111 9 rfl
    refine ⟨((S93.tr (S101.tr S113)).cl rfl), ?_⟩
    obtain ⟨x82, hx82, h⟩ := Option.bind_eq_some_iff.mp h
    have f116 := f108.stp S113 rfl rfl
    refine WO.call rfl rfl rfl rfl rfl rfl Try.call34 (s_l31Literals_ok (κ := fun b => mp [] 0 (K112 b)) (Sl.map f116 (mp [] 0) rfl rfl) hx82) ?_
    rintro _ w117 ⟨k118, rfl, e119⟩
    obtain ⟨K120, S121, m122⟩ := Ent.mixed (l := []) (κ := K112) e119 11 rfl
    refine ⟨((S93.tr (S101.tr (S113.tr S121))).cl rfl), ?_⟩
    refine WO.pn 1 rfl ?_
    obtain rfl := Option.some.inj h
    exact WO.met _ ((S93.tr (S101.tr (S113.tr S121))).cl rfl) ⟨rfl, _, (S113.tr S121).wk rfl⟩ fun a ha => (ha.more ha.nil rfl)
   | false =>
    intro h; replace h := cF h
    refine WO.pn 1 rfl ?_
    refine WO.qs rfl rfl rfl rfl ?_
    refine WO.qs rfl rfl rfl rfl ?_
    refine WO.ls rfl rfl rfl rfl ?_
    refine WO.ls rfl rfl rfl rfl ?_
    refine WO.pn 1 rfl ?_
    obtain rfl := Option.some.inj h
    exact WO.met _ ((S93.tr S101).cl rfl) ⟨rfl, _, (Stp.refl _ _).wk rfl⟩ fun a ha => (ha.more ha.nil rfl)
  rintro _ w124 _ ⟨rfl, K125, S126⟩
  have h := hK104
  refine WO.pn 1 rfl ?_
  refine WO.nx ?_
  refine WO.fin ?_
  refine DN.seq ?_
  refine WC.ret ?_
  have f127 := hE.stp (S3.tr (S9.tr (S24.tr (S30.tr (S36.tr (S42.tr (S50.tr (S83.tr (S93.tr (S101.tr S126)))))))))) rfl rfl
  refine DN.res (l := [.tmp 2]) Try.results9 (res_tmp rfl rfl) rfl ?_
  obtain rfl := Option.some.inj h
  exact ⟨K125, rfl, f127⟩

/- loop.example/g00869/spec.l31Step -/
theorem s_l31Step_ok {w : World} {κ : Col} {a0_2 : Option Addr} {u0_2 : Nat} {a0_3 : Option Addr} {u0_3 : Nat} {a0_4 : Option Addr} {u0_4 : Nat} {p0 : Circuit} {p1 : Int} {p2 : Int} (g0_2 : Rd (Rp.int .i64) κ w 0 a0_2 u0_2 p0.Next) (g0_3 : Rd Gate.rp κ w 0 a0_3 u0_3 p0.Gates) (g0_4 : Rd (Rp.int .i64) κ w 0 a0_4 u0_4 p0.Outs) {r : Int × Int} (h : s_l31Step p0 p1 p2 = some r) : Ret Try.prog 40 [.agg #[.int .i64 p0.Inputs, .int .i64 p0.Latches, .slice a0_2 p0.Next.length u0_2, .slice a0_3 p0.Gates.length u0_3, .slice a0_4 p0.Outs.length u0_4], .int .i64 p1, .int .i64 p2] w (fun v w' => ∃ (κ' : Col), v = .tuple #[.int .i64 r.1, .int .i64 r.2] ∧ Ent κ w κ' w') := by
 unfold s_l31Step at h
 refine Ret.enter Try.func40 rfl Try.ntmps40 rfl ?_
 dsimp only [envOf]
 have hE := Ent.refl κ w
 refine WC.seq ?_
 refine WC.rs [(0, 1), (1, 2), (2, 2)] rfl ?_
 refine WO.box (κ := κ) 2 rfl rfl rfl rfl rfl rfl rfl fun b3 w1 K2 S3 f4 => ⟨trivial, ?_⟩
 refine WO.pn 2 rfl ?_
 refine WO.fin ?_
 refine DN.seq ?_
 refine WC.seq ?_
 refine WC.rs [(0, 1), (1, 2)] rfl ?_
 refine WO.bl (κ := K2) (E := Ep.bool) 3 [] (parts := [(0, .const (.bool false))]) (cells := [.bool false]) (xs := ([false] : List Bool)) rfl rfl rfl rfl rfl rfl Try.underlying77 Tryinfo4 rfl rfl rfl rfl rfl rfl rfl rfl rfl rfl ⟨[.bool false], [], Zl K2 w1 [], Zl K2 w1 [], rfl, Zl.sp (l1 := []) (l2 := []) rfl, Zl.sr (l1 := []) (l2 := []), rfl, rfl⟩ fun a12 u12 w5 K6 S7 f8 => ⟨trivial, ?_⟩
 refine WO.pn 1 rfl ?_
 refine WO.fin ?_
 refine DN.seq ?_
 refine WC.seq ?_
 refine WC.seq ?_
 refine WC.rs [(0, 2)] rfl ?_
 refine WO.pn 1 rfl ?_
 refine WO.fin ?_
 refine DN.seq ?_
 obtain ⟨_, hr9, h⟩ := Option.bind_eq_some_iff.mp h
 have hN9 := rng_ok hr9
 obtain ⟨q2, hq11, hK10⟩ := Option.bind_eq_some_iff.mp h
 clear h
 refine WC.meet (fun L w' => ∃ (κ' : Col) (s3 : (List Bool)) (las3_0 : Option Addr) (lus3_0 : Nat), L = [(1, .int .i64 p1), (3, .pointer (some ⟨b3, 0, none⟩)), (8, .slice las3_0 s3.length lus3_0)] ∧ Stp [3] K6 w5 κ' w' ∧ Oc Ep.bool 4 κ' w' 3 las3_0 lus3_0 s3 ∧ q2 = Sum.inr s3) ?_ ?_
 ·
  refine WC.block ?_
  refine WC.loop (fun k L w' => ∃ (κ' : Col) (v9 : Int) (s1 : (List Bool)) (las1_0 : Option Addr) (lus1_0 : Nat), L = [(1, .int .i64 p1), (2, .int .i64 p2), (3, .pointer (some ⟨b3, 0, none⟩)), (8, .slice las1_0 s1.length lus1_0), (9, .int .i64 v9)] ∧ Stp [3] K6 w5 κ' w' ∧ Oc Ep.bool 4 κ' w' 3 las1_0 lus1_0 s1 ∧ 0 ≤ v9 ∧ Int.toNat (p0.Inputs - v9) = k ∧ cntM (s_l31Step_b0 p2) k v9 s1 = some q2) ⟨_, _, ⟨K6, 0, (([false] : List Bool) : (List Bool)), a12, u12, rfl, (Stp.refl _ _).wk rfl, f8, (by decide), (by simp), hq11⟩, fun a ha => (ha.more (ha.more (ha.more (ha.more (ha.more ha.nil rfl) rfl) rfl) rfl) rfl)⟩ ?_
  rintro k _ w16 ⟨K17, v9, s1, las1_0, lus1_0, rfl, S18, f19, hj9, hJ9, h⟩
  rcases k with _ | k
  ·
   have hk20 := h; obtain ⟨o9, h⟩ := ex_eq (Sum.inr (Sum.inl s1) : (Int × Int) ⊕ (((List Bool)) ⊕ ((List Bool))))
   have hc9 : decide (v9 < p0.Inputs) = false := decide_eq_false (by omega)
   refine WC.seq ?_
   refine WC.seq ?_
   refine WC.rs [(0, 2), (1, 2), (2, 1), (3, 2)] rfl ?_
   refine WO.pn 1 rfl ?_
   refine WO.k2 rfl rfl rfl rfl (rn_fieldAddr Try.runUnderlying27 rfl Try.sizeOf2 rfl rfl) ?_
   have f21 := f4.stp (S7.tr S18) rfl rfl
   refine WO.k1 trivial rfl rfl rfl rfl (rn_ld Try.isAgg2 rfl rfl (hvE (f21.ld 0 rfl rfl))) ?_
   refine WO.pn 1 rfl ?_
   refine WO.fin ?_
   refine DN.seq ?_
   refine WC.cf' rfl hc9 ?_
   refine WC.exit ?_
   refine DN.exitThen ?_
   refine DN.exitThen ?_
   obtain rfl := Option.some.inj h
   have h := hk20
   refine DN.hit ?_
   obtain rfl := Option.some.inj h
   exact DN.meet _ ⟨K17, (s1 : (List Bool)), las1_0, lus1_0, rfl, S18.wk rfl, f19, rfl⟩ fun a ha => (ha.more (ha.more (ha.more ha.nil rfl) rfl) rfl)
  ·
   obtain ⟨o9, h, hk20⟩ := Option.bind_eq_some_iff.mp h; unfold s_l31Step_b0 at h
   have hc9 : decide (v9 < p0.Inputs) = true := decide_eq_true (by omega)
   refine WC.seq ?_
   refine WC.seq ?_
   refine WC.rs [(0, 2), (1, 2), (2, 1), (3, 2)] rfl ?_
   refine WO.pn 1 rfl ?_
   refine WO.k2 rfl rfl rfl rfl (rn_fieldAddr Try.runUnderlying27 rfl Try.sizeOf2 rfl rfl) ?_
   have f22 := f4.stp (S7.tr S18) rfl rfl
   refine WO.k1 trivial rfl rfl rfl rfl (rn_ld Try.isAgg2 rfl rfl (hvE (f22.ld 0 rfl rfl))) ?_
   refine WO.pn 1 rfl ?_
   refine WO.fin ?_
   refine DN.seq ?_
   refine WC.ct' rfl hc9 ?_
   refine WC.skip ?_
   refine DN.seq ?_
   refine WC.seq ?_
   refine WC.block ?_
   refine WC.rs [(0, 2), (1, 2), (2, 2), (3, 1), (4, 2), (5, 2), (6, 2), (7, 1), (8, 1), (9, 2)] rfl ?_
   refine WO.pn 3 rfl ?_
   obtain ⟨x22, hx22, h⟩ := Option.bind_eq_some_iff.mp h
   refine WO.call rfl rfl rfl rfl rfl rfl Try.call39 (s_l31Pow_ok (κ := fun b => mp [] 0 (K17 b)) hx22) ?_
   rintro _ w23 ⟨k24, rfl, e25⟩
   obtain ⟨K26, S27, m28⟩ := Ent.mixed (l := []) (κ := K17) e25 4 rfl
   refine ⟨trivial, ?_⟩
   obtain ⟨_z23, hz23, h⟩ := Option.bind_eq_some_iff.mp h
   refine WO.k2 rfl rfl rfl rfl (rn_quo rfl rfl rfl (nz_ok hz23)) ?_
   refine WO.k2 rfl rfl rfl rfl (rn_rem rfl rfl rfl (by decide)) ?_
   refine WO.pn 1 rfl ?_
   refine WO.bl (κ := K26) (E := Ep.bool) 6 [] (parts := [(0, .tmp 25)]) (cells := [.bool ((Int.tmod (IntKind.i64.wrap (Int.tdiv p2 x22)) 2) == 1)]) (xs := ([((Int.tmod (IntKind.i64.wrap (Int.tdiv p2 x22)) 2) == 1)] : List Bool)) rfl rfl rfl rfl rfl rfl Try.underlying77 Tryinfo4 rfl rfl rfl rfl rfl rfl rfl rfl rfl rfl ⟨[.bool ((Int.tmod (IntKind.i64.wrap (Int.tdiv p2 x22)) 2) == 1)], [], Zl K26 w23 [], Zl K26 w23 [], rfl, Zl.sp (l1 := []) (l2 := []) rfl, Zl.sr (l1 := []) (l2 := []), rfl, rfl⟩ fun a26 u26 w30 K31 S32 f33 => ⟨trivial, ?_⟩
   obtain ⟨x27, hx27, h⟩ := Option.bind_eq_some_iff.mp h
   have f34 := f19.stp (S27.tr S32) rfl rfl
   refine WO.app (κ := K31) (E := Ep.bool) 3 [] rfl rfl rfl rfl rfl rfl rfl rfl rfl Try.underlying77 Tryinfo4 rfl rfl rfl rfl f34 (Sl.srcP pu_bool f33.rdc) sy_false hx27 rfl fun a27 u27 w35 K36 S37 f38 => ⟨trivial, ?_⟩
   refine WO.pn 1 rfl ?_
   refine WO.fin ?_
   refine DN.block ?_
   refine DN.seq ?_
   refine WC.rs [(0, 2), (1, 2), (2, 2)] rfl ?_
   refine WO.pn 3 rfl ?_
   refine WO.fin ?_
   have hw9 : IntKind.wrap .i64 (v9 + 1) = v9 + 1 := wr1 hj9 (of_decide_eq_true hc9) hN9
   rw [hw9]
   have hc9 := of_decide_eq_true hc9
   obtain rfl := Option.some.inj h
   refine DN.round fun a ha => ?_
   exact ⟨k, _, Nat.lt_succ_self _, ⟨K36, v9 + 1, (x27 : (List Bool)), a27, u27, rfl, (S18.tr (S27.tr (S32.tr S37))).wk rfl, f38, by omega, by omega, hk20⟩, (ha.more (ha.more (ha.more (ha.more (ha.more ha.nil rfl) rfl) rfl) rfl) rfl)⟩
 rintro _ w12 ⟨K13, s3, las3_0, lus3_0, rfl, S14, f15, rfl⟩
 have h := hK10
 dsimp only [aft] at h
 refine DN.seq ?_
 refine WC.seq ?_
 refine WC.seq ?_
 refine WC.rs [(0, 2)] rfl ?_
 refine WO.pn 1 rfl ?_
 refine WO.fin ?_
 refine DN.seq ?_
 obtain ⟨_, hr39, h⟩ := Option.bind_eq_some_iff.mp h
 have hN39 := rng_ok hr39
 obtain ⟨q5, hq41, hK40⟩ := Option.bind_eq_some_iff.mp h
 clear h
 refine WC.meet (fun L w' => ∃ (κ' : Col) (s6 : (List Bool)) (las6_0 : Option Addr) (lus6_0 : Nat), L = [(3, .pointer (some ⟨b3, 0, none⟩)), (8, .slice las6_0 s6.length lus6_0)] ∧ Stp [3] K13 w12 κ' w' ∧ Oc Ep.bool 4 κ' w' 3 las6_0 lus6_0 s6 ∧ q5 = Sum.inr s6) ?_ ?_
 ·
  refine WC.block ?_
  refine WC.loop (fun k L w' => ∃ (κ' : Col) (v10 : Int) (s4 : (List Bool)) (las4_0 : Option Addr) (lus4_0 : Nat), L = [(1, .int .i64 p1), (3, .pointer (some ⟨b3, 0, none⟩)), (8, .slice las4_0 s4.length lus4_0), (10, .int .i64 v10)] ∧ Stp [3] K13 w12 κ' w' ∧ Oc Ep.bool 4 κ' w' 3 las4_0 lus4_0 s4 ∧ 0 ≤ v10 ∧ Int.toNat (p0.Latches - v10) = k ∧ cntM (s_l31Step_b2 p1) k v10 s4 = some q5) ⟨_, _, ⟨K13, 0, (s3 : (List Bool)), las3_0, lus3_0, rfl, (Stp.refl _ _).wk rfl, f15, (by decide), (by simp), hq41⟩, fun a ha => (ha.more (ha.more (ha.more (ha.more ha.nil rfl) rfl) rfl) rfl)⟩ ?_
  rintro k _ w46 ⟨K47, v10, s4, las4_0, lus4_0, rfl, S48, f49, hj39, hJ39, h⟩
  rcases k with _ | k
  ·
   have hk50 := h; obtain ⟨o39, h⟩ := ex_eq (Sum.inr (Sum.inl s4) : (Int × Int) ⊕ (((List Bool)) ⊕ ((List Bool))))
   have hc39 : decide (v10 < p0.Latches) = false := decide_eq_false (by omega)
   refine WC.seq ?_
   refine WC.seq ?_
   refine WC.rs [(0, 2), (1, 2), (2, 1), (3, 2)] rfl ?_
   refine WO.pn 1 rfl ?_
   refine WO.k2 rfl rfl rfl rfl (rn_fieldAddr Try.runUnderlying27 rfl Try.sizeOf2 rfl rfl) ?_
   have f51 := f4.stp (S7.tr (S14.tr S48)) rfl rfl
   refine WO.k1 trivial rfl rfl rfl rfl (rn_ld Try.isAgg2 rfl rfl (hvE (f51.ld 1 rfl rfl))) ?_
   refine WO.pn 1 rfl ?_
   refine WO.fin ?_
   refine DN.seq ?_
   refine WC.cf' rfl hc39 ?_
   refine WC.exit ?_
   refine DN.exitThen ?_
   refine DN.exitThen ?_
   obtain rfl := Option.some.inj h
   have h := hk50
   refine DN.hit ?_
   obtain rfl := Option.some.inj h
   exact DN.meet _ ⟨K47, (s4 : (List Bool)), las4_0, lus4_0, rfl, S48.wk rfl, f49, rfl⟩ fun a ha => (ha.more (ha.more ha.nil rfl) rfl)
  ·
   obtain ⟨o39, h, hk50⟩ := Option.bind_eq_some_iff.mp h; unfold s_l31Step_b2 at h
   have hc39 : decide (v10 < p0.Latches) = true := decide_eq_true (by omega)
   refine WC.seq ?_
   refine WC.seq ?_
   refine WC.rs [(0, 2), (1, 2), (2, 1), (3, 2)] rfl ?_
   refine WO.pn 1 rfl ?_
   refine WO.k2 rfl rfl rfl rfl (rn_fieldAddr Try.runUnderlying27 rfl Try.sizeOf2 rfl rfl) ?_
   have f52 := f4.stp (S7.tr (S14.tr S48)) rfl rfl
   refine WO.k1 trivial rfl rfl rfl rfl (rn_ld Try.isAgg2 rfl rfl (hvE (f52.ld 1 rfl rfl))) ?_
   refine WO.pn 1 rfl ?_
   refine WO.fin ?_
   refine DN.seq ?_
   refine WC.ct' rfl hc39 ?_
   refine WC.skip ?_
   refine DN.seq ?_
   refine WC.seq ?_
   refine WC.block ?_
   refine WC.rs [(0, 2), (1, 2), (2, 2), (3, 1), (4, 2), (5, 2), (6, 2), (7, 1), (8, 1), (9, 2)] rfl ?_
   refine WO.pn 3 rfl ?_
   obtain ⟨x37, hx37, h⟩ := Option.bind_eq_some_iff.mp h
   refine WO.call rfl rfl rfl rfl rfl rfl Try.call39 (s_l31Pow_ok (κ := fun b => mp [] 0 (K47 b)) hx37) ?_
   rintro _ w53 ⟨k54, rfl, e55⟩
   obtain ⟨K56, S57, m58⟩ := Ent.mixed (l := []) (κ := K47) e55 4 rfl
   refine ⟨trivial, ?_⟩
   obtain ⟨_z38, hz38, h⟩ := Option.bind_eq_some_iff.mp h
   refine WO.k2 rfl rfl rfl rfl (rn_quo rfl rfl rfl (nz_ok hz38)) ?_
   refine WO.k2 rfl rfl rfl rfl (rn_rem rfl rfl rfl (by decide)) ?_
   refine WO.pn 1 rfl ?_
   refine WO.bl (κ := K56) (E := Ep.bool) 6 [] (parts := [(0, .tmp 40)]) (cells := [.bool ((Int.tmod (IntKind.i64.wrap (Int.tdiv p1 x37)) 2) == 1)]) (xs := ([((Int.tmod (IntKind.i64.wrap (Int.tdiv p1 x37)) 2) == 1)] : List Bool)) rfl rfl rfl rfl rfl rfl Try.underlying77 Tryinfo4 rfl rfl rfl rfl rfl rfl rfl rfl rfl rfl ⟨[.bool ((Int.tmod (IntKind.i64.wrap (Int.tdiv p1 x37)) 2) == 1)], [], Zl K56 w53 [], Zl K56 w53 [], rfl, Zl.sp (l1 := []) (l2 := []) rfl, Zl.sr (l1 := []) (l2 := []), rfl, rfl⟩ fun a41 u41 w60 K61 S62 f63 => ⟨trivial, ?_⟩
   obtain ⟨x42, hx42, h⟩ := Option.bind_eq_some_iff.mp h
   have f64 := f49.stp (S57.tr S62) rfl rfl
   refine WO.app (κ := K61) (E := Ep.bool) 3 [] rfl rfl rfl rfl rfl rfl rfl rfl rfl Try.underlying77 Tryinfo4 rfl rfl rfl rfl f64 (Sl.srcP pu_bool f63.rdc) sy_false hx42 rfl fun a42 u42 w65 K66 S67 f68 => ⟨trivial, ?_⟩
   refine WO.pn 1 rfl ?_
   refine WO.fin ?_
   refine DN.block ?_
   refine DN.seq ?_
   refine WC.rs [(0, 2), (1, 2), (2, 2)] rfl ?_
   refine WO.pn 3 rfl ?_
   refine WO.fin ?_
   have hw39 : IntKind.wrap .i64 (v10 + 1) = v10 + 1 := wr1 hj39 (of_decide_eq_true hc39) hN39
   rw [hw39]
   have hc39 := of_decide_eq_true hc39
   obtain rfl := Option.some.inj h
   refine DN.round fun a ha => ?_
   exact ⟨k, _, Nat.lt_succ_self _, ⟨K66, v10 + 1, (x42 : (List Bool)), a42, u42, rfl, (S48.tr (S57.tr (S62.tr S67))).wk rfl, f68, by omega, by omega, hk50⟩, (ha.more (ha.more (ha.more (ha.more ha.nil rfl) rfl) rfl) rfl)⟩
 rintro _ w42 ⟨K43, s6, las6_0, lus6_0, rfl, S44, f45, rfl⟩
 have h := hK40
 dsimp only [aft] at h
 refine DN.seq ?_
 refine WC.seq ?_
 refine WC.seq ?_
 refine WC.rs [(0, 2)] rfl ?_
 refine WO.pn 1 rfl ?_
 refine WO.fin ?_
 refine DN.seq ?_
 have hN69 : (p0.Gates.length : Int) ≤ 9223372036854775807 := g0_3.len_le
 obtain ⟨q8, hq71, hK70⟩ := Option.bind_eq_some_iff.mp h
 clear h
 refine WC.meet (fun L w' => ∃ (κ' : Col) (s9 : (List Bool)) (las9_0 : Option Addr) (lus9_0 : Nat), L = [(3, .pointer (some ⟨b3, 0, none⟩)), (8, .slice las9_0 s9.length lus9_0)] ∧ Stp [3] K43 w42 κ' w' ∧ Oc Ep.bool 4 κ' w' 3 las9_0 lus9_0 s9 ∧ q8 = Sum.inr s9) ?_ ?_
 ·
  refine WC.block ?_
  refine WC.loop (fun k L w' => ∃ (κ' : Col) (v11 : Int) (s7 : (List Bool)) (las7_0 : Option Addr) (lus7_0 : Nat), L = [(3, .pointer (some ⟨b3, 0, none⟩)), (8, .slice las7_0 s7.length lus7_0), (11, .int .i64 v11)] ∧ Stp [3] K43 w42 κ' w' ∧ Oc Ep.bool 4 κ' w' 3 las7_0 lus7_0 s7 ∧ 0 ≤ v11 ∧ Int.toNat ((p0.Gates.length : Int) - v11) = k ∧ cntM (s_l31Step_b4 p0) k v11 s7 = some q8) ⟨_, _, ⟨K43, 0, (s6 : (List Bool)), las6_0, lus6_0, rfl, (Stp.refl _ _).wk rfl, f45, (by decide), (by simp), hq71⟩, fun a ha => (ha.more (ha.more (ha.more ha.nil rfl) rfl) rfl)⟩ ?_
  rintro k _ w76 ⟨K77, v11, s7, las7_0, lus7_0, rfl, S78, f79, hj69, hJ69, h⟩
  rcases k with _ | k
  ·
   have hk80 := h; obtain ⟨o69, h⟩ := ex_eq (Sum.inr (Sum.inl s7) : (Int × Int) ⊕ (((List Bool)) ⊕ ((List Bool))))
   have hc69 : decide (v11 < (p0.Gates.length : Int)) = false := decide_eq_false (by omega)
   refine WC.seq ?_
   refine WC.seq ?_
   refine WC.rs [(0, 2), (1, 2), (2, 1), (3, 2), (4, 2)] rfl ?_
   refine WO.pn 1 rfl ?_
   refine WO.k2 rfl rfl rfl rfl (rn_fieldAddr Try.runUnderlying27 rfl Try.sizeOf25 rfl rfl) ?_
   have f81 := f4.stp (S7.tr (S14.tr (S44.tr S78))) rfl rfl
   refine WO.k1 trivial rfl rfl rfl rfl (rn_ld Try.isAgg25 rfl rfl (hvE (f81.ld 3 rfl rfl))) ?_
   refine WO.k2 rfl rfl rfl rfl (rn_len Try.runUnderlying25 rfl rfl) ?_
   refine WO.pn 1 rfl ?_
   refine WO.fin ?_
   refine DN.seq ?_
   refine WC.cf' rfl hc69 ?_
   refine WC.exit ?_
   refine DN.exitThen ?_
   refine DN.exitThen ?_
   obtain rfl := Option.some.inj h
   have h := hk80
   refine DN.hit ?_
   obtain rfl := Option.some.inj h
   exact DN.meet _ ⟨K77, (s7 : (List Bool)), las7_0, lus7_0, rfl, S78.wk rfl, f79, rfl⟩ fun a ha => (ha.more (ha.more ha.nil rfl) rfl)
  ·
   obtain ⟨o69, h, hk80⟩ := Option.bind_eq_some_iff.mp h; unfold s_l31Step_b4 at h
   have hc69 : decide (v11 < (p0.Gates.length : Int)) = true := decide_eq_true (by omega)
   refine WC.seq ?_
   refine WC.seq ?_
   refine WC.rs [(0, 2), (1, 2), (2, 1), (3, 2), (4, 2)] rfl ?_
   refine WO.pn 1 rfl ?_
   refine WO.k2 rfl rfl rfl rfl (rn_fieldAddr Try.runUnderlying27 rfl Try.sizeOf25 rfl rfl) ?_
   have f82 := f4.stp (S7.tr (S14.tr (S44.tr S78))) rfl rfl
   refine WO.k1 trivial rfl rfl rfl rfl (rn_ld Try.isAgg25 rfl rfl (hvE (f82.ld 3 rfl rfl))) ?_
   refine WO.k2 rfl rfl rfl rfl (rn_len Try.runUnderlying25 rfl rfl) ?_
   refine WO.pn 1 rfl ?_
   refine WO.fin ?_
   refine DN.seq ?_
   refine WC.ct' rfl hc69 ?_
   refine WC.skip ?_
   refine DN.seq ?_
   refine WC.seq ?_
   refine WC.block ?_
   refine WC.rs [(0, 2), (1, 2), (2, 2), (3, 1), (4, 2), (5, 2), (6, 2), (7, 1), (8, 1), (9, 2), (10, 2), (11, 2), (12, 1), (13, 2), (14, 2), (15, 2), (16, 1), (17, 1), (18, 2), (19, 1), (20, 1), (21, 2)] rfl ?_
   refine WO.pn 2 rfl ?_
   refine WO.k2 rfl rfl rfl rfl (rn_fieldAddr Try.runUnderlying27 rfl Try.sizeOf25 rfl rfl) ?_
   refine WO.k1 trivial rfl rfl rfl rfl (rn_ld Try.isAgg25 rfl rfl (hvE (f82.ld 3 rfl rfl))) ?_
   refine WO.pn 1 rfl ?_
   obtain ⟨x55, hx55, h⟩ := Option.bind_eq_some_iff.mp h
   refine WO.k2 rfl rfl rfl rfl (rn_index g0_3 hx55 Try.runUnderlying25 Try.sizeOf33 rfl rfl rfl rfl) ?_
   refine WO.k2 rfl rfl rfl rfl (rn_fieldAddr Try.runUnderlying33 rfl Try.sizeOf2 rfl rfl) ?_
   have f83 := g0_3.stp (S3.tr (S7.tr (S14.tr (S44.tr S78)))) rfl rfl
   obtain ⟨cse84, hre84, hle84⟩ := (f83).gSt hx55
   obtain rfl := Gate.un hre84
   refine WO.k1 trivial rfl rfl rfl rfl (rn_ld Try.isAgg2 rfl rfl (hvE (fun w' hw' => hle84 w' hw' 0 _ rfl))) ?_
   obtain ⟨x58, hx58, h⟩ := Option.bind_eq_some_iff.mp h
   refine WO.call rfl rfl rfl rfl rfl rfl Try.call70 (s_l31True_ok (κ := fun b => mp [] 0 (K77 b)) (Sl.map f79.rdc (mp [] 0) rfl rfl) hx58) ?_
   rintro _ w85 ⟨k86, rfl, e87⟩
   obtain ⟨K88, S89, m90⟩ := Ent.mixed (l := []) (κ := K77) e87 4 rfl
   refine ⟨trivial, ?_⟩
   refine WO.pn 1 rfl ?_
   obtain ⟨p68, h, hK92⟩ := Option.bind_eq_some_iff.mp h
   refine WO.meet [(10, 2), (11, 2), (12, 1), (13, 2), (14, 2), (15, 2), (16, 1), (17, 1), (18, 2)] [(19, 1), (20, 1), (21, 2)] (fun L w' => L = [(3, .pointer (some ⟨b3, 0, none⟩)), (8, .slice las7_0 s7.length lus7_0), (11, .int .i64 v11), (50, .slice las7_0 s7.length lus7_0), (68, .bool p68)] ∧ ∃ κ', Stp [] K88 w85 κ' w') trivial ?_ ?_
   ·
    revert h
    cases ht93 : x58 with
    | true =>
     intro h; replace h := cT h
     refine WO.pn 1 rfl ?_
     refine WO.k2 rfl rfl rfl rfl (rn_fieldAddr Try.runUnderlying27 rfl Try.sizeOf25 rfl rfl) ?_
     have f94 := f82.stp S89 rfl rfl
     refine WO.k1 trivial rfl rfl rfl rfl (rn_ld Try.isAgg25 rfl rfl (hvE (f94.ld 3 rfl rfl))) ?_
     refine WO.pn 1 rfl ?_
     obtain ⟨x64, hx64, h⟩ := Option.bind_eq_some_iff.mp h
     refine WO.k2 rfl rfl rfl rfl (rn_index f83 hx64 Try.runUnderlying25 Try.sizeOf33 rfl rfl rfl rfl) ?_
     refine WO.k2 rfl rfl rfl rfl (rn_fieldAddr Try.runUnderlying33 rfl Try.sizeOf2 rfl rfl) ?_
     have f95 := f83.stp S89 rfl rfl
     obtain ⟨cse96, hre96, hle96⟩ := (f95).gSt hx64
     obtain rfl := Gate.un hre96
     refine WO.k1 trivial rfl rfl rfl rfl (rn_ld Try.isAgg2 rfl rfl (hvE (fun w' hw' => hle96 w' hw' 1 _ rfl))) ?_
     obtain ⟨x67, hx67, h⟩ := Option.bind_eq_some_iff.mp h
     have f97 := f79.stp S89 rfl rfl
     refine WO.call rfl rfl rfl rfl rfl rfl Try.call70 (s_l31True_ok (κ := fun b => mp [] 0 (K88 b)) (Sl.map f97.rdc (mp [] 0) rfl rfl) hx67) ?_
     rintro _ w98 ⟨k99, rfl, e100⟩
     obtain ⟨K101, S102, m103⟩ := Ent.mixed (l := []) (κ := K88) e100 6 rfl
     refine ⟨trivial, ?_⟩
     refine WO.pn 1 rfl ?_
     obtain rfl := Option.some.inj h
     exact WO.met _ trivial ⟨rfl, _, S102.wk rfl⟩ fun a ha => (ha.more (ha.more (ha.more (ha.more (ha.more ha.nil rfl) rfl) rfl) rfl) rfl)
    | false =>
     intro h; replace h := cF h
     refine WO.pn 2 rfl ?_
     refine WO.ls rfl rfl rfl rfl ?_
     refine WO.pn 3 rfl ?_
     refine WO.ls rfl rfl rfl rfl ?_
     refine WO.ls rfl rfl rfl rfl ?_
     refine WO.pn 1 rfl ?_
     obtain rfl := Option.some.inj h
     exact WO.met _ trivial ⟨rfl, _, (Stp.refl _ _).wk rfl⟩ fun a ha => (ha.more (ha.more (ha.more (ha.more (ha.more ha.nil rfl) rfl) rfl) rfl) rfl)
   rintro _ w105 _ ⟨rfl, K106, S107⟩
   have h := hK92
   refine WO.bl (κ := K106) (E := Ep.bool) 6 [] (parts := [(0, .tmp 68)]) (cells := [.bool p68]) (xs := ([p68] : List Bool)) rfl rfl rfl rfl rfl rfl Try.underlying77 Tryinfo4 rfl rfl rfl rfl rfl rfl rfl rfl rfl rfl ⟨[.bool p68], [], Zl K106 w105 [], Zl K106 w105 [], rfl, Zl.sp (l1 := []) (l2 := []) rfl, Zl.sr (l1 := []) (l2 := []), rfl, rfl⟩ fun a69 u69 w108 K109 S110 f111 => ⟨trivial, ?_⟩
   obtain ⟨x70, hx70, h⟩ := Option.bind_eq_some_iff.mp h
   have f112 := f79.stp (S89.tr (S107.tr S110)) rfl rfl
   refine WO.app (κ := K109) (E := Ep.bool) 3 [] rfl rfl rfl rfl rfl rfl rfl rfl rfl Try.underlying77 Tryinfo4 rfl rfl rfl rfl f112 (Sl.srcP pu_bool f111.rdc) sy_false hx70 rfl fun a70 u70 w113 K114 S115 f116 => ⟨trivial, ?_⟩
   refine WO.pn 1 rfl ?_
   refine WO.fin ?_
   refine DN.block ?_
   refine DN.seq ?_
   refine WC.rs [(0, 2), (1, 2), (2, 2)] rfl ?_
   refine WO.pn 3 rfl ?_
   refine WO.fin ?_
   have hw69 : IntKind.wrap .i64 (v11 + 1) = v11 + 1 := wr1 hj69 (of_decide_eq_true hc69) hN69
   rw [hw69]
   have hc69 := of_decide_eq_true hc69
   obtain rfl := Option.some.inj h
   refine DN.round fun a ha => ?_
   exact ⟨k, _, Nat.lt_succ_self _, ⟨K114, v11 + 1, (x70 : (List Bool)), a70, u70, rfl, (S78.tr (S89.tr (S107.tr (S110.tr S115)))).wk rfl, f116, by omega, by omega, hk80⟩, (ha.more (ha.more (ha.more ha.nil rfl) rfl) rfl)⟩
 rintro _ w72 ⟨K73, s9, las9_0, lus9_0, rfl, S74, f75, rfl⟩
 have h := hK70
 dsimp only [aft] at h
 refine DN.seq ?_
 refine WC.seq ?_
 refine WC.rx (κ := K73) [2] none [(0, 2), (1, 2), (4, 2), (5, 2), (2, 0), (6, 0), (3, 1), (7, 1), (8, 2), (9, 2)] [] (by kernel_rfl) (by kernel_rfl) fun w118 S117 => ?_
 refine WO.pn 1 rfl ?_
 refine WO.k2 rfl rfl rfl rfl (rn_fieldAddr Try.runUnderlying27 rfl Try.sizeOf24 rfl rfl) ?_
 refine WO.pn 1 rfl ?_
 refine WO.k2 rfl rfl rfl rfl (rn_fieldAddr Try.runUnderlying27 rfl Try.sizeOf24 rfl rfl) ?_
 have f119 := f4.stp (S7.tr (S14.tr (S44.tr (S74.tr S117)))) rfl rfl
 refine WO.k0 rfl rfl rfl rfl (rn_ld Try.isAgg24 rfl rfl (hvC (f119.ld 2 rfl rfl) rfl)) ?_
 refine WO.k0 rfl rfl rfl rfl (rn_ld Try.isAgg24 rfl rfl (hvC (f119.ld 4 rfl rfl) rfl)) ?_
 obtain ⟨x74, hx74, h⟩ := Option.bind_eq_some_iff.mp h
 have f120 := f75.stp S117 rfl rfl
 have f121 := g0_2.stp (S3.tr (S7.tr (S14.tr (S44.tr (S74.tr S117))))) rfl rfl
 refine WO.call rfl rfl rfl rfl rfl rfl Try.call71 (s_l31Number_ok (κ := fun b => mp [] 0 (K73 b)) (Sl.map f120.rdc (mp [] 0) rfl rfl) (Sl.map f121 (mp [] 0) rfl rfl) hx74) ?_
 rintro _ w122 ⟨k123, rfl, e124⟩
 obtain ⟨K125, S126, m127⟩ := Ent.mixed (l := []) (κ := K73) e124 4 rfl
 refine ⟨(S126.cl rfl), ?_⟩
 obtain ⟨x78, hx78, h⟩ := Option.bind_eq_some_iff.mp h
 have f129 := f120.stp S126 rfl rfl
 have f130 := g0_4.stp (S3.tr (S7.tr (S14.tr (S44.tr (S74.tr (S117.tr S126)))))) rfl rfl
 refine WO.call rfl rfl rfl rfl rfl rfl Try.call71 (s_l31Number_ok (κ := fun b => mp [] 0 (K125 b)) (Sl.map f129.rdc (mp [] 0) rfl rfl) (Sl.map f130 (mp [] 0) rfl rfl) hx78) ?_
 rintro _ w131 ⟨k132, rfl, e133⟩
 obtain ⟨K134, S135, m136⟩ := Ent.mixed (l := []) (κ := K125) e133 6 rfl
 refine ⟨((S126.tr S135).cl rfl), ?_⟩
 refine WO.pn 2 rfl ?_
 refine WO.nx ?_
 refine WO.fin ?_
 refine DN.seq ?_
 refine WC.ret ?_
 have f138 := hE.stp (S3.tr (S7.tr (S14.tr (S44.tr (S74.tr (S117.tr (S126.tr S135))))))) rfl rfl
 refine DN.res (l := [.tmp 6, .tmp 7]) Try.results40 (res_tmp rfl (res_tmp rfl rfl)) rfl ?_
 obtain rfl := Option.some.inj h
 exact ⟨K134, rfl, f138⟩

end Go.Proofs.Ythjkonkcdfdfaaa
