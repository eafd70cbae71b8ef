/- The walks, part 2. By program. -/
import Derived.Test.YtnpmbkaoeihdmaaDoorText
import Derived.Test.YtnpmbkaoeihdmaaDoorShelf
import Derived.Test.YtnpmbkaoeihdmaaDoorEqs
import Derived.Test.YtnpmbkaoeihdmaaDoorFnsF1
set_option linter.unusedVariables false
set_option linter.unusedSimpArgs false
namespace Go.Proofs.YtnpmbkaoeihdmaaDoor
open Go Go.Wk Go.Proofs
set_option maxRecDepth 100000
set_option maxHeartbeats 1000000

/- loop.example/g00869/spec.l1DrawAny -/
theorem s_l1DrawAny_ok {w : World} {κ : Col} {a0_0 : Option Addr} {u0_0 : Nat} {p0 : l1Cur} {b0 : Nat} (g0_0 : Rd (Rp.int .u8) κ w 0 a0_0 u0_0 p0.b) (gb0 : Bc κ w 2 b0 96 [.slice a0_0 p0.b.length u0_0, .int .i64 p0.i, .int .i64 p0.h]) {r : Arena × Int × Int} (h : s_l1DrawAny p0 = some r) : Ret Tryd.prog 81 [.pointer (some ⟨b0, 0, none⟩)] w (fun v w' => ∃ (κ' : Col) (ra0 : Option Addr) (ru0 : Nat) (ra1 : Option Addr) (ru1 : Nat), v = .agg #[.slice ra0 r.1.Owner.length ru0, .slice ra1 r.1.Next.length ru1] ∧ Ent κ w κ' w' ∧ Oc (Ep.int .i64) 2 κ' w' 3 ra0 ru0 r.1.Owner ∧ Oc (Ep.own (Ep.int .i64) 2) 60 κ' w' 4 ra1 ru1 r.1.Next ∧ Bc κ' w' 2 b0 96 [.slice a0_0 p0.b.length u0_0, .int .i64 r.2.1, .int .i64 r.2.2]) := by
 unfold s_l1DrawAny at h
 refine Ret.enter Tryd.func81 rfl Tryd.ntmps81 rfl ?_
 dsimp only [envOf]
 have hE := Ent.refl κ w
 refine WC.seq ?_
 refine WC.rs [(0, 1)] rfl ?_
 refine WO.alloc (κ := κ) 3 rfl rfl rfl rfl rfl Tryd.zeroValue64 rfl fun b2 w1 K2 S3 f4 => ⟨trivial, ?_⟩
 refine WO.fin ?_
 refine DN.seq ?_
 refine WC.seq ?_
 refine WC.rs [(0, 2), (1, 1), (2, 1), (3, 1)] rfl ?_
 refine WO.pn 1 rfl ?_
 obtain ⟨x7, hx7, h⟩ := Option.bind_eq_some_iff.mp h
 have f5 := g0_0.stp S3 rfl rfl
 have f6 := gb0.stp S3 rfl rfl
 refine WO.call rfl rfl rfl rfl rfl rfl Tryd.call92 (s_l1Draw_ok (κ := fun b => mp [(2, 2)] 0 (K2 b)) (p0 := p0) (Sl.map f5 (mp [(2, 2)] 0) rfl rfl) (f6.map (mp [(2, 2)] 0) rfl rfl) hx7) ?_
 rintro _ w7 ⟨k8, a7_0, u7_0, a7_1, u7_1, rfl, e9, f10, f11, f12⟩
 obtain ⟨K13, S14, m15⟩ := Ent.mixed (l := [(2, 2)]) (κ := K2) e9 4 rfl
 refine ⟨trivial, ?_⟩
 have f17 := f10.mx (no_int _) m15 rfl (rfl : 4 + 3 = 7)
 have f18 := f11.mx (no_own (no_int _) _) m15 rfl (rfl : 4 + 4 = 8)
 have f19 := f12.mx m15 rfl (rfl : 4 + 2 = 6)
 refine WO.alloc (κ := K13) 9 rfl rfl rfl rfl rfl Tryd.zeroValue64 rfl fun b3 w20 K21 S22 f23 => ⟨trivial, ?_⟩
 refine WO.stB0 (κ := K21) 9 (vc := [.slice a7_0 x7.1.Owner.length u7_0, .slice a7_1 x7.1.Next.length u7_1]) rfl rfl rfl rfl rfl rfl rfl Tryd.sizeOf64 rfl rfl f23 rfl fun w24 S25 f26 => ⟨trivial, ?_⟩
 refine WO.fin ?_
 refine DN.seq ?_
 refine WC.seq ?_
 refine WC.seq ?_
 refine WC.rs [(0, 2), (1, 1)] rfl ?_
 refine WO.pn 1 rfl ?_
 obtain ⟨x9, hx9, h⟩ := Option.bind_eq_some_iff.mp h
 have f27 := f5.stp (S14.tr (S22.tr S25)) rfl rfl
 have f28 := f19.stp (S22.tr S25) rfl rfl
 refine WO.call rfl rfl rfl rfl rfl rfl Tryd.call34 (s_l1Once_ok (κ := fun b => mp [(6, 2)] 0 (K21 b)) (p0 := (⟨p0.b, x7.2.1, x7.2.2⟩ : l1Cur)) (Sl.map f27 (mp [(6, 2)] 0) rfl rfl) (f28.map (mp [(6, 2)] 0) rfl rfl) hx9) ?_
 rintro _ w29 ⟨k30, rfl, e31, f32⟩
 obtain ⟨K33, S34, m35⟩ := Ent.mixed (l := [(6, 2)]) (κ := K21) e31 10 rfl
 refine ⟨trivial, ?_⟩
 have f37 := f32.mx m35 rfl (rfl : 10 + 2 = 12)
 refine WO.fin ?_
 refine DN.seq ?_
 obtain ⟨q1, h, hK38⟩ := Option.bind_eq_some_iff.mp h
 refine WC.meet (fun L w' => ∃ (κ' : Col) (laq1_0 : Option Addr) (luq1_0 : Nat) (laq1_1 : Option Addr) (luq1_1 : Nat), L = [(0, .pointer (some ⟨b0, 0, none⟩)), (2, .pointer (some ⟨b2, 0, none⟩)), (3, .pointer (some ⟨b3, 0, none⟩))] ∧ Stp [7, 8, 9, 12, 15, 18, 19, 20, 21, 23, 25, 26] K33 w29 κ' w' ∧ Oc (Ep.int .i64) 2 κ' w' 7 laq1_0 luq1_0 q1.2.2.1 ∧ Oc (Ep.own (Ep.int .i64) 2) 60 κ' w' 8 laq1_1 luq1_1 q1.2.2.2 ∧ Bc κ' w' 12 b0 96 [.slice a0_0 p0.b.length u0_0, .int .i64 q1.1, .int .i64 q1.2.1] ∧ Bc κ' w' 9 b3 64 [.slice laq1_0 q1.2.2.1.length luq1_0, .slice laq1_1 q1.2.2.2.length luq1_1]) ?_ ?_
 ·
  revert h
  cases ht46 : x9.1 with
  | true =>
   intro h; replace h := cT h
   refine WC.ct rfl ?_
   refine WC.seq ?_
   refine WC.rs [(0, 2), (1, 2), (2, 1), (3, 2), (4, 1), (5, 2)] rfl ?_
   refine WO.pn 1 rfl ?_
   refine WO.k2 rfl rfl rfl rfl (rn_fieldAddr Tryd.runUnderlying64 rfl Tryd.sizeOf60 rfl rfl) ?_
   have f47 := f26.stp S34 rfl rfl
   refine WO.k1 trivial rfl rfl rfl rfl (rn_ld Tryd.isAgg60 rfl rfl (hvE (f47.ld 0 rfl rfl))) ?_
   refine WO.k2 rfl rfl rfl rfl (rn_len Tryd.runUnderlying60 rfl rfl) ?_
   obtain ⟨x14, hx14, h⟩ := Option.bind_eq_some_iff.mp h
   have f48 := f27.stp S34 rfl rfl
   refine WO.call rfl rfl rfl rfl rfl rfl Tryd.call35 (s_l1Below_ok (κ := fun b => mp [(12, 2)] 0 (K33 b)) (p0 := (⟨p0.b, x9.2.1, x9.2.2⟩ : l1Cur)) (Sl.map f48 (mp [(12, 2)] 0) rfl rfl) (f37.map (mp [(12, 2)] 0) rfl rfl) hx14) ?_
   rintro _ w49 ⟨k50, rfl, e51, f52⟩
   obtain ⟨K53, S54, m55⟩ := Ent.mixed (l := [(12, 2)]) (κ := K33) e51 13 rfl
   refine ⟨trivial, ?_⟩
   have f57 := f52.mx m55 rfl (rfl : 13 + 2 = 15)
   refine WO.pn 1 rfl ?_
   refine WO.fin ?_
   refine DN.seq ?_
   refine WC.seq ?_
   refine WC.rs [(0, 2), (1, 1)] rfl ?_
   refine WO.pn 1 rfl ?_
   obtain ⟨x16, hx16, h⟩ := Option.bind_eq_some_iff.mp h
   have f58 := f48.stp S54 rfl rfl
   refine WO.call rfl rfl rfl rfl rfl rfl Tryd.call35 (s_l1Below_ok (κ := fun b => mp [(15, 2)] 0 (K53 b)) (p0 := (⟨p0.b, x14.2.1, x14.2.2⟩ : l1Cur)) (Sl.map f58 (mp [(15, 2)] 0) rfl rfl) (f57.map (mp [(15, 2)] 0) rfl rfl) hx16) ?_
   rintro _ w59 ⟨k60, rfl, e61, f62⟩
   obtain ⟨K63, S64, m65⟩ := Ent.mixed (l := [(15, 2)]) (κ := K53) e61 16 rfl
   refine ⟨trivial, ?_⟩
   have f67 := f62.mx m65 rfl (rfl : 16 + 2 = 18)
   refine WO.fin ?_
   refine DN.seq ?_
   refine WC.block ?_
   refine WC.seq ?_
   refine WC.rs [(0, 2), (1, 2)] rfl ?_
   refine WO.pn 2 rfl ?_
   refine WO.fin ?_
   refine DN.seq ?_
   obtain ⟨q2, h, hK68⟩ := Option.bind_eq_some_iff.mp h
   refine WC.meet (fun L w' => ∃ (κ' : Col) (laq2_0 : Option Addr) (luq2_0 : Nat) (laq2_1 : Option Addr) (luq2_1 : Nat), L = [(0, .pointer (some ⟨b0, 0, none⟩)), (2, .pointer (some ⟨b2, 0, none⟩)), (3, .pointer (some ⟨b3, 0, none⟩))] ∧ Stp [7, 8, 9, 18, 19, 20, 21, 23, 25, 26] K63 w59 κ' w' ∧ Oc (Ep.int .i64) 2 κ' w' 7 laq2_0 luq2_0 q2.2.2.1 ∧ Oc (Ep.own (Ep.int .i64) 2) 60 κ' w' 8 laq2_1 luq2_1 q2.2.2.2 ∧ Bc κ' w' 18 b0 96 [.slice a0_0 p0.b.length u0_0, .int .i64 q2.1, .int .i64 q2.2.1] ∧ Bc κ' w' 9 b3 64 [.slice laq2_0 q2.2.2.1.length luq2_0, .slice laq2_1 q2.2.2.2.length luq2_1]) ?_ ?_
   ·
    revert h
    cases ht76 : (x16.1 == 0) with
    | true =>
     intro h; replace h := cT h
     refine WC.ct rfl ?_
     refine WC.rx (κ := K63) [9] none [(0, 2), (2, 2), (3, 2), (1, 0), (4, 1), (5, 2), (6, 1)] [] (by kernel_rfl) (by kernel_rfl) fun w78 S77 => ?_
     refine WO.k2 rfl rfl rfl rfl (rn_fieldAddr Tryd.runUnderlying64 rfl Tryd.sizeOf60 rfl rfl) ?_
     refine WO.pn 2 rfl ?_
     have f79 := f47.stp (S54.tr (S64.tr S77)) rfl rfl
     refine WO.k0 rfl rfl rfl rfl (rn_ld Tryd.isAgg60 rfl rfl (hvC (f79.ld 0 rfl rfl) rfl)) ?_
     obtain ⟨x23, hx23, h⟩ := Option.bind_eq_some_iff.mp h
     have f80 := f58.stp (S64.tr S77) rfl rfl
     have f81 := f67.stp S77 rfl rfl
     refine WO.call rfl rfl rfl rfl rfl rfl Tryd.call82 (s_l1From_ok (κ := fun b => mp [(18, 2)] 0 (K63 b)) (p0 := (⟨p0.b, x16.2.1, x16.2.2⟩ : l1Cur)) (Sl.map f80 (mp [(18, 2)] 0) rfl rfl) (f81.map (mp [(18, 2)] 0) rfl rfl) hx23) ?_
     rintro _ w82 ⟨k83, rfl, e84, f85⟩
     obtain ⟨K86, S87, m88⟩ := Ent.mixed (l := [(18, 2)]) (κ := K63) e84 19 rfl
     refine ⟨(S87.cl rfl), ?_⟩
     have f90 := f85.mx m88 rfl (rfl : 19 + 2 = 21)
     obtain ⟨x24, hx24, h⟩ := Option.bind_eq_some_iff.mp h
     refine WO.k2 rfl rfl rfl rfl (rn_index f17.rdc hx24 Tryd.runUnderlying60 Tryd.sizeOf2 rfl rfl rfl rfl) ?_
     have f91 := f17.stp (S22.tr (S25.tr (S34.tr (S54.tr (S64.tr (S77.tr S87)))))) rfl rfl
     obtain ⟨y10, hy10, h⟩ := Option.bind_eq_some_iff.mp h
     refine WO.stI (κ := K86) (E := (Ep.int .i64)) 7 [] rfl rfl rfl rfl rfl rfl rfl rfl Tryd.sizeOf2 rfl rfl rfl rfl f91 hy10 fun w92 K93 S94 f95 => ⟨((S87.tr S94).cl rfl), ?_⟩
     have hn96 : x7.1.Owner.length = y10.length := (setI_ok hy10).2.2.2.symm
     refine WO.nx ?_
     refine WO.fin ?_
     have f97 := f18.stp (S22.tr (S25.tr (S34.tr (S54.tr (S64.tr (S77.tr (S87.tr S94))))))) rfl rfl
     have f98 := f90.stp S94 rfl rfl
     have f99 := f79.stp (S87.tr S94) rfl rfl
     obtain rfl := Option.some.inj h
     exact DN.meet _ ⟨(fun b => ren [(21, 18)] (K93 b)), a7_0, u7_0, a7_1, u7_1, rfl, (Stp.ren ((S77.tr (S87.tr S94)).wk rfl) [(21, 18)] rfl), (f95.map (ren [(21, 18)]) rfl rfl), (f97.map (ren [(21, 18)]) rfl rfl), (f98.map (ren [(21, 18)]) rfl rfl), (Bc.cast (f99.map (ren [(21, 18)]) rfl rfl) (by simp only [hn96]))⟩ fun a ha => (ha.more (ha.more (ha.more ha.nil rfl) rfl) rfl)
    | false =>
     intro h; replace h := cF h
     refine WC.cf rfl ?_
     refine WC.seq ?_
     refine WC.rs [(0, 2), (1, 2)] rfl ?_
     refine WO.pn 2 rfl ?_
     refine WO.fin ?_
     refine DN.seq ?_
     obtain ⟨q3, h, hK100⟩ := Option.bind_eq_some_iff.mp h
     refine WC.meet (fun L w' => ∃ (κ' : Col) (laq3_0 : Option Addr) (luq3_0 : Nat) (laq3_1 : Option Addr) (luq3_1 : Nat), L = [(0, .pointer (some ⟨b0, 0, none⟩)), (2, .pointer (some ⟨b2, 0, none⟩)), (3, .pointer (some ⟨b3, 0, none⟩))] ∧ Stp [7, 8, 9, 18, 19, 20, 21, 23, 25, 26] K63 w59 κ' w' ∧ Oc (Ep.int .i64) 2 κ' w' 7 laq3_0 luq3_0 q3.2.2.1 ∧ Oc (Ep.own (Ep.int .i64) 2) 60 κ' w' 8 laq3_1 luq3_1 q3.2.2.2 ∧ Bc κ' w' 18 b0 96 [.slice a0_0 p0.b.length u0_0, .int .i64 q3.1, .int .i64 q3.2.1] ∧ Bc κ' w' 9 b3 64 [.slice laq3_0 q3.2.2.1.length luq3_0, .slice laq3_1 q3.2.2.2.length luq3_1]) ?_ ?_
     ·
      revert h
      cases ht108 : (x16.1 == 1) with
      | true =>
       intro h; replace h := cT h
       refine WC.ct rfl ?_
       obtain ⟨x33, hx33, h⟩ := Option.bind_eq_some_iff.mp h
       obtain ⟨x36, hx36, h⟩ := Option.bind_eq_some_iff.mp h
       obtain ⟨x38, hx38, h⟩ := Option.bind_eq_some_iff.mp h
       obtain ⟨x39, hx39, h⟩ := Option.bind_eq_some_iff.mp h
       obtain ⟨y12, hy12, h⟩ := Option.bind_eq_some_iff.mp h
       refine WC.meet (fun L w' => ∃ (κ' : Col), L = [(0, .pointer (some ⟨b0, 0, none⟩)), (2, .pointer (some ⟨b2, 0, none⟩)), (3, .pointer (some ⟨b3, 0, none⟩))] ∧ Stp [8, 18, 21, 23] K63 w59 κ' w' ∧ Oc (Ep.own (Ep.int .i64) 2) 60 κ' w' 8 a7_1 u7_1 y12 ∧ x7.1.Next.length = y12.length ∧ Bc κ' w' 18 b0 96 [.slice a0_0 p0.b.length u0_0, .int .i64 x36.2.1, .int .i64 x36.2.2]) ?_ ?_
       ·
        refine WC.rxt (κ := K63) [0, 8, 9] (some 11) (by kernel_rfl) fun w116 S117 => ?_
        refine WA.seg (fuel := 6) [(0, 2), (2, 2), (3, 2), (5, 2), (8, 2), (4, 0), (6, 2), (7, 0)] (by kernel_rfl) (by kernel_rfl) rfl ?_
        refine WO.k2 rfl rfl rfl rfl (rn_fieldAddr Tryd.runUnderlying64 rfl Tryd.sizeOf35 rfl rfl) ?_
        refine WO.pn 1 rfl ?_
        refine WO.k2 rfl rfl rfl rfl (rn_fieldAddr Tryd.runUnderlying64 rfl Tryd.sizeOf35 rfl rfl) ?_
        refine WO.pn 2 rfl ?_
        have f118 := f47.stp (S54.tr (S64.tr S117)) rfl rfl
        refine WO.k0 rfl rfl rfl rfl (rn_ld Tryd.isAgg35 rfl rfl (hvC (f118.ld 1 rfl rfl) rfl)) ?_
        refine WO.k2 rfl rfl rfl rfl (rn_index f18.rdc hx33 Tryd.runUnderlying35 Tryd.sizeOf60 rfl rfl rfl rfl) ?_
        have f119 := f18.stp (S22.tr (S25.tr (S34.tr (S54.tr (S64.tr S117))))) rfl rfl
        obtain ⟨ax33, ux33, f120, hl121⟩ := f119.rdc.gSl hx33
        refine WO.k0 rfl rfl rfl rfl (rn_ld Tryd.isAgg60 rfl rfl (hvC hl121 rfl)) ?_
        refine WO.wa ?_
        refine WA.fork2 (fuel := 5) 1 9 (by kernel_rfl) rfl ?_ ?_
        ·
         refine WO.k1 (Cl.refl _ _ _) rfl rfl rfl rfl (rn_ld Tryd.isAgg35 rfl rfl (hvE (f118.ld 1 rfl rfl))) ?_
         refine WO.wa ?_
         refine WA.seg (fuel := 3) [(9, 1), (10, 1)] (by kernel_rfl) (by kernel_rfl) rfl ?_
         have f122 := f58.stp (S64.tr S117) rfl rfl
         have f123 := f67.stp S117 rfl rfl
         refine WO.call rfl rfl rfl rfl rfl rfl Tryd.call80 (s_l1Num_ok (κ := fun b => mp [(18, 2)] 0 (K63 b)) (p0 := (⟨p0.b, x16.2.1, x16.2.2⟩ : l1Cur)) (Sl.map f122 (mp [(18, 2)] 0) rfl rfl) (f123.map (mp [(18, 2)] 0) rfl rfl) hx36) ?_
         rintro _ w124 ⟨k125, rfl, e126, f127⟩
         obtain ⟨K128, S129, m130⟩ := Ent.mixed (l := [(18, 2)]) (κ := K63) e126 19 rfl
         refine ⟨(S129.cl rfl), ?_⟩
         have f132 := f127.mx m130 rfl (rfl : 19 + 2 = 21)
         refine WO.bl (κ := K128) (E := (Ep.int .i64)) 22 [] (parts := [(0, .tmp 36)]) (cells := [.int .i64 x36.1]) (xs := ([x36.1] : List Int)) rfl rfl rfl rfl rfl rfl Tryd.underlying60 Trydinfo2 rfl rfl rfl rfl rfl rfl rfl rfl rfl rfl ⟨[.int .i64 x36.1], [], Zl K128 w124 [], Zl K128 w124 [], rfl, Zl.sp (l1 := []) (l2 := []) rfl, Zl.sr (l1 := []) (l2 := []), rfl, rfl⟩ fun a37 u37 w133 K134 S135 f136 => ⟨((S129.tr S135).cl rfl), ?_⟩
         refine WO.wa ?_
         refine WA.brk (fuel := 2) 11 (by kernel_rfl) rfl (by kernel_rfl) ?_
         have f137 := f119.stp (S129.tr S135) rfl rfl
         obtain ⟨K138, S139, f140, f141⟩ := f137.borrow hx33 (hl121 _ (Stp.ag (S129.tr S135) rfl)) 23 rfl rfl
         have f142 := f136.stp S139 rfl rfl
         refine WO.app (κ := K138) (E := (Ep.int .i64)) 23 [] rfl rfl rfl rfl rfl rfl rfl rfl rfl Tryd.underlying60 Trydinfo2 rfl rfl rfl rfl f140 (Sl.srcP (pu_int _) f142.rdc) sy_false hx38 rfl fun a38 u38 w143 K144 S145 f146 => ⟨trivial, ?_⟩
         refine WO.wa ?_
         refine WA.seg (fuel := 0) [(12, 2), (13, 1)] (by kernel_rfl) (by kernel_rfl) rfl ?_
         refine WO.k2 rfl rfl rfl rfl (rn_index f137.rdc hx39 Tryd.runUnderlying35 Tryd.sizeOf60 rfl rfl rfl rfl) ?_
         have f147 := f141.stp S145 rfl rfl
         refine WO.stH (κ := K144) (E := (Ep.own (Ep.int .i64) 2)) 8 [23] rfl rfl rfl rfl rfl rfl rfl rfl Tryd.sizeOf60 rfl ⟨_, _, rfl, f146⟩ rfl rfl f147 hy12 fun w148 K149 S150 f151 => ⟨trivial, ?_⟩
         have hn152 : x7.1.Next.length = y12.length := (setI_ok hy12).2.2.2.symm
         refine WO.wa ?_
         refine WA.last [] (by kernel_rfl) (by kernel_rfl) rfl ?_
         refine WO.fin ?_
         have f153 := f132.stp (S135.tr (S139.tr (S145.tr S150))) rfl rfl
         exact DN.meet _ ⟨(fun b => ren [(21, 18)] (K149 b)), rfl, (Stp.ren ((S117.tr (S129.tr (S135.tr (S139.tr (S145.tr S150))))).wk rfl) [(21, 18)] rfl), (f151.map (ren [(21, 18)]) rfl rfl), hn152, (f153.map (ren [(21, 18)]) rfl rfl)⟩ fun a ha => (ha.more (ha.more (ha.more ha.nil rfl) rfl) rfl)
        ·
         have f154 := f58.stp (S64.tr S117) rfl rfl
         have f155 := f67.stp S117 rfl rfl
         refine WO.call rfl rfl rfl rfl rfl rfl Tryd.call80 (s_l1Num_ok (κ := fun b => mp [(18, 2)] 0 (K63 b)) (p0 := (⟨p0.b, x16.2.1, x16.2.2⟩ : l1Cur)) (Sl.map f154 (mp [(18, 2)] 0) rfl rfl) (f155.map (mp [(18, 2)] 0) rfl rfl) hx36) ?_
         rintro _ w156 ⟨k157, rfl, e158, f159⟩
         obtain ⟨K160, S161, m162⟩ := Ent.mixed (l := [(18, 2)]) (κ := K63) e158 19 rfl
         refine ⟨(S161.cl rfl), ?_⟩
         have f164 := f159.mx m162 rfl (rfl : 19 + 2 = 21)
         refine WO.wa ?_
         refine WA.fork2 (fuel := 4) 1 10 (by kernel_rfl) rfl ?_ ?_
         ·
          have f165 := f118.stp S161 rfl rfl
          refine WO.k1 (S161.cl rfl) rfl rfl rfl rfl (rn_ld Tryd.isAgg35 rfl rfl (hvE (f165.ld 1 rfl rfl))) ?_
          refine WO.wa ?_
          refine WA.seg (fuel := 3) [(10, 1)] (by kernel_rfl) (by kernel_rfl) rfl ?_
          refine WO.bl (κ := K160) (E := (Ep.int .i64)) 22 [] (parts := [(0, .tmp 36)]) (cells := [.int .i64 x36.1]) (xs := ([x36.1] : List Int)) rfl rfl rfl rfl rfl rfl Tryd.underlying60 Trydinfo2 rfl rfl rfl rfl rfl rfl rfl rfl rfl rfl ⟨[.int .i64 x36.1], [], Zl K160 w156 [], Zl K160 w156 [], rfl, Zl.sp (l1 := []) (l2 := []) rfl, Zl.sr (l1 := []) (l2 := []), rfl, rfl⟩ fun a37 u37 w166 K167 S168 f169 => ⟨((S161.tr S168).cl rfl), ?_⟩
          refine WO.wa ?_
          refine WA.brk (fuel := 2) 11 (by kernel_rfl) rfl (by kernel_rfl) ?_
          have f170 := f119.stp (S161.tr S168) rfl rfl
          obtain ⟨K171, S172, f173, f174⟩ := f170.borrow hx33 (hl121 _ (Stp.ag (S161.tr S168) rfl)) 23 rfl rfl
          have f175 := f169.stp S172 rfl rfl
          refine WO.app (κ := K171) (E := (Ep.int .i64)) 23 [] rfl rfl rfl rfl rfl rfl rfl rfl rfl Tryd.underlying60 Trydinfo2 rfl rfl rfl rfl f173 (Sl.srcP (pu_int _) f175.rdc) sy_false hx38 rfl fun a38 u38 w176 K177 S178 f179 => ⟨trivial, ?_⟩
          refine WO.wa ?_
          refine WA.seg (fuel := 0) [(12, 2), (13, 1)] (by kernel_rfl) (by kernel_rfl) rfl ?_
          refine WO.k2 rfl rfl rfl rfl (rn_index f170.rdc hx39 Tryd.runUnderlying35 Tryd.sizeOf60 rfl rfl rfl rfl) ?_
          have f180 := f174.stp S178 rfl rfl
          refine WO.stH (κ := K177) (E := (Ep.own (Ep.int .i64) 2)) 8 [23] rfl rfl rfl rfl rfl rfl rfl rfl Tryd.sizeOf60 rfl ⟨_, _, rfl, f179⟩ rfl rfl f180 hy12 fun w181 K182 S183 f184 => ⟨trivial, ?_⟩
          have hn185 : x7.1.Next.length = y12.length := (setI_ok hy12).2.2.2.symm
          refine WO.wa ?_
          refine WA.last [] (by kernel_rfl) (by kernel_rfl) rfl ?_
          refine WO.fin ?_
          have f186 := f164.stp (S168.tr (S172.tr (S178.tr S183))) rfl rfl
          exact DN.meet _ ⟨(fun b => ren [(21, 18)] (K182 b)), rfl, (Stp.ren ((S117.tr (S161.tr (S168.tr (S172.tr (S178.tr S183))))).wk rfl) [(21, 18)] rfl), (f184.map (ren [(21, 18)]) rfl rfl), hn185, (f186.map (ren [(21, 18)]) rfl rfl)⟩ fun a ha => (ha.more (ha.more (ha.more ha.nil rfl) rfl) rfl)
         ·
          refine WO.bl (κ := K160) (E := (Ep.int .i64)) 22 [] (parts := [(0, .tmp 36)]) (cells := [.int .i64 x36.1]) (xs := ([x36.1] : List Int)) rfl rfl rfl rfl rfl rfl Tryd.underlying60 Trydinfo2 rfl rfl rfl rfl rfl rfl rfl rfl rfl rfl ⟨[.int .i64 x36.1], [], Zl K160 w156 [], Zl K160 w156 [], rfl, Zl.sp (l1 := []) (l2 := []) rfl, Zl.sr (l1 := []) (l2 := []), rfl, rfl⟩ fun a37 u37 w187 K188 S189 f190 => ⟨((S161.tr S189).cl rfl), ?_⟩
          refine WO.wa ?_
          refine WA.forkB2r (fuel := 3) 1 11 (by kernel_rfl) rfl (by kernel_rfl) ?_ ?_
          ·
           have f191 := f118.stp (S161.tr S189) rfl rfl
           refine WO.k1 ((S161.tr S189).cl rfl) rfl rfl rfl rfl (rn_ld Tryd.isAgg35 rfl rfl (hvE (f191.ld 1 rfl rfl))) ?_
           refine WO.wa ?_
           refine WA.brk (fuel := 2) 11 (by kernel_rfl) rfl (by kernel_rfl) ?_
           have f192 := f119.stp (S161.tr S189) rfl rfl
           obtain ⟨K193, S194, f195, f196⟩ := f192.borrow hx33 (hl121 _ (Stp.ag (S161.tr S189) rfl)) 23 rfl rfl
           have f197 := f190.stp S194 rfl rfl
           refine WO.app (κ := K193) (E := (Ep.int .i64)) 23 [] rfl rfl rfl rfl rfl rfl rfl rfl rfl Tryd.underlying60 Trydinfo2 rfl rfl rfl rfl f195 (Sl.srcP (pu_int _) f197.rdc) sy_false hx38 rfl fun a38 u38 w198 K199 S200 f201 => ⟨trivial, ?_⟩
           refine WO.wa ?_
           refine WA.seg (fuel := 0) [(12, 2), (13, 1)] (by kernel_rfl) (by kernel_rfl) rfl ?_
           refine WO.k2 rfl rfl rfl rfl (rn_index f192.rdc hx39 Tryd.runUnderlying35 Tryd.sizeOf60 rfl rfl rfl rfl) ?_
           have f202 := f196.stp S200 rfl rfl
           refine WO.stH (κ := K199) (E := (Ep.own (Ep.int .i64) 2)) 8 [23] rfl rfl rfl rfl rfl rfl rfl rfl Tryd.sizeOf60 rfl ⟨_, _, rfl, f201⟩ rfl rfl f202 hy12 fun w203 K204 S205 f206 => ⟨trivial, ?_⟩
           have hn207 : x7.1.Next.length = y12.length := (setI_ok hy12).2.2.2.symm
           refine WO.wa ?_
           refine WA.last [] (by kernel_rfl) (by kernel_rfl) rfl ?_
           refine WO.fin ?_
           have f208 := f164.stp (S189.tr (S194.tr (S200.tr S205))) rfl rfl
           exact DN.meet _ ⟨(fun b => ren [(21, 18)] (K204 b)), rfl, (Stp.ren ((S117.tr (S161.tr (S189.tr (S194.tr (S200.tr S205))))).wk rfl) [(21, 18)] rfl), (f206.map (ren [(21, 18)]) rfl rfl), hn207, (f208.map (ren [(21, 18)]) rfl rfl)⟩ fun a ha => (ha.more (ha.more (ha.more ha.nil rfl) rfl) rfl)
          ·
           have f209 := f119.stp (S161.tr S189) rfl rfl
           obtain ⟨K210, S211, f212, f213⟩ := f209.borrow hx33 (hl121 _ (Stp.ag (S161.tr S189) rfl)) 23 rfl rfl
           have f214 := f190.stp S211 rfl rfl
           refine WO.app (κ := K210) (E := (Ep.int .i64)) 23 [] rfl rfl rfl rfl rfl rfl rfl rfl rfl Tryd.underlying60 Trydinfo2 rfl rfl rfl rfl f212 (Sl.srcP (pu_int _) f214.rdc) sy_false hx38 rfl fun a38 u38 w215 K216 S217 f218 => ⟨trivial, ?_⟩
           refine WO.wa ?_
           refine WA.seg (fuel := 0) [(1, 1), (12, 2), (13, 1)] (by kernel_rfl) (by kernel_rfl) rfl ?_
           have f219 := f118.stp (S161.tr (S189.tr (S211.tr S217))) rfl rfl
           refine WO.k1 trivial rfl rfl rfl rfl (rn_ld Tryd.isAgg35 rfl rfl (hvE (f219.ld 1 rfl rfl))) ?_
           refine WO.k2 rfl rfl rfl rfl (rn_index f209.rdc hx39 Tryd.runUnderlying35 Tryd.sizeOf60 rfl rfl rfl rfl) ?_
           have f220 := f213.stp S217 rfl rfl
           refine WO.stH (κ := K216) (E := (Ep.own (Ep.int .i64) 2)) 8 [23] rfl rfl rfl rfl rfl rfl rfl rfl Tryd.sizeOf60 rfl ⟨_, _, rfl, f218⟩ rfl rfl f220 hy12 fun w221 K222 S223 f224 => ⟨trivial, ?_⟩
           have hn225 : x7.1.Next.length = y12.length := (setI_ok hy12).2.2.2.symm
           refine WO.wa ?_
           refine WA.last [] (by kernel_rfl) (by kernel_rfl) rfl ?_
           refine WO.fin ?_
           have f226 := f164.stp (S189.tr (S211.tr (S217.tr S223))) rfl rfl
           exact DN.meet _ ⟨(fun b => ren [(21, 18)] (K222 b)), rfl, (Stp.ren ((S117.tr (S161.tr (S189.tr (S211.tr (S217.tr S223))))).wk rfl) [(21, 18)] rfl), (f224.map (ren [(21, 18)]) rfl rfl), hn225, (f226.map (ren [(21, 18)]) rfl rfl)⟩ fun a ha => (ha.more (ha.more (ha.more ha.nil rfl) rfl) rfl)
       rintro _ w109 ⟨K110, rfl, S111, f113, hn114, f115⟩
       have f227 := f17.stp (S22.tr (S25.tr (S34.tr (S54.tr (S64.tr S111))))) rfl rfl
       have f228 := f47.stp (S54.tr (S64.tr S111)) rfl rfl
       obtain rfl := Option.some.inj h
       exact DN.meet _ ⟨K110, a7_0, u7_0, a7_1, u7_1, rfl, S111.wk rfl, f227, f113, f115, (Bc.cast f228 (by simp only [hn114]))⟩ fun a ha => (ha.more (ha.more (ha.more ha.nil rfl) rfl) rfl)
      | false =>
       intro h; replace h := cF h
       refine WC.cf rfl ?_
       refine WC.seq ?_
       refine WC.rs [(0, 2), (1, 2)] rfl ?_
       refine WO.pn 2 rfl ?_
       refine WO.fin ?_
       refine DN.seq ?_
       obtain ⟨q4, h, hK229⟩ := Option.bind_eq_some_iff.mp h
       refine WC.meet (fun L w' => ∃ (κ' : Col) (laq4_0 : Option Addr) (luq4_0 : Nat) (laq4_1 : Option Addr) (luq4_1 : Nat), L = [(0, .pointer (some ⟨b0, 0, none⟩)), (2, .pointer (some ⟨b2, 0, none⟩)), (3, .pointer (some ⟨b3, 0, none⟩))] ∧ Stp [7, 8, 9, 18, 19, 20, 23, 25, 26] K63 w59 κ' w' ∧ Oc (Ep.int .i64) 2 κ' w' 7 laq4_0 luq4_0 q4.2.2.1 ∧ Oc (Ep.own (Ep.int .i64) 2) 60 κ' w' 8 laq4_1 luq4_1 q4.2.2.2 ∧ Bc κ' w' 18 b0 96 [.slice a0_0 p0.b.length u0_0, .int .i64 q4.1, .int .i64 q4.2.1] ∧ Bc κ' w' 9 b3 64 [.slice laq4_0 q4.2.2.1.length luq4_0, .slice laq4_1 q4.2.2.2.length luq4_1]) ?_ ?_
       ·
        revert h
        cases ht237 : (x16.1 == 2) with
        | true =>
         intro h; replace h := cT h
         refine WC.ct rfl ?_
         refine WC.rs [(0, 2), (1, 1), (2, 2), (3, 1), (4, 2), (5, 1)] rfl ?_
         refine WO.k2 rfl rfl rfl rfl (rn_fieldAddr Tryd.runUnderlying64 rfl Tryd.sizeOf35 rfl rfl) ?_
         have f238 := f47.stp (S54.tr S64) rfl rfl
         refine WO.k1 trivial rfl rfl rfl rfl (rn_ld Tryd.isAgg35 rfl rfl (hvE (f238.ld 1 rfl rfl))) ?_
         refine WO.pn 1 rfl ?_
         refine WO.bl0 (κ := K63) (E := (Ep.int .i64)) 19 rfl rfl rfl rfl rfl Tryd.underlying60 Trydinfo2 rfl fun a45 u45 w239 K240 S241 f242 => ⟨trivial, ?_⟩
         obtain ⟨x46, hx46, h⟩ := Option.bind_eq_some_iff.mp h
         refine WO.k2 rfl rfl rfl rfl (rn_index f18.rdc hx46 Tryd.runUnderlying35 Tryd.sizeOf60 rfl rfl rfl rfl) ?_
         have f243 := f18.stp (S22.tr (S25.tr (S34.tr (S54.tr (S64.tr S241))))) rfl rfl
         obtain ⟨y14, hy14, h⟩ := Option.bind_eq_some_iff.mp h
         refine WO.stI (κ := K240) (E := (Ep.own (Ep.int .i64) 2)) 8 [19] rfl rfl rfl rfl rfl rfl rfl rfl Tryd.sizeOf60 rfl ⟨_, _, rfl, f242⟩ rfl rfl f243 hy14 fun w244 K245 S246 f247 => ⟨trivial, ?_⟩
         have hn248 : x7.1.Next.length = y14.length := (setI_ok hy14).2.2.2.symm
         refine WO.fin ?_
         have f249 := f17.stp (S22.tr (S25.tr (S34.tr (S54.tr (S64.tr (S241.tr S246)))))) rfl rfl
         have f250 := f67.stp (S241.tr S246) rfl rfl
         have f251 := f238.stp (S241.tr S246) rfl rfl
         obtain rfl := Option.some.inj h
         exact DN.meet _ ⟨K245, a7_0, u7_0, a7_1, u7_1, rfl, (S241.tr S246).wk rfl, f249, f247, f250, (Bc.cast f251 (by simp only [hn248]))⟩ fun a ha => (ha.more (ha.more (ha.more ha.nil rfl) rfl) rfl)
        | false =>
         intro h; replace h := cF h
         refine WC.cf rfl ?_
         refine WC.seq ?_
         refine WC.rs [(0, 2), (1, 2)] rfl ?_
         refine WO.pn 2 rfl ?_
         refine WO.fin ?_
         refine DN.seq ?_
         obtain ⟨q5, h, hK252⟩ := Option.bind_eq_some_iff.mp h
         refine WC.meet (fun L w' => ∃ (κ' : Col) (laq5_0 : Option Addr) (luq5_0 : Nat) (laq5_1 : Option Addr) (luq5_1 : Nat), L = [(0, .pointer (some ⟨b0, 0, none⟩)), (2, .pointer (some ⟨b2, 0, none⟩)), (3, .pointer (some ⟨b3, 0, none⟩))] ∧ Stp [7, 8, 9, 18, 19, 20, 23, 25, 26] K63 w59 κ' w' ∧ Oc (Ep.int .i64) 2 κ' w' 7 laq5_0 luq5_0 q5.2.2.1 ∧ Oc (Ep.own (Ep.int .i64) 2) 60 κ' w' 8 laq5_1 luq5_1 q5.2.2.2 ∧ Bc κ' w' 18 b0 96 [.slice a0_0 p0.b.length u0_0, .int .i64 q5.1, .int .i64 q5.2.1] ∧ Bc κ' w' 9 b3 64 [.slice laq5_0 q5.2.2.1.length luq5_0, .slice laq5_1 q5.2.2.2.length luq5_1]) ?_ ?_
         ·
          revert h
          cases ht260 : (x16.1 == 3) with
          | true =>
           intro h; replace h := cT h
           refine WC.ct rfl ?_
           refine WC.rs [(0, 2), (1, 1), (2, 1), (3, 1), (4, 2), (5, 1)] rfl ?_
           refine WO.k2 rfl rfl rfl rfl (rn_fieldAddr Tryd.runUnderlying64 rfl Tryd.sizeOf60 rfl rfl) ?_
           have f261 := f47.stp (S54.tr S64) rfl rfl
           refine WO.k1 trivial rfl rfl rfl rfl (rn_ld Tryd.isAgg60 rfl rfl (hvE (f261.ld 0 rfl rfl))) ?_
           refine WO.bl (κ := K63) (E := (Ep.int .i64)) 19 [] (parts := [(0, .const (.int .i64 0))]) (cells := [.int .i64 0]) (xs := ([0] : List Int)) rfl rfl rfl rfl rfl rfl Tryd.underlying60 Trydinfo2 rfl rfl rfl rfl rfl rfl rfl rfl rfl rfl ⟨[.int .i64 0], [], Zl K63 w59 [], Zl K63 w59 [], rfl, Zl.sp (l1 := []) (l2 := []) rfl, Zl.sr (l1 := []) (l2 := []), rfl, rfl⟩ fun a51 u51 w262 K263 S264 f265 => ⟨trivial, ?_⟩
           obtain ⟨x52, hx52, h⟩ := Option.bind_eq_some_iff.mp h
           have f266 := f17.stp (S22.tr (S25.tr (S34.tr (S54.tr (S64.tr S264))))) rfl rfl
           refine WO.app (κ := K263) (E := (Ep.int .i64)) 7 [] rfl rfl rfl rfl rfl rfl rfl rfl rfl Tryd.underlying60 Trydinfo2 rfl rfl rfl rfl f266 (Sl.srcP (pu_int _) f265.rdc) sy_false hx52 rfl fun a52 u52 w267 K268 S269 f270 => ⟨trivial, ?_⟩
           refine WO.k2 rfl rfl rfl rfl (rn_fieldAddr Tryd.runUnderlying64 rfl Tryd.sizeOf60 rfl rfl) ?_
           have f271 := f261.stp (S264.tr S269) rfl rfl
           refine WO.stB (κ := K268) 9 (off := 0) (vc := [.slice a52 x52.length u52]) (cs' := [.slice a52 x52.length u52, .slice a7_1 x7.1.Next.length u7_1]) rfl rfl rfl rfl rfl rfl rfl Tryd.sizeOf60 rfl rfl f271 rfl rfl fun w272 S273 f274 => ⟨trivial, ?_⟩
           refine WO.fin ?_
           have f275 := f270.stp S273 rfl rfl
           have f276 := f18.stp (S22.tr (S25.tr (S34.tr (S54.tr (S64.tr (S264.tr (S269.tr S273))))))) rfl rfl
           have f277 := f67.stp (S264.tr (S269.tr S273)) rfl rfl
           obtain rfl := Option.some.inj h
           exact DN.meet _ ⟨K268, a52, u52, a7_1, u7_1, rfl, (S264.tr (S269.tr S273)).wk rfl, f275, f276, f277, f274⟩ fun a ha => (ha.more (ha.more (ha.more ha.nil rfl) rfl) rfl)
          | false =>
           intro h; replace h := cF h
           refine WC.cf rfl ?_
           refine WC.seq ?_
           refine WC.rs [(0, 2), (1, 2)] rfl ?_
           refine WO.pn 2 rfl ?_
           refine WO.fin ?_
           refine DN.seq ?_
           obtain ⟨q6, h, hK278⟩ := Option.bind_eq_some_iff.mp h
           refine WC.meet (fun L w' => ∃ (κ' : Col) (laq6_0 : Option Addr) (luq6_0 : Nat) (laq6_1 : Option Addr) (luq6_1 : Nat), L = [(0, .pointer (some ⟨b0, 0, none⟩)), (2, .pointer (some ⟨b2, 0, none⟩)), (3, .pointer (some ⟨b3, 0, none⟩))] ∧ Stp [8, 9, 18, 19, 20, 23, 25, 26] K63 w59 κ' w' ∧ Oc (Ep.int .i64) 2 κ' w' 7 laq6_0 luq6_0 q6.2.2.1 ∧ Oc (Ep.own (Ep.int .i64) 2) 60 κ' w' 8 laq6_1 luq6_1 q6.2.2.2 ∧ Bc κ' w' 18 b0 96 [.slice a0_0 p0.b.length u0_0, .int .i64 q6.1, .int .i64 q6.2.1] ∧ Bc κ' w' 9 b3 64 [.slice laq6_0 q6.2.2.1.length luq6_0, .slice laq6_1 q6.2.2.2.length luq6_1]) ?_ ?_
           ·
            revert h
            cases ht286 : (x16.1 == 4) with
            | true =>
             intro h; replace h := cT h
             refine WC.ct rfl ?_
             refine WC.seq ?_
             refine WC.rs [(0, 2), (1, 1)] rfl ?_
             refine WO.k2 rfl rfl rfl rfl (rn_build (parts := []) (cells := [.slice none 0 0, .slice none 0 0]) rfl rfl (by kernel_rfl)) ?_
             have f287 := f47.stp (S54.tr S64) rfl rfl
             refine WO.stB0 (κ := K63) 9 (vc := [.slice none 0 0, .slice none 0 0]) rfl rfl rfl rfl rfl rfl rfl Tryd.sizeOf64 rfl rfl f287 rfl fun w288 S289 f290 => ⟨trivial, ?_⟩
             refine WO.fin ?_
             refine DN.seq ?_
             refine WC.seq ?_
             refine WC.rs [(0, 2)] rfl ?_
             refine WO.pn 1 rfl ?_
             refine WO.fin ?_
             refine DN.seq ?_
             obtain ⟨q8, hq293, hK292⟩ := Option.bind_eq_some_iff.mp h
             clear h
             refine WC.meet (fun L w' => ∃ (κ' : Col) (s9 : Int × Int × Int × (List Int) × (List (List Int))) (las9_0 : Option Addr) (lus9_0 : Nat) (las9_1 : Option Addr) (lus9_1 : Nat), L = [(0, .pointer (some ⟨b0, 0, none⟩)), (2, .pointer (some ⟨b2, 0, none⟩)), (3, .pointer (some ⟨b3, 0, none⟩))] ∧ Stp [9, 18, 19, 20, 23, 25, 26] K63 w288 κ' w' ∧ Oc (Ep.int .i64) 2 κ' w' 19 las9_0 lus9_0 s9.2.2.2.1 ∧ Oc (Ep.own (Ep.int .i64) 2) 60 κ' w' 20 las9_1 lus9_1 s9.2.2.2.2 ∧ Bc κ' w' 18 b0 96 [.slice a0_0 p0.b.length u0_0, .int .i64 s9.2.1, .int .i64 s9.2.2.1] ∧ Bc κ' w' 9 b3 64 [.slice las9_0 s9.2.2.2.1.length lus9_0, .slice las9_1 s9.2.2.2.2.length lus9_1] ∧ q8 = Sum.inr s9) ?_ ?_
             ·
              refine WC.block ?_
              have f308 := f67.stp S289 rfl rfl
              refine WC.loop (fun k L w' => ∃ (κ' : Col) (s7 : Int × Int × Int × (List Int) × (List (List Int))) (las7_0 : Option Addr) (lus7_0 : Nat) (las7_1 : Option Addr) (lus7_1 : Nat), L = [(0, .pointer (some ⟨b0, 0, none⟩)), (2, .pointer (some ⟨b2, 0, none⟩)), (3, .pointer (some ⟨b3, 0, none⟩)), (5, .int .i64 s7.1)] ∧ Stp [9, 18, 19, 20, 23, 25, 26] K63 w288 κ' w' ∧ Oc (Ep.int .i64) 2 κ' w' 19 las7_0 lus7_0 s7.2.2.2.1 ∧ Oc (Ep.own (Ep.int .i64) 2) 60 κ' w' 20 las7_1 lus7_1 s7.2.2.2.2 ∧ Bc κ' w' 18 b0 96 [.slice a0_0 p0.b.length u0_0, .int .i64 s7.2.1, .int .i64 s7.2.2.1] ∧ Bc κ' w' 9 b3 64 [.slice las7_0 s7.2.2.2.1.length lus7_0, .slice las7_1 s7.2.2.2.2.length lus7_1] ∧ whileM (s_l1DrawAny_b1 p0) k s7 = some q8) ⟨_, _, ⟨K63, ((0 : Int), (x16.2.1 : Int), (x16.2.2 : Int), (([] : List Int) : (List Int)), (([] : List (List Int)) : (List (List Int)))), none, 0, none, 0, rfl, (Stp.refl _ _).wk rfl, Ow.nil, Ow.nil, f308, f290, hq293⟩, fun a ha => (ha.more (ha.more (ha.more (ha.more ha.nil rfl) rfl) rfl) rfl)⟩ ?_
              rintro k _ w301 ⟨K302, s7, las7_0, lus7_0, las7_1, lus7_1, rfl, S303, f304, f305, f306, f307, h⟩
              rcases k with _ | k
              ·
               cases h
              ·
               obtain ⟨o291, h, hk309⟩ := Option.bind_eq_some_iff.mp h; unfold s_l1DrawAny_b1 at h
               refine WC.seq ?_
               refine WC.seq ?_
               refine WC.rs [(0, 2), (1, 2), (2, 1), (3, 2), (4, 2)] rfl ?_
               refine WO.pn 2 rfl ?_
               obtain ⟨x59, hx59, h⟩ := Option.bind_eq_some_iff.mp h
               have f310 := f58.stp (S64.tr (S289.tr S303)) rfl rfl
               refine WO.call rfl rfl rfl rfl rfl rfl Tryd.call35 (s_l1Below_ok (κ := fun b => mp [(18, 2)] 0 (K302 b)) (p0 := (⟨p0.b, s7.2.1, s7.2.2.1⟩ : l1Cur)) (Sl.map f310 (mp [(18, 2)] 0) rfl rfl) (f306.map (mp [(18, 2)] 0) rfl rfl) hx59) ?_
               rintro _ w311 ⟨k312, rfl, e313, f314⟩
               obtain ⟨K315, S316, m317⟩ := Ent.mixed (l := [(18, 2)]) (κ := K302) e313 21 rfl
               refine ⟨trivial, ?_⟩
               have f319 := f314.mx m317 rfl (rfl : 21 + 2 = 23)
               refine WO.pn 2 rfl ?_
               refine WO.fin ?_
               refine DN.seq ?_
               revert h
               cases ht320 : decide (s7.1 < (IntKind.i64.wrap (256 + x59.1))) with
               | true =>
                intro h; replace h := cT h
                refine WC.ct rfl ?_
                refine WC.skip ?_
                refine DN.seq ?_
                refine WC.seq ?_
                refine WC.block ?_
                refine WC.seq ?_
                refine WC.rs [(0, 2), (1, 1), (2, 2), (3, 2), (4, 1), (5, 1), (6, 2), (7, 1)] rfl ?_
                refine WO.k2 rfl rfl rfl rfl (rn_fieldAddr Tryd.runUnderlying64 rfl Tryd.sizeOf60 rfl rfl) ?_
                have f321 := f307.stp S316 rfl rfl
                refine WO.k1 trivial rfl rfl rfl rfl (rn_ld Tryd.isAgg60 rfl rfl (hvE (f321.ld 0 rfl rfl))) ?_
                refine WO.pn 1 rfl ?_
                refine WO.k2 rfl rfl rfl rfl (rn_rem rfl rfl rfl (by decide)) ?_
                refine WO.bl (κ := K315) (E := (Ep.int .i64)) 24 [] (parts := [(0, .tmp 67)]) (cells := [.int .i64 (Int.tmod s7.1 2)]) (xs := ([(Int.tmod s7.1 2)] : List Int)) rfl rfl rfl rfl rfl rfl Tryd.underlying60 Trydinfo2 rfl rfl rfl rfl rfl rfl rfl rfl rfl rfl ⟨[.int .i64 (Int.tmod s7.1 2)], [], Zl K315 w311 [], Zl K315 w311 [], rfl, Zl.sp (l1 := []) (l2 := []) rfl, Zl.sr (l1 := []) (l2 := []), rfl, rfl⟩ fun a68 u68 w322 K323 S324 f325 => ⟨trivial, ?_⟩
                obtain ⟨x69, hx69, h⟩ := Option.bind_eq_some_iff.mp h
                have f326 := f304.stp (S316.tr S324) rfl rfl
                refine WO.app (κ := K323) (E := (Ep.int .i64)) 19 [] rfl rfl rfl rfl rfl rfl rfl rfl rfl Tryd.underlying60 Trydinfo2 rfl rfl rfl rfl f326 (Sl.srcP (pu_int _) f325.rdc) sy_false hx69 rfl fun a69 u69 w327 K328 S329 f330 => ⟨trivial, ?_⟩
                refine WO.k2 rfl rfl rfl rfl (rn_fieldAddr Tryd.runUnderlying64 rfl Tryd.sizeOf60 rfl rfl) ?_
                have f331 := f321.stp (S324.tr S329) rfl rfl
                refine WO.stB (κ := K328) 9 (off := 0) (vc := [.slice a69 x69.length u69]) (cs' := [.slice a69 x69.length u69, .slice las7_1 s7.2.2.2.2.length lus7_1]) rfl rfl rfl rfl rfl rfl rfl Tryd.sizeOf60 rfl rfl f331 rfl rfl fun w332 S333 f334 => ⟨trivial, ?_⟩
                refine WO.fin ?_
                refine DN.seq ?_
                refine WC.rs [(0, 2), (1, 1), (2, 2), (3, 2), (4, 1), (5, 1), (6, 1), (7, 2), (8, 1)] rfl ?_
                refine WO.k2 rfl rfl rfl rfl (rn_fieldAddr Tryd.runUnderlying64 rfl Tryd.sizeOf35 rfl rfl) ?_
                refine WO.k1 trivial rfl rfl rfl rfl (rn_ld Tryd.isAgg35 rfl rfl (hvE (f334.ld 1 rfl rfl))) ?_
                refine WO.pn 1 rfl ?_
                refine WO.k2 rfl rfl rfl rfl (rn_quo rfl rfl rfl (by decide)) ?_
                refine WO.bl (κ := K328) (E := (Ep.int .i64)) 25 [] (parts := [(0, .tmp 74)]) (cells := [.int .i64 (IntKind.i64.wrap (Int.tdiv s7.1 2))]) (xs := ([(IntKind.i64.wrap (Int.tdiv s7.1 2))] : List Int)) rfl rfl rfl rfl rfl rfl Tryd.underlying60 Trydinfo2 rfl rfl rfl rfl rfl rfl rfl rfl rfl rfl ⟨[.int .i64 (IntKind.i64.wrap (Int.tdiv s7.1 2))], [], Zl K328 w332 [], Zl K328 w332 [], rfl, Zl.sp (l1 := []) (l2 := []) rfl, Zl.sr (l1 := []) (l2 := []), rfl, rfl⟩ fun a75 u75 w335 K336 S337 f338 => ⟨trivial, ?_⟩
                refine WO.bl (κ := K336) (E := (Ep.own (Ep.int .i64) 2)) 26 [25] (parts := [(0, .tmp 75)]) (cells := [.slice a75 ([(IntKind.i64.wrap (Int.tdiv s7.1 2))] : List Int).length u75]) (xs := ([([(IntKind.i64.wrap (Int.tdiv s7.1 2))] : List Int)] : List (List Int))) rfl rfl rfl rfl rfl rfl Tryd.underlying35 Trydinfo60 rfl rfl rfl rfl rfl rfl rfl rfl rfl rfl ⟨[.slice a75 ([(IntKind.i64.wrap (Int.tdiv s7.1 2))] : List Int).length u75], [], Zl K336 w335 [25], Zl K336 w335 [], rfl, Zl.sp (l1 := [25]) (l2 := []) rfl, Zl.sr (l1 := [25]) (l2 := []), ⟨_, _, rfl, f338⟩, rfl⟩ fun a76 u76 w339 K340 S341 f342 => ⟨trivial, ?_⟩
                obtain ⟨x77, hx77, h⟩ := Option.bind_eq_some_iff.mp h
                have f343 := f305.stp (S316.tr (S324.tr (S329.tr (S333.tr (S337.tr S341))))) rfl rfl
                refine WO.app (κ := K340) (E := (Ep.own (Ep.int .i64) 2)) 20 [26] rfl rfl rfl rfl rfl rfl rfl rfl rfl Tryd.underlying35 Trydinfo60 rfl rfl rfl rfl f343 f342.src (sy_one rfl) hx77 rfl fun a77 u77 w344 K345 S346 f347 => ⟨trivial, ?_⟩
                refine WO.k2 rfl rfl rfl rfl (rn_fieldAddr Tryd.runUnderlying64 rfl Tryd.sizeOf35 rfl rfl) ?_
                have f348 := f334.stp (S337.tr (S341.tr S346)) rfl rfl
                refine WO.stB (κ := K345) 9 (off := 1) (vc := [.slice a77 x77.length u77]) (cs' := [.slice a69 x69.length u69, .slice a77 x77.length u77]) rfl rfl rfl rfl rfl rfl rfl Tryd.sizeOf35 rfl rfl f348 rfl rfl fun w349 S350 f351 => ⟨trivial, ?_⟩
                refine WO.fin ?_
                refine DN.block ?_
                refine DN.seq ?_
                refine WC.rs [(0, 2), (1, 2), (2, 2)] rfl ?_
                refine WO.pn 3 rfl ?_
                refine WO.fin ?_
                have f352 := f330.stp (S333.tr (S337.tr (S341.tr (S346.tr S350)))) rfl rfl
                have f353 := f347.stp S350 rfl rfl
                have f354 := f319.stp (S324.tr (S329.tr (S333.tr (S337.tr (S341.tr (S346.tr S350)))))) rfl rfl
                obtain rfl := Option.some.inj h
                refine DN.round fun a ha => ?_
                exact ⟨k, _, Nat.lt_succ_self _, ⟨(fun b => ren [(23, 18)] (K345 b)), (((IntKind.i64.wrap (s7.1 + 1)) : Int), (x59.2.1 : Int), (x59.2.2 : Int), (x69 : (List Int)), (x77 : (List (List Int)))), a69, u69, a77, u77, rfl, (Stp.ren ((S303.tr (S316.tr (S324.tr (S329.tr (S333.tr (S337.tr (S341.tr (S346.tr S350)))))))).wk rfl) [(23, 18)] rfl), (f352.map (ren [(23, 18)]) rfl rfl), (f353.map (ren [(23, 18)]) rfl rfl), (f354.map (ren [(23, 18)]) rfl rfl), (f351.map (ren [(23, 18)]) rfl rfl), hk309⟩, (ha.more (ha.more (ha.more (ha.more ha.nil rfl) rfl) rfl) rfl)⟩
               | false =>
                intro h; replace h := cF h
                refine WC.cf rfl ?_
                refine WC.exit ?_
                refine DN.exitThen ?_
                refine DN.exitThen ?_
                obtain rfl := Option.some.inj h
                have h := hk309
                refine DN.hit ?_
                have f355 := f304.stp S316 rfl rfl
                have f356 := f305.stp S316 rfl rfl
                have f357 := f307.stp S316 rfl rfl
                obtain rfl := Option.some.inj h
                exact DN.meet _ ⟨(fun b => ren [(23, 18)] (K315 b)), ((s7.1 : Int), (x59.2.1 : Int), (x59.2.2 : Int), (s7.2.2.2.1 : (List Int)), (s7.2.2.2.2 : (List (List Int)))), las7_0, lus7_0, las7_1, lus7_1, rfl, (Stp.ren ((S303.tr S316).wk rfl) [(23, 18)] rfl), (f355.map (ren [(23, 18)]) rfl rfl), (f356.map (ren [(23, 18)]) rfl rfl), (f319.map (ren [(23, 18)]) rfl rfl), (f357.map (ren [(23, 18)]) rfl rfl), rfl⟩ fun a ha => (ha.more (ha.more (ha.more ha.nil rfl) rfl) rfl)
             rintro _ w294 ⟨K295, s9, las9_0, lus9_0, las9_1, lus9_1, rfl, S296, f297, f298, f299, f300, rfl⟩
             have h := hK292
             dsimp only [aft] at h
             obtain rfl := Option.some.inj h
             exact DN.meet _ ⟨(fun b => ren [(19, 7), (20, 8)] (K295 b)), las9_0, lus9_0, las9_1, lus9_1, rfl, (Stp.ren ((S289.tr S296).wk rfl) [(19, 7), (20, 8)] rfl), (f297.map (ren [(19, 7), (20, 8)]) rfl rfl), (f298.map (ren [(19, 7), (20, 8)]) rfl rfl), (f299.map (ren [(19, 7), (20, 8)]) rfl rfl), (f300.map (ren [(19, 7), (20, 8)]) rfl rfl)⟩ fun a ha => (ha.more (ha.more (ha.more ha.nil rfl) rfl) rfl)
            | false =>
             intro h; replace h := cF h
             refine WC.cf rfl ?_
             refine WC.seq ?_
             refine WC.rs [(0, 2), (1, 2)] rfl ?_
             refine WO.pn 2 rfl ?_
             refine WO.fin ?_
             refine DN.seq ?_
             obtain ⟨q10, h, hK358⟩ := Option.bind_eq_some_iff.mp h
             refine WC.meet (fun L w' => ∃ (κ' : Col), L = [(0, .pointer (some ⟨b0, 0, none⟩)), (2, .pointer (some ⟨b2, 0, none⟩)), (3, .pointer (some ⟨b3, 0, none⟩))] ∧ Stp [8, 19] K63 w59 κ' w' ∧ Oc (Ep.own (Ep.int .i64) 2) 60 κ' w' 8 a7_1 u7_1 q10 ∧ x7.1.Next.length = q10.length) ?_ ?_
             ·
              revert h
              cases ht364 : (x16.1 == 5) with
              | true =>
               intro h; replace h := cT h
               refine WC.ct rfl ?_
               refine WC.rx (κ := K63) [9] none [(0, 2), (2, 2), (1, 0), (3, 1), (4, 2), (5, 1)] [] (by kernel_rfl) (by kernel_rfl) fun w366 S365 => ?_
               refine WO.k2 rfl rfl rfl rfl (rn_fieldAddr Tryd.runUnderlying64 rfl Tryd.sizeOf35 rfl rfl) ?_
               refine WO.pn 1 rfl ?_
               have f367 := f47.stp (S54.tr (S64.tr S365)) rfl rfl
               refine WO.k0 rfl rfl rfl rfl (rn_ld Tryd.isAgg35 rfl rfl (hvC (f367.ld 1 rfl rfl) rfl)) ?_
               obtain ⟨x84, hx84, h⟩ := Option.bind_eq_some_iff.mp h
               refine WO.mk (κ := K63) (E := (Ep.int .i64)) (z := (0 : Int)) 19 rfl rfl rfl rfl rfl rfl rfl Tryd.underlying60 Trydinfo2 rfl rfl rfl rfl rfl (fun _ _ _ => rfl) (mkS_C hx84) fun a84 u84 w368 K369 S370 f371 => ⟨(S370.cl rfl), ?_⟩
               obtain ⟨x85, hx85, h⟩ := Option.bind_eq_some_iff.mp h
               refine WO.k2 rfl rfl rfl rfl (rn_index f18.rdc hx85 Tryd.runUnderlying35 Tryd.sizeOf60 rfl rfl rfl rfl) ?_
               have f372 := f18.stp (S22.tr (S25.tr (S34.tr (S54.tr (S64.tr (S365.tr S370)))))) rfl rfl
               obtain ⟨y20, hy20, h⟩ := Option.bind_eq_some_iff.mp h
               refine WO.stI (κ := K369) (E := (Ep.own (Ep.int .i64) 2)) 8 [19] rfl rfl rfl rfl rfl rfl rfl rfl Tryd.sizeOf60 rfl ⟨_, _, rfl, f371⟩ rfl rfl f372 hy20 fun w373 K374 S375 f376 => ⟨((S370.tr S375).cl rfl), ?_⟩
               have hn377 : x7.1.Next.length = y20.length := (setI_ok hy20).2.2.2.symm
               refine WO.nx ?_
               refine WO.fin ?_
               obtain rfl := Option.some.inj h
               exact DN.meet _ ⟨K374, rfl, (S365.tr (S370.tr S375)).wk rfl, f376, hn377⟩ fun a ha => (ha.more (ha.more (ha.more ha.nil rfl) rfl) rfl)
              | false =>
               intro h; replace h := cF h
               refine WC.cf rfl ?_
               refine WC.skip ?_
               have f378 := f18.stp (S22.tr (S25.tr (S34.tr (S54.tr S64)))) rfl rfl
               obtain rfl := Option.some.inj h
               exact DN.meet _ ⟨K63, rfl, (Stp.refl _ _).wk rfl, f378, rfl⟩ fun a ha => (ha.more (ha.more (ha.more ha.nil rfl) rfl) rfl)
             rintro _ w359 ⟨K360, rfl, S361, f362, hn363⟩
             have h := hK358
             have f379 := f17.stp (S22.tr (S25.tr (S34.tr (S54.tr (S64.tr S361))))) rfl rfl
             have f380 := f67.stp S361 rfl rfl
             have f381 := f47.stp (S54.tr (S64.tr S361)) rfl rfl
             obtain rfl := Option.some.inj h
             exact DN.meet _ ⟨K360, a7_0, u7_0, a7_1, u7_1, rfl, S361.wk rfl, f379, f362, f380, (Bc.cast f381 (by simp only [hn363]))⟩ fun a ha => (ha.more (ha.more (ha.more ha.nil rfl) rfl) rfl)
           rintro _ w279 ⟨K280, laq6_0, luq6_0, laq6_1, luq6_1, rfl, S281, f282, f283, f284, f285⟩
           have h := hK278
           obtain rfl := Option.some.inj h
           exact DN.meet _ ⟨K280, laq6_0, luq6_0, laq6_1, luq6_1, rfl, S281.wk rfl, f282, f283, f284, f285⟩ fun a ha => (ha.more (ha.more (ha.more ha.nil rfl) rfl) rfl)
         rintro _ w253 ⟨K254, laq5_0, luq5_0, laq5_1, luq5_1, rfl, S255, f256, f257, f258, f259⟩
         have h := hK252
         obtain rfl := Option.some.inj h
         exact DN.meet _ ⟨K254, laq5_0, luq5_0, laq5_1, luq5_1, rfl, S255.wk rfl, f256, f257, f258, f259⟩ fun a ha => (ha.more (ha.more (ha.more ha.nil rfl) rfl) rfl)
       rintro _ w230 ⟨K231, laq4_0, luq4_0, laq4_1, luq4_1, rfl, S232, f233, f234, f235, f236⟩
       have h := hK229
       obtain rfl := Option.some.inj h
       exact DN.meet _ ⟨K231, laq4_0, luq4_0, laq4_1, luq4_1, rfl, S232.wk rfl, f233, f234, f235, f236⟩ fun a ha => (ha.more (ha.more (ha.more ha.nil rfl) rfl) rfl)
     rintro _ w101 ⟨K102, laq3_0, luq3_0, laq3_1, luq3_1, rfl, S103, f104, f105, f106, f107⟩
     have h := hK100
     obtain rfl := Option.some.inj h
     exact DN.meet _ ⟨K102, laq3_0, luq3_0, laq3_1, luq3_1, rfl, S103.wk rfl, f104, f105, f106, f107⟩ fun a ha => (ha.more (ha.more (ha.more ha.nil rfl) rfl) rfl)
   rintro _ w69 ⟨K70, laq2_0, luq2_0, laq2_1, luq2_1, rfl, S71, f72, f73, f74, f75⟩
   have h := hK68
   refine DN.block ?_
   obtain rfl := Option.some.inj h
   exact DN.meet _ ⟨(fun b => ren [(18, 12)] (K70 b)), laq2_0, luq2_0, laq2_1, luq2_1, rfl, (Stp.ren ((S54.tr (S64.tr S71)).wk rfl) [(18, 12)] rfl), (f72.map (ren [(18, 12)]) rfl rfl), (f73.map (ren [(18, 12)]) rfl rfl), (f74.map (ren [(18, 12)]) rfl rfl), (f75.map (ren [(18, 12)]) rfl rfl)⟩ fun a ha => (ha.more (ha.more (ha.more ha.nil rfl) rfl) rfl)
  | false =>
   intro h; replace h := cF h
   refine WC.cf rfl ?_
   refine WC.skip ?_
   have f382 := f17.stp (S22.tr (S25.tr S34)) rfl rfl
   have f383 := f18.stp (S22.tr (S25.tr S34)) rfl rfl
   have f384 := f26.stp S34 rfl rfl
   obtain rfl := Option.some.inj h
   exact DN.meet _ ⟨K33, a7_0, u7_0, a7_1, u7_1, rfl, (Stp.refl _ _).wk rfl, f382, f383, f37, f384⟩ fun a ha => (ha.more (ha.more (ha.more ha.nil rfl) rfl) rfl)
 rintro _ w39 ⟨K40, laq1_0, luq1_0, laq1_1, luq1_1, rfl, S41, f42, f43, f44, f45⟩
 have h := hK38
 refine DN.seq ?_
 refine WC.seq ?_
 refine WC.rs [(0, 1), (1, 1)] rfl ?_
 refine WO.k1 trivial rfl rfl rfl rfl (rn_la (cs := [.slice laq1_0 q1.2.2.1.length luq1_0, .slice laq1_1 q1.2.2.2.length luq1_1]) Tryd.isAgg64 Tryd.sizeOf64 rfl rfl rfl (haE f45.cells)) ?_
 have f385 := f4.stp (S14.tr (S22.tr (S25.tr (S34.tr S41)))) rfl rfl
 refine WO.stB0 (κ := K40) 3 (vc := [.slice laq1_0 q1.2.2.1.length luq1_0, .slice laq1_1 q1.2.2.2.length luq1_1]) rfl rfl rfl rfl rfl rfl rfl Tryd.sizeOf64 rfl rfl f385 rfl fun w386 S387 f388 => ⟨trivial, ?_⟩
 refine WO.fin ?_
 refine DN.seq ?_
 refine WC.ret ?_
 have f389 := hE.stp (S3.tr (S14.tr (S22.tr (S25.tr (S34.tr (S41.tr S387)))))) rfl rfl
 have f390 := f42.stp S387 rfl rfl
 have f391 := f43.stp S387 rfl rfl
 have f392 := f44.stp S387 rfl rfl
 refine DN.res (l := [.cell 2 64]) Tryd.results81 (res_cellA rfl f388 Tryd.isAgg64 Tryd.sizeOf64 rfl rfl) rfl ?_
 obtain rfl := Option.some.inj h
 exact ⟨(fun b => ren [(7, 3), (8, 4), (12, 2)] (K40 b)), laq1_0, luq1_0, laq1_1, luq1_1, rfl, (f389.map (ren [(7, 3), (8, 4), (12, 2)]) rfl rfl), (f390.map (ren [(7, 3), (8, 4), (12, 2)]) rfl rfl), (f391.map (ren [(7, 3), (8, 4), (12, 2)]) rfl rfl), (f392.map (ren [(7, 3), (8, 4), (12, 2)]) rfl rfl)⟩

/- loop.example/g00869/spec.l4DrawAny -/
theorem s_l4DrawAny_ok {w : World} {κ : Col} {a0_0 : Option Addr} {u0_0 : Nat} {p0 : l1Cur} {b0 : Nat} (g0_0 : Rd (Rp.int .u8) κ w 0 a0_0 u0_0 p0.b) (gb0 : Bc κ w 2 b0 96 [.slice a0_0 p0.b.length u0_0, .int .i64 p0.i, .int .i64 p0.h]) {r : Parity × Int × Int} (h : s_l4DrawAny p0 = some r) : Ret Tryd.prog 59 [.pointer (some ⟨b0, 0, none⟩)] w (fun v w' => ∃ (κ' : Col) (ra0 : Option Addr) (ru0 : Nat) (ra1 : Option Addr) (ru1 : Nat) (ra2 : Option Addr) (ru2 : Nat), v = .agg #[.slice ra0 r.1.Arena.Owner.length ru0, .slice ra1 r.1.Arena.Next.length ru1, .slice ra2 r.1.Prio.length ru2] ∧ Ent κ w κ' w' ∧ Oc (Ep.int .i64) 2 κ' w' 3 ra0 ru0 r.1.Arena.Owner ∧ Oc (Ep.own (Ep.int .i64) 2) 60 κ' w' 4 ra1 ru1 r.1.Arena.Next ∧ Oc (Ep.int .i64) 2 κ' w' 5 ra2 ru2 r.1.Prio ∧ Bc κ' w' 2 b0 96 [.slice a0_0 p0.b.length u0_0, .int .i64 r.2.1, .int .i64 r.2.2]) := by
 unfold s_l4DrawAny at h
 refine Ret.enter Tryd.func59 rfl Tryd.ntmps59 rfl ?_
 dsimp only [envOf]
 have hE := Ent.refl κ w
 refine WC.seq ?_
 refine WC.rs [(0, 1)] rfl ?_
 refine WO.alloc (κ := κ) 3 rfl rfl rfl rfl rfl Tryd.zeroValue66 rfl fun b2 w1 K2 S3 f4 => ⟨trivial, ?_⟩
 refine WO.fin ?_
 refine DN.seq ?_
 refine WC.seq ?_
 refine WC.rs [(0, 2), (1, 1), (2, 1), (3, 1)] rfl ?_
 refine WO.pn 1 rfl ?_
 obtain ⟨x5, hx5, h⟩ := Option.bind_eq_some_iff.mp h
 have f5 := g0_0.stp S3 rfl rfl
 have f6 := gb0.stp S3 rfl rfl
 refine WO.call rfl rfl rfl rfl rfl rfl Tryd.call79 (s_l4Draw_ok (κ := fun b => mp [(2, 2)] 0 (K2 b)) (p0 := p0) (Sl.map f5 (mp [(2, 2)] 0) rfl rfl) (f6.map (mp [(2, 2)] 0) rfl rfl) hx5) ?_
 rintro _ w7 ⟨k8, a5_0, u5_0, a5_1, u5_1, a5_2, u5_2, rfl, e9, f10, f11, f12, f13⟩
 obtain ⟨K14, S15, m16⟩ := Ent.mixed (l := [(2, 2)]) (κ := K2) e9 4 rfl
 refine ⟨trivial, ?_⟩
 have f18 := f10.mx (no_int _) m16 rfl (rfl : 4 + 3 = 7)
 have f19 := f11.mx (no_own (no_int _) _) m16 rfl (rfl : 4 + 4 = 8)
 have f20 := f12.mx (no_int _) m16 rfl (rfl : 4 + 5 = 9)
 have f21 := f13.mx m16 rfl (rfl : 4 + 2 = 6)
 refine WO.alloc (κ := K14) 10 rfl rfl rfl rfl rfl Tryd.zeroValue66 rfl fun b3 w22 K23 S24 f25 => ⟨trivial, ?_⟩
 refine WO.stB0 (κ := K23) 10 (vc := [.slice a5_0 x5.1.Arena.Owner.length u5_0, .slice a5_1 x5.1.Arena.Next.length u5_1, .slice a5_2 x5.1.Prio.length u5_2]) rfl rfl rfl rfl rfl rfl rfl Tryd.sizeOf66 rfl rfl f25 rfl fun w26 S27 f28 => ⟨trivial, ?_⟩
 refine WO.fin ?_
 refine DN.seq ?_
 refine WC.seq ?_
 refine WC.seq ?_
 refine WC.rs [(0, 2), (1, 1)] rfl ?_
 refine WO.pn 1 rfl ?_
 obtain ⟨x7, hx7, h⟩ := Option.bind_eq_some_iff.mp h
 have f29 := f5.stp (S15.tr (S24.tr S27)) rfl rfl
 have f30 := f21.stp (S24.tr S27) rfl rfl
 refine WO.call rfl rfl rfl rfl rfl rfl Tryd.call34 (s_l1Once_ok (κ := fun b => mp [(6, 2)] 0 (K23 b)) (p0 := (⟨p0.b, x5.2.1, x5.2.2⟩ : l1Cur)) (Sl.map f29 (mp [(6, 2)] 0) rfl rfl) (f30.map (mp [(6, 2)] 0) rfl rfl) hx7) ?_
 rintro _ w31 ⟨k32, rfl, e33, f34⟩
 obtain ⟨K35, S36, m37⟩ := Ent.mixed (l := [(6, 2)]) (κ := K23) e33 11 rfl
 refine ⟨trivial, ?_⟩
 have f39 := f34.mx m37 rfl (rfl : 11 + 2 = 13)
 refine WO.fin ?_
 refine DN.seq ?_
 obtain ⟨q1, h, hK40⟩ := Option.bind_eq_some_iff.mp h
 refine WC.meet (fun L w' => ∃ (κ' : Col) (laq1_0 : Option Addr) (luq1_0 : Nat) (laq1_1 : Option Addr) (luq1_1 : Nat) (laq1_2 : Option Addr) (luq1_2 : Nat), L = [(0, .pointer (some ⟨b0, 0, none⟩)), (2, .pointer (some ⟨b2, 0, none⟩)), (3, .pointer (some ⟨b3, 0, none⟩))] ∧ Stp [9, 10, 13, 16, 19, 20, 21] K35 w31 κ' w' ∧ Oc (Ep.int .i64) 2 κ' w' 7 laq1_0 luq1_0 q1.2.2.1 ∧ Oc (Ep.own (Ep.int .i64) 2) 60 κ' w' 8 laq1_1 luq1_1 q1.2.2.2.1 ∧ Oc (Ep.int .i64) 2 κ' w' 9 laq1_2 luq1_2 q1.2.2.2.2 ∧ Bc κ' w' 13 b0 96 [.slice a0_0 p0.b.length u0_0, .int .i64 q1.1, .int .i64 q1.2.1] ∧ Bc κ' w' 10 b3 66 [.slice laq1_0 q1.2.2.1.length luq1_0, .slice laq1_1 q1.2.2.2.1.length luq1_1, .slice laq1_2 q1.2.2.2.2.length luq1_2]) ?_ ?_
 ·
  revert h
  cases ht49 : x7.1 with
  | true =>
   intro h; replace h := cT h
   refine WC.ct rfl ?_
   refine WC.seq ?_
   refine WC.rs [(0, 2), (1, 1)] rfl ?_
   refine WO.pn 1 rfl ?_
   obtain ⟨x9, hx9, h⟩ := Option.bind_eq_some_iff.mp h
   have f50 := f29.stp S36 rfl rfl
   refine WO.call rfl rfl rfl rfl rfl rfl Tryd.call35 (s_l1Below_ok (κ := fun b => mp [(13, 2)] 0 (K35 b)) (p0 := (⟨p0.b, x7.2.1, x7.2.2⟩ : l1Cur)) (Sl.map f50 (mp [(13, 2)] 0) rfl rfl) (f39.map (mp [(13, 2)] 0) rfl rfl) hx9) ?_
   rintro _ w51 ⟨k52, rfl, e53, f54⟩
   obtain ⟨K55, S56, m57⟩ := Ent.mixed (l := [(13, 2)]) (κ := K35) e53 14 rfl
   refine ⟨trivial, ?_⟩
   have f59 := f54.mx m57 rfl (rfl : 14 + 2 = 16)
   refine WO.fin ?_
   refine DN.seq ?_
   refine WC.block ?_
   refine WC.seq ?_
   refine WC.rs [(0, 2), (1, 2)] rfl ?_
   refine WO.pn 2 rfl ?_
   refine WO.fin ?_
   refine DN.seq ?_
   obtain ⟨q2, h, hK60⟩ := Option.bind_eq_some_iff.mp h
   refine WC.meet (fun L w' => ∃ (κ' : Col) (laq2_0 : Option Addr) (luq2_0 : Nat) (laq2_1 : Option Addr) (luq2_1 : Nat) (laq2_2 : Option Addr) (luq2_2 : Nat), L = [(0, .pointer (some ⟨b0, 0, none⟩)), (2, .pointer (some ⟨b2, 0, none⟩)), (3, .pointer (some ⟨b3, 0, none⟩))] ∧ Stp [9, 10, 16, 19, 20, 21] K55 w51 κ' w' ∧ Oc (Ep.int .i64) 2 κ' w' 7 laq2_0 luq2_0 q2.2.2.1 ∧ Oc (Ep.own (Ep.int .i64) 2) 60 κ' w' 8 laq2_1 luq2_1 q2.2.2.2.1 ∧ Oc (Ep.int .i64) 2 κ' w' 9 laq2_2 luq2_2 q2.2.2.2.2 ∧ Bc κ' w' 16 b0 96 [.slice a0_0 p0.b.length u0_0, .int .i64 q2.1, .int .i64 q2.2.1] ∧ Bc κ' w' 10 b3 66 [.slice laq2_0 q2.2.2.1.length luq2_0, .slice laq2_1 q2.2.2.2.1.length luq2_1, .slice laq2_2 q2.2.2.2.2.length luq2_2]) ?_ ?_
   ·
    revert h
    cases ht69 : (x9.1 == 0) with
    | true =>
     intro h; replace h := cT h
     refine WC.ct rfl ?_
     refine WC.rx (κ := K55) [10] none [(0, 2), (2, 2), (1, 0), (3, 1), (4, 2), (5, 1)] [] (by kernel_rfl) (by kernel_rfl) fun w71 S70 => ?_
     refine WO.k2 rfl rfl rfl rfl (rn_fieldAddr Tryd.runUnderlying66 rfl Tryd.sizeOf60 rfl rfl) ?_
     refine WO.pn 1 rfl ?_
     have f72 := f28.stp (S36.tr (S56.tr S70)) rfl rfl
     refine WO.k0 rfl rfl rfl rfl (rn_ld Tryd.isAgg60 rfl rfl (hvC (f72.ld 2 rfl rfl) rfl)) ?_
     obtain ⟨x15, hx15, h⟩ := Option.bind_eq_some_iff.mp h
     have f73 := f50.stp (S56.tr S70) rfl rfl
     have f74 := f59.stp S70 rfl rfl
     refine WO.call rfl rfl rfl rfl rfl rfl Tryd.call80 (s_l1Num_ok (κ := fun b => mp [(16, 2)] 0 (K55 b)) (p0 := (⟨p0.b, x9.2.1, x9.2.2⟩ : l1Cur)) (Sl.map f73 (mp [(16, 2)] 0) rfl rfl) (f74.map (mp [(16, 2)] 0) rfl rfl) hx15) ?_
     rintro _ w75 ⟨k76, rfl, e77, f78⟩
     obtain ⟨K79, S80, m81⟩ := Ent.mixed (l := [(16, 2)]) (κ := K55) e77 17 rfl
     refine ⟨(S80.cl rfl), ?_⟩
     have f83 := f78.mx m81 rfl (rfl : 17 + 2 = 19)
     obtain ⟨x16, hx16, h⟩ := Option.bind_eq_some_iff.mp h
     refine WO.k2 rfl rfl rfl rfl (rn_index f20.rdc hx16 Tryd.runUnderlying60 Tryd.sizeOf2 rfl rfl rfl rfl) ?_
     have f84 := f20.stp (S24.tr (S27.tr (S36.tr (S56.tr (S70.tr S80))))) rfl rfl
     obtain ⟨y8, hy8, h⟩ := Option.bind_eq_some_iff.mp h
     refine WO.stI (κ := K79) (E := (Ep.int .i64)) 9 [] rfl rfl rfl rfl rfl rfl rfl rfl Tryd.sizeOf2 rfl rfl rfl rfl f84 hy8 fun w85 K86 S87 f88 => ⟨((S80.tr S87).cl rfl), ?_⟩
     have hn89 : x5.1.Prio.length = y8.length := (setI_ok hy8).2.2.2.symm
     refine WO.nx ?_
     refine WO.fin ?_
     have f90 := f18.stp (S24.tr (S27.tr (S36.tr (S56.tr (S70.tr (S80.tr S87)))))) rfl rfl
     have f91 := f19.stp (S24.tr (S27.tr (S36.tr (S56.tr (S70.tr (S80.tr S87)))))) rfl rfl
     have f92 := f83.stp S87 rfl rfl
     have f93 := f72.stp (S80.tr S87) rfl rfl
     obtain rfl := Option.some.inj h
     exact DN.meet _ ⟨(fun b => ren [(19, 16)] (K86 b)), a5_0, u5_0, a5_1, u5_1, a5_2, u5_2, rfl, (Stp.ren ((S70.tr (S80.tr S87)).wk rfl) [(19, 16)] rfl), (f90.map (ren [(19, 16)]) rfl rfl), (f91.map (ren [(19, 16)]) rfl rfl), (f88.map (ren [(19, 16)]) rfl rfl), (f92.map (ren [(19, 16)]) rfl rfl), (Bc.cast (f93.map (ren [(19, 16)]) rfl rfl) (by simp only [hn89]))⟩ fun a ha => (ha.more (ha.more (ha.more ha.nil rfl) rfl) rfl)
    | false =>
     intro h; replace h := cF h
     refine WC.cf rfl ?_
     refine WC.seq ?_
     refine WC.rs [(0, 2), (1, 2)] rfl ?_
     refine WO.pn 2 rfl ?_
     refine WO.fin ?_
     refine DN.seq ?_
     obtain ⟨q3, h, hK94⟩ := Option.bind_eq_some_iff.mp h
     refine WC.meet (fun L w' => ∃ (κ' : Col) (laq3_0 : Option Addr) (luq3_0 : Nat) (laq3_1 : Option Addr) (luq3_1 : Nat) (laq3_2 : Option Addr) (luq3_2 : Nat), L = [(0, .pointer (some ⟨b0, 0, none⟩)), (2, .pointer (some ⟨b2, 0, none⟩)), (3, .pointer (some ⟨b3, 0, none⟩))] ∧ Stp [9, 10, 16, 19, 20, 21] K55 w51 κ' w' ∧ Oc (Ep.int .i64) 2 κ' w' 7 laq3_0 luq3_0 q3.2.2.1 ∧ Oc (Ep.own (Ep.int .i64) 2) 60 κ' w' 8 laq3_1 luq3_1 q3.2.2.2.1 ∧ Oc (Ep.int .i64) 2 κ' w' 9 laq3_2 luq3_2 q3.2.2.2.2 ∧ Bc κ' w' 16 b0 96 [.slice a0_0 p0.b.length u0_0, .int .i64 q3.1, .int .i64 q3.2.1] ∧ Bc κ' w' 10 b3 66 [.slice laq3_0 q3.2.2.1.length luq3_0, .slice laq3_1 q3.2.2.2.1.length luq3_1, .slice laq3_2 q3.2.2.2.2.length luq3_2]) ?_ ?_
     ·
      revert h
      cases ht103 : (x9.1 == 1) with
      | true =>
       intro h; replace h := cT h
       refine WC.ct rfl ?_
       refine WC.rs [(0, 2), (1, 1), (2, 1), (3, 1), (4, 2), (5, 1)] rfl ?_
       refine WO.k2 rfl rfl rfl rfl (rn_fieldAddr Tryd.runUnderlying66 rfl Tryd.sizeOf60 rfl rfl) ?_
       have f104 := f28.stp (S36.tr S56) rfl rfl
       refine WO.k1 trivial rfl rfl rfl rfl (rn_ld Tryd.isAgg60 rfl rfl (hvE (f104.ld 2 rfl rfl))) ?_
       refine WO.bl (κ := K55) (E := (Ep.int .i64)) 17 [] (parts := [(0, .const (.int .i64 1))]) (cells := [.int .i64 1]) (xs := ([1] : List Int)) rfl rfl rfl rfl rfl rfl Tryd.underlying60 Trydinfo2 rfl rfl rfl rfl rfl rfl rfl rfl rfl rfl ⟨[.int .i64 1], [], Zl K55 w51 [], Zl K55 w51 [], rfl, Zl.sp (l1 := []) (l2 := []) rfl, Zl.sr (l1 := []) (l2 := []), rfl, rfl⟩ fun a21 u21 w105 K106 S107 f108 => ⟨trivial, ?_⟩
       obtain ⟨x22, hx22, h⟩ := Option.bind_eq_some_iff.mp h
       have f109 := f20.stp (S24.tr (S27.tr (S36.tr (S56.tr S107)))) rfl rfl
       refine WO.app (κ := K106) (E := (Ep.int .i64)) 9 [] rfl rfl rfl rfl rfl rfl rfl rfl rfl Tryd.underlying60 Trydinfo2 rfl rfl rfl rfl f109 (Sl.srcP (pu_int _) f108.rdc) sy_false hx22 rfl fun a22 u22 w110 K111 S112 f113 => ⟨trivial, ?_⟩
       refine WO.k2 rfl rfl rfl rfl (rn_fieldAddr Tryd.runUnderlying66 rfl Tryd.sizeOf60 rfl rfl) ?_
       have f114 := f104.stp (S107.tr S112) rfl rfl
       refine WO.stB (κ := K111) 10 (off := 2) (vc := [.slice a22 x22.length u22]) (cs' := [.slice a5_0 x5.1.Arena.Owner.length u5_0, .slice a5_1 x5.1.Arena.Next.length u5_1, .slice a22 x22.length u22]) rfl rfl rfl rfl rfl rfl rfl Tryd.sizeOf60 rfl rfl f114 rfl rfl fun w115 S116 f117 => ⟨trivial, ?_⟩
       refine WO.fin ?_
       have f118 := f18.stp (S24.tr (S27.tr (S36.tr (S56.tr (S107.tr (S112.tr S116)))))) rfl rfl
       have f119 := f19.stp (S24.tr (S27.tr (S36.tr (S56.tr (S107.tr (S112.tr S116)))))) rfl rfl
       have f120 := f113.stp S116 rfl rfl
       have f121 := f59.stp (S107.tr (S112.tr S116)) rfl rfl
       obtain rfl := Option.some.inj h
       exact DN.meet _ ⟨K111, a5_0, u5_0, a5_1, u5_1, a22, u22, rfl, (S107.tr (S112.tr S116)).wk rfl, f118, f119, f120, f121, f117⟩ fun a ha => (ha.more (ha.more (ha.more ha.nil rfl) rfl) rfl)
      | false =>
       intro h; replace h := cF h
       refine WC.cf rfl ?_
       refine WC.seq ?_
       refine WC.rs [(0, 2), (1, 2)] rfl ?_
       refine WO.pn 2 rfl ?_
       refine WO.fin ?_
       refine DN.seq ?_
       obtain ⟨q4, h, hK122⟩ := Option.bind_eq_some_iff.mp h
       refine WC.meet (fun L w' => ∃ (κ' : Col) (laq4_0 : Option Addr) (luq4_0 : Nat) (laq4_1 : Option Addr) (luq4_1 : Nat), L = [(0, .pointer (some ⟨b0, 0, none⟩)), (2, .pointer (some ⟨b2, 0, none⟩)), (3, .pointer (some ⟨b3, 0, none⟩))] ∧ Stp [10, 16, 19, 20, 21] K55 w51 κ' w' ∧ Oc (Ep.int .i64) 2 κ' w' 7 laq4_0 luq4_0 q4.2.2.1 ∧ Oc (Ep.own (Ep.int .i64) 2) 60 κ' w' 8 laq4_1 luq4_1 q4.2.2.2 ∧ Bc κ' w' 16 b0 96 [.slice a0_0 p0.b.length u0_0, .int .i64 q4.1, .int .i64 q4.2.1] ∧ Bc κ' w' 10 b3 66 [.slice laq4_0 q4.2.2.1.length luq4_0, .slice laq4_1 q4.2.2.2.length luq4_1, .slice a5_2 x5.1.Prio.length u5_2]) ?_ ?_
       ·
        revert h
        cases ht130 : (x9.1 == 2) with
        | true =>
         intro h; replace h := cT h
         refine WC.ct rfl ?_
         refine WC.rs [(0, 2), (1, 1), (2, 2), (3, 1)] rfl ?_
         refine WO.pn 1 rfl ?_
         obtain ⟨x27, hx27, h⟩ := Option.bind_eq_some_iff.mp h
         have f131 := f50.stp S56 rfl rfl
         refine WO.call rfl rfl rfl rfl rfl rfl Tryd.call81 (s_l1DrawAny_ok (κ := fun b => mp [(16, 2)] 0 (K55 b)) (p0 := (⟨p0.b, x9.2.1, x9.2.2⟩ : l1Cur)) (Sl.map f131 (mp [(16, 2)] 0) rfl rfl) (f59.map (mp [(16, 2)] 0) rfl rfl) hx27) ?_
         rintro _ w132 ⟨k133, a27_0, u27_0, a27_1, u27_1, rfl, e134, f135, f136, f137⟩
         obtain ⟨K138, S139, m140⟩ := Ent.mixed (l := [(16, 2)]) (κ := K55) e134 17 rfl
         refine ⟨trivial, ?_⟩
         have f142 := f135.mx (no_int _) m140 rfl (rfl : 17 + 3 = 20)
         have f143 := f136.mx (no_own (no_int _) _) m140 rfl (rfl : 17 + 4 = 21)
         have f144 := f137.mx m140 rfl (rfl : 17 + 2 = 19)
         refine WO.k2 rfl rfl rfl rfl (rn_fieldAddr Tryd.runUnderlying66 rfl Tryd.sizeOf64 rfl rfl) ?_
         have f145 := f28.stp (S36.tr (S56.tr S139)) rfl rfl
         refine WO.stB (κ := K138) 10 (off := 0) (vc := [.slice a27_0 x27.1.Owner.length u27_0, .slice a27_1 x27.1.Next.length u27_1]) (cs' := [.slice a27_0 x27.1.Owner.length u27_0, .slice a27_1 x27.1.Next.length u27_1, .slice a5_2 x5.1.Prio.length u5_2]) rfl rfl rfl rfl rfl rfl rfl Tryd.sizeOf64 rfl rfl f145 rfl rfl fun w146 S147 f148 => ⟨trivial, ?_⟩
         refine WO.fin ?_
         have f149 := f142.stp S147 rfl rfl
         have f150 := f143.stp S147 rfl rfl
         have f151 := f144.stp S147 rfl rfl
         obtain rfl := Option.some.inj h
         exact DN.meet _ ⟨(fun b => ren [(20, 7), (21, 8), (19, 16)] (K138 b)), a27_0, u27_0, a27_1, u27_1, rfl, (Stp.ren ((S139.tr S147).wk rfl) [(20, 7), (21, 8), (19, 16)] rfl), (f149.map (ren [(20, 7), (21, 8), (19, 16)]) rfl rfl), (f150.map (ren [(20, 7), (21, 8), (19, 16)]) rfl rfl), (f151.map (ren [(20, 7), (21, 8), (19, 16)]) rfl rfl), (f148.map (ren [(20, 7), (21, 8), (19, 16)]) rfl rfl)⟩ fun a ha => (ha.more (ha.more (ha.more ha.nil rfl) rfl) rfl)
        | false =>
         intro h; replace h := cF h
         refine WC.cf rfl ?_
         refine WC.skip ?_
         have f152 := f18.stp (S24.tr (S27.tr (S36.tr S56))) rfl rfl
         have f153 := f19.stp (S24.tr (S27.tr (S36.tr S56))) rfl rfl
         have f154 := f28.stp (S36.tr S56) rfl rfl
         obtain rfl := Option.some.inj h
         exact DN.meet _ ⟨K55, a5_0, u5_0, a5_1, u5_1, rfl, (Stp.refl _ _).wk rfl, f152, f153, f59, f154⟩ fun a ha => (ha.more (ha.more (ha.more ha.nil rfl) rfl) rfl)
       rintro _ w123 ⟨K124, laq4_0, luq4_0, laq4_1, luq4_1, rfl, S125, f126, f127, f128, f129⟩
       have h := hK122
       have f155 := f20.stp (S24.tr (S27.tr (S36.tr (S56.tr S125)))) rfl rfl
       obtain rfl := Option.some.inj h
       exact DN.meet _ ⟨K124, laq4_0, luq4_0, laq4_1, luq4_1, a5_2, u5_2, rfl, S125.wk rfl, f126, f127, f155, f128, f129⟩ fun a ha => (ha.more (ha.more (ha.more ha.nil rfl) rfl) rfl)
     rintro _ w95 ⟨K96, laq3_0, luq3_0, laq3_1, luq3_1, laq3_2, luq3_2, rfl, S97, f98, f99, f100, f101, f102⟩
     have h := hK94
     obtain rfl := Option.some.inj h
     exact DN.meet _ ⟨K96, laq3_0, luq3_0, laq3_1, luq3_1, laq3_2, luq3_2, rfl, S97.wk rfl, f98, f99, f100, f101, f102⟩ fun a ha => (ha.more (ha.more (ha.more ha.nil rfl) rfl) rfl)
   rintro _ w61 ⟨K62, laq2_0, luq2_0, laq2_1, luq2_1, laq2_2, luq2_2, rfl, S63, f64, f65, f66, f67, f68⟩
   have h := hK60
   refine DN.block ?_
   obtain rfl := Option.some.inj h
   exact DN.meet _ ⟨(fun b => ren [(16, 13)] (K62 b)), laq2_0, luq2_0, laq2_1, luq2_1, laq2_2, luq2_2, rfl, (Stp.ren ((S56.tr S63).wk rfl) [(16, 13)] rfl), (f64.map (ren [(16, 13)]) rfl rfl), (f65.map (ren [(16, 13)]) rfl rfl), (f66.map (ren [(16, 13)]) rfl rfl), (f67.map (ren [(16, 13)]) rfl rfl), (f68.map (ren [(16, 13)]) rfl rfl)⟩ fun a ha => (ha.more (ha.more (ha.more ha.nil rfl) rfl) rfl)
  | false =>
   intro h; replace h := cF h
   refine WC.cf rfl ?_
   refine WC.skip ?_
   have f156 := f18.stp (S24.tr (S27.tr S36)) rfl rfl
   have f157 := f19.stp (S24.tr (S27.tr S36)) rfl rfl
   have f158 := f20.stp (S24.tr (S27.tr S36)) rfl rfl
   have f159 := f28.stp S36 rfl rfl
   obtain rfl := Option.some.inj h
   exact DN.meet _ ⟨K35, a5_0, u5_0, a5_1, u5_1, a5_2, u5_2, rfl, (Stp.refl _ _).wk rfl, f156, f157, f158, f39, f159⟩ fun a ha => (ha.more (ha.more (ha.more ha.nil rfl) rfl) rfl)
 rintro _ w41 ⟨K42, laq1_0, luq1_0, laq1_1, luq1_1, laq1_2, luq1_2, rfl, S43, f44, f45, f46, f47, f48⟩
 have h := hK40
 refine DN.seq ?_
 refine WC.seq ?_
 refine WC.rs [(0, 1), (1, 1)] rfl ?_
 refine WO.k1 trivial rfl rfl rfl rfl (rn_la (cs := [.slice laq1_0 q1.2.2.1.length luq1_0, .slice laq1_1 q1.2.2.2.1.length luq1_1, .slice laq1_2 q1.2.2.2.2.length luq1_2]) Tryd.isAgg66 Tryd.sizeOf66 rfl rfl rfl (haE f48.cells)) ?_
 have f160 := f4.stp (S15.tr (S24.tr (S27.tr (S36.tr S43)))) rfl rfl
 refine WO.stB0 (κ := K42) 3 (vc := [.slice laq1_0 q1.2.2.1.length luq1_0, .slice laq1_1 q1.2.2.2.1.length luq1_1, .slice laq1_2 q1.2.2.2.2.length luq1_2]) rfl rfl rfl rfl rfl rfl rfl Tryd.sizeOf66 rfl rfl f160 rfl fun w161 S162 f163 => ⟨trivial, ?_⟩
 refine WO.fin ?_
 refine DN.seq ?_
 refine WC.ret ?_
 have f164 := hE.stp (S3.tr (S15.tr (S24.tr (S27.tr (S36.tr (S43.tr S162)))))) rfl rfl
 have f165 := f44.stp S162 rfl rfl
 have f166 := f45.stp S162 rfl rfl
 have f167 := f46.stp S162 rfl rfl
 have f168 := f47.stp S162 rfl rfl
 refine DN.res (l := [.cell 2 66]) Tryd.results59 (res_cellA rfl f163 Tryd.isAgg66 Tryd.sizeOf66 rfl rfl) rfl ?_
 obtain rfl := Option.some.inj h
 exact ⟨(fun b => ren [(7, 3), (8, 4), (9, 5), (13, 2)] (K42 b)), laq1_0, luq1_0, laq1_1, luq1_1, laq1_2, luq1_2, rfl, (f164.map (ren [(7, 3), (8, 4), (9, 5), (13, 2)]) rfl rfl), (f165.map (ren [(7, 3), (8, 4), (9, 5), (13, 2)]) rfl rfl), (f166.map (ren [(7, 3), (8, 4), (9, 5), (13, 2)]) rfl rfl), (f167.map (ren [(7, 3), (8, 4), (9, 5), (13, 2)]) rfl rfl), (f168.map (ren [(7, 3), (8, 4), (9, 5), (13, 2)]) rfl rfl)⟩

/- loop.example/g00869/spec.l32Draw -/
theorem s_l32Draw_ok {w : World} {κ : Col} {a0_0 : Option Addr} {u0_0 : Nat} {p0 : l1Cur} {a1_0_0 : Option Addr} {u1_0_0 : Nat} {a1_0_1 : Option Addr} {u1_0_1 : Nat} {a1_1 : Option Addr} {u1_1 : Nat} {p1 : Parity} {b0 : Nat} (g0_0 : Rd (Rp.int .u8) κ w 0 a0_0 u0_0 p0.b) (g1_0_0 : Rd (Rp.int .i64) κ w 0 a1_0_0 u1_0_0 p1.Arena.Owner) (g1_0_1 : Rd (Rp.sl (Rp.int .i64)) κ w 0 a1_0_1 u1_0_1 p1.Arena.Next) (g1_1 : Rd (Rp.int .i64) κ w 0 a1_1 u1_1 p1.Prio) (gb0 : Bc κ w 2 b0 96 [.slice a0_0 p0.b.length u0_0, .int .i64 p0.i, .int .i64 p0.h]) {r : Edit × Int × Int} (h : s_l32Draw p0 p1 = some r) : Ret Tryd.prog 60 [.pointer (some ⟨b0, 0, none⟩), .agg #[.slice a1_0_0 p1.Arena.Owner.length u1_0_0, .slice a1_0_1 p1.Arena.Next.length u1_0_1, .slice a1_1 p1.Prio.length u1_1]] w (fun v w' => ∃ (κ' : Col), v = .agg #[.int .i64 r.1.Kind, .int .i64 r.1.V, .int .i64 r.1.N] ∧ Ent κ w κ' w' ∧ Bc κ' w' 2 b0 96 [.slice a0_0 p0.b.length u0_0, .int .i64 r.2.1, .int .i64 r.2.2]) := by
 unfold s_l32Draw at h
 refine Ret.enter Tryd.func60 rfl Tryd.ntmps60 rfl ?_
 dsimp only [envOf]
 have hE := Ent.refl κ w
 refine WC.seq ?_
 refine WC.rs [(0, 1), (1, 1)] rfl ?_
 refine WO.box (κ := κ) 3 rfl rfl rfl rfl rfl rfl rfl fun b3 w1 K2 S3 f4 => ⟨trivial, ?_⟩
 refine WO.alloc (κ := K2) 4 rfl rfl rfl rfl rfl Tryd.zeroValue25 rfl fun b4 w5 K6 S7 f8 => ⟨trivial, ?_⟩
 refine WO.fin ?_
 refine DN.seq ?_
 refine WC.seq ?_
 refine WC.rs [(0, 2), (1, 1), (2, 2), (3, 2)] rfl ?_
 refine WO.k2 rfl rfl rfl rfl (rn_fieldAddr Tryd.runUnderlying66 rfl Tryd.sizeOf60 rfl rfl) ?_
 have f9 := f4.stp S7 rfl rfl
 refine WO.k1 trivial rfl rfl rfl rfl (rn_ld Tryd.isAgg60 rfl rfl (hvE (f9.ld 2 rfl rfl))) ?_
 refine WO.k2 rfl rfl rfl rfl (rn_len Tryd.runUnderlying60 rfl rfl) ?_
 refine WO.pn 1 rfl ?_
 refine WO.fin ?_
 refine DN.seq ?_
 refine WC.seq ?_
 refine WC.rs [(0, 2), (1, 1), (2, 2), (3, 2), (4, 2), (5, 1), (6, 2), (7, 1), (8, 1)] rfl ?_
 refine WO.pn 1 rfl ?_
 obtain ⟨x11, hx11, h⟩ := Option.bind_eq_some_iff.mp h
 have f10 := g0_0.stp (S3.tr S7) rfl rfl
 have f11 := gb0.stp (S3.tr S7) rfl rfl
 refine WO.call rfl rfl rfl rfl rfl rfl Tryd.call35 (s_l1Below_ok (κ := fun b => mp [(2, 2)] 0 (K6 b)) (p0 := p0) (Sl.map f10 (mp [(2, 2)] 0) rfl rfl) (f11.map (mp [(2, 2)] 0) rfl rfl) hx11) ?_
 rintro _ w12 ⟨k13, rfl, e14, f15⟩
 obtain ⟨K16, S17, m18⟩ := Ent.mixed (l := [(2, 2)]) (κ := K6) e14 5 rfl
 refine ⟨trivial, ?_⟩
 have f20 := f15.mx m18 rfl (rfl : 5 + 2 = 7)
 refine WO.pn 3 rfl ?_
 obtain ⟨x15, hx15, h⟩ := Option.bind_eq_some_iff.mp h
 have f21 := f10.stp S17 rfl rfl
 refine WO.call rfl rfl rfl rfl rfl rfl Tryd.call35 (s_l1Below_ok (κ := fun b => mp [(7, 2)] 0 (K16 b)) (p0 := (⟨p0.b, x11.2.1, x11.2.2⟩ : l1Cur)) (Sl.map f21 (mp [(7, 2)] 0) rfl rfl) (f20.map (mp [(7, 2)] 0) rfl rfl) hx15) ?_
 rintro _ w22 ⟨k23, rfl, e24, f25⟩
 obtain ⟨K26, S27, m28⟩ := Ent.mixed (l := [(7, 2)]) (κ := K16) e24 8 rfl
 refine ⟨trivial, ?_⟩
 have f30 := f25.mx m28 rfl (rfl : 8 + 2 = 10)
 refine WO.k2 rfl rfl rfl rfl (rn_build (parts := [(0, .tmp 12), (1, .tmp 15)]) (cells := [.int .i64 (IntKind.i64.wrap (1 + x11.1)), .int .i64 x15.1, .int .i64 0]) rfl rfl (by kernel_rfl)) ?_
 refine WO.alloc (κ := K26) 11 rfl rfl rfl rfl rfl Tryd.zeroValue25 rfl fun b6 w31 K32 S33 f34 => ⟨trivial, ?_⟩
 refine WO.stB0 (κ := K32) 11 (vc := [.int .i64 (IntKind.i64.wrap (1 + x11.1)), .int .i64 x15.1, .int .i64 0]) rfl rfl rfl rfl rfl rfl rfl Tryd.sizeOf25 rfl rfl f34 rfl fun w35 S36 f37 => ⟨trivial, ?_⟩
 refine WO.fin ?_
 refine DN.seq ?_
 refine WC.seq ?_
 refine WC.seq ?_
 refine WC.rs [(0, 2), (1, 1)] rfl ?_
 refine WO.k2 rfl rfl rfl rfl (rn_fieldAddr Tryd.runUnderlying25 rfl Tryd.sizeOf2 rfl rfl) ?_
 refine WO.k1 trivial rfl rfl rfl rfl (rn_ld Tryd.isAgg2 rfl rfl (hvE (f37.ld 0 rfl rfl))) ?_
 refine WO.fin ?_
 refine DN.seq ?_
 refine WC.block ?_
 refine WC.seq ?_
 refine WC.rs [(0, 2), (1, 2)] rfl ?_
 refine WO.pn 2 rfl ?_
 refine WO.fin ?_
 refine DN.seq ?_
 obtain ⟨q1, h, hK38⟩ := Option.bind_eq_some_iff.mp h
 refine WC.meet (fun L w' => ∃ (κ' : Col), L = [(0, .pointer (some ⟨b0, 0, none⟩)), (4, .pointer (some ⟨b4, 0, none⟩)), (5, .int .i64 (p1.Prio.length : Int)), (6, .pointer (some ⟨b6, 0, none⟩))] ∧ Stp [10, 11, 14, 17] K32 w35 κ' w' ∧ Bc κ' w' 10 b0 96 [.slice a0_0 p0.b.length u0_0, .int .i64 q1.1, .int .i64 q1.2.1] ∧ Bc κ' w' 11 b6 25 [.int .i64 (IntKind.i64.wrap (1 + x11.1)), .int .i64 x15.1, .int .i64 q1.2.2]) ?_ ?_
 ·
  revert h
  cases ht44 : ((IntKind.i64.wrap (1 + x11.1)) == 1) with
  | true =>
   intro h; replace h := cT h
   refine WC.ct rfl ?_
   refine WC.rs [(0, 2), (1, 1), (2, 2), (3, 1)] rfl ?_
   refine WO.pn 1 rfl ?_
   obtain ⟨x22, hx22, h⟩ := Option.bind_eq_some_iff.mp h
   have f45 := f21.stp (S27.tr (S33.tr S36)) rfl rfl
   have f46 := f30.stp (S33.tr S36) rfl rfl
   refine WO.call rfl rfl rfl rfl rfl rfl Tryd.call35 (s_l1Below_ok (κ := fun b => mp [(10, 2)] 0 (K32 b)) (p0 := (⟨p0.b, x15.2.1, x15.2.2⟩ : l1Cur)) (Sl.map f45 (mp [(10, 2)] 0) rfl rfl) (f46.map (mp [(10, 2)] 0) rfl rfl) hx22) ?_
   rintro _ w47 ⟨k48, rfl, e49, f50⟩
   obtain ⟨K51, S52, m53⟩ := Ent.mixed (l := [(10, 2)]) (κ := K32) e49 12 rfl
   refine ⟨trivial, ?_⟩
   have f55 := f50.mx m53 rfl (rfl : 12 + 2 = 14)
   refine WO.k2 rfl rfl rfl rfl (rn_fieldAddr Tryd.runUnderlying25 rfl Tryd.sizeOf2 rfl rfl) ?_
   have f56 := f37.stp S52 rfl rfl
   refine WO.stB (κ := K51) 11 (off := 2) (vc := [.int .i64 x22.1]) (cs' := [.int .i64 (IntKind.i64.wrap (1 + x11.1)), .int .i64 x15.1, .int .i64 x22.1]) rfl rfl rfl rfl rfl rfl rfl Tryd.sizeOf2 rfl rfl f56 rfl rfl fun w57 S58 f59 => ⟨trivial, ?_⟩
   refine WO.fin ?_
   have f60 := f55.stp S58 rfl rfl
   obtain rfl := Option.some.inj h
   exact DN.meet _ ⟨(fun b => ren [(14, 10)] (K51 b)), rfl, (Stp.ren ((S52.tr S58).wk rfl) [(14, 10)] rfl), (f60.map (ren [(14, 10)]) rfl rfl), (f59.map (ren [(14, 10)]) rfl rfl)⟩ fun a ha => (ha.more (ha.more (ha.more (ha.more ha.nil rfl) rfl) rfl) rfl)
  | false =>
   intro h; replace h := cF h
   refine WC.cf rfl ?_
   refine WC.seq ?_
   refine WC.rs [(0, 2), (1, 2)] rfl ?_
   refine WO.pn 2 rfl ?_
   refine WO.fin ?_
   refine DN.seq ?_
   obtain ⟨q2, h, hK61⟩ := Option.bind_eq_some_iff.mp h
   refine WC.meet (fun L w' => ∃ (κ' : Col), L = [(0, .pointer (some ⟨b0, 0, none⟩)), (4, .pointer (some ⟨b4, 0, none⟩)), (5, .int .i64 (p1.Prio.length : Int)), (6, .pointer (some ⟨b6, 0, none⟩))] ∧ Stp [10, 11, 14, 17] K32 w35 κ' w' ∧ Bc κ' w' 10 b0 96 [.slice a0_0 p0.b.length u0_0, .int .i64 q2.1, .int .i64 q2.2.1] ∧ Bc κ' w' 11 b6 25 [.int .i64 (IntKind.i64.wrap (1 + x11.1)), .int .i64 x15.1, .int .i64 q2.2.2]) ?_ ?_
   ·
    revert h
    cases ht67 : ((IntKind.i64.wrap (1 + x11.1)) == 2) with
    | true =>
     intro h; replace h := cT h
     refine WC.ct rfl ?_
     refine WC.rs [(0, 2), (1, 1), (2, 2), (3, 1)] rfl ?_
     refine WO.pn 1 rfl ?_
     obtain ⟨x27, hx27, h⟩ := Option.bind_eq_some_iff.mp h
     have f68 := f21.stp (S27.tr (S33.tr S36)) rfl rfl
     have f69 := f30.stp (S33.tr S36) rfl rfl
     refine WO.call rfl rfl rfl rfl rfl rfl Tryd.call35 (s_l1Below_ok (κ := fun b => mp [(10, 2)] 0 (K32 b)) (p0 := (⟨p0.b, x15.2.1, x15.2.2⟩ : l1Cur)) (Sl.map f68 (mp [(10, 2)] 0) rfl rfl) (f69.map (mp [(10, 2)] 0) rfl rfl) hx27) ?_
     rintro _ w70 ⟨k71, rfl, e72, f73⟩
     obtain ⟨K74, S75, m76⟩ := Ent.mixed (l := [(10, 2)]) (κ := K32) e72 12 rfl
     refine ⟨trivial, ?_⟩
     have f78 := f73.mx m76 rfl (rfl : 12 + 2 = 14)
     refine WO.k2 rfl rfl rfl rfl (rn_fieldAddr Tryd.runUnderlying25 rfl Tryd.sizeOf2 rfl rfl) ?_
     have f79 := f37.stp S75 rfl rfl
     refine WO.stB (κ := K74) 11 (off := 2) (vc := [.int .i64 x27.1]) (cs' := [.int .i64 (IntKind.i64.wrap (1 + x11.1)), .int .i64 x15.1, .int .i64 x27.1]) rfl rfl rfl rfl rfl rfl rfl Tryd.sizeOf2 rfl rfl f79 rfl rfl fun w80 S81 f82 => ⟨trivial, ?_⟩
     refine WO.fin ?_
     have f83 := f78.stp S81 rfl rfl
     obtain rfl := Option.some.inj h
     exact DN.meet _ ⟨(fun b => ren [(14, 10)] (K74 b)), rfl, (Stp.ren ((S75.tr S81).wk rfl) [(14, 10)] rfl), (f83.map (ren [(14, 10)]) rfl rfl), (f82.map (ren [(14, 10)]) rfl rfl)⟩ fun a ha => (ha.more (ha.more (ha.more (ha.more ha.nil rfl) rfl) rfl) rfl)
    | false =>
     intro h; replace h := cF h
     refine WC.cf rfl ?_
     refine WC.seq ?_
     refine WC.rs [(0, 2), (1, 2)] rfl ?_
     refine WO.pn 2 rfl ?_
     refine WO.fin ?_
     refine DN.seq ?_
     obtain ⟨q3, h, hK84⟩ := Option.bind_eq_some_iff.mp h
     refine WC.meet (fun L w' => ∃ (κ' : Col), L = [(0, .pointer (some ⟨b0, 0, none⟩)), (4, .pointer (some ⟨b4, 0, none⟩)), (5, .int .i64 (p1.Prio.length : Int)), (6, .pointer (some ⟨b6, 0, none⟩))] ∧ Stp [10, 11, 14, 17] K32 w35 κ' w' ∧ Bc κ' w' 10 b0 96 [.slice a0_0 p0.b.length u0_0, .int .i64 q3.1, .int .i64 q3.2.1] ∧ Bc κ' w' 11 b6 25 [.int .i64 (IntKind.i64.wrap (1 + x11.1)), .int .i64 x15.1, .int .i64 q3.2.2]) ?_ ?_
     ·
      revert h
      cases ht90 : ((IntKind.i64.wrap (1 + x11.1)) == 3) with
      | true =>
       intro h; replace h := cT h
       refine WC.ct rfl ?_
       refine WC.rs [(0, 2), (1, 2), (2, 1), (3, 2), (4, 1)] rfl ?_
       refine WO.pn 2 rfl ?_
       obtain ⟨x33, hx33, h⟩ := Option.bind_eq_some_iff.mp h
       have f91 := f21.stp (S27.tr (S33.tr S36)) rfl rfl
       have f92 := f30.stp (S33.tr S36) rfl rfl
       refine WO.call rfl rfl rfl rfl rfl rfl Tryd.call35 (s_l1Below_ok (κ := fun b => mp [(10, 2)] 0 (K32 b)) (p0 := (⟨p0.b, x15.2.1, x15.2.2⟩ : l1Cur)) (Sl.map f91 (mp [(10, 2)] 0) rfl rfl) (f92.map (mp [(10, 2)] 0) rfl rfl) hx33) ?_
       rintro _ w93 ⟨k94, rfl, e95, f96⟩
       obtain ⟨K97, S98, m99⟩ := Ent.mixed (l := [(10, 2)]) (κ := K32) e95 12 rfl
       refine ⟨trivial, ?_⟩
       have f101 := f96.mx m99 rfl (rfl : 12 + 2 = 14)
       refine WO.k2 rfl rfl rfl rfl (rn_fieldAddr Tryd.runUnderlying25 rfl Tryd.sizeOf2 rfl rfl) ?_
       have f102 := f37.stp S98 rfl rfl
       refine WO.stB (κ := K97) 11 (off := 2) (vc := [.int .i64 x33.1]) (cs' := [.int .i64 (IntKind.i64.wrap (1 + x11.1)), .int .i64 x15.1, .int .i64 x33.1]) rfl rfl rfl rfl rfl rfl rfl Tryd.sizeOf2 rfl rfl f102 rfl rfl fun w103 S104 f105 => ⟨trivial, ?_⟩
       refine WO.fin ?_
       have f106 := f101.stp S104 rfl rfl
       obtain rfl := Option.some.inj h
       exact DN.meet _ ⟨(fun b => ren [(14, 10)] (K97 b)), rfl, (Stp.ren ((S98.tr S104).wk rfl) [(14, 10)] rfl), (f106.map (ren [(14, 10)]) rfl rfl), (f105.map (ren [(14, 10)]) rfl rfl)⟩ fun a ha => (ha.more (ha.more (ha.more (ha.more ha.nil rfl) rfl) rfl) rfl)
      | false =>
       intro h; replace h := cF h
       refine WC.cf rfl ?_
       refine WC.seq ?_
       refine WC.rs [(0, 2), (1, 2)] rfl ?_
       refine WO.pn 2 rfl ?_
       refine WO.fin ?_
       refine DN.seq ?_
       obtain ⟨q4, h, hK107⟩ := Option.bind_eq_some_iff.mp h
       refine WC.meet (fun L w' => ∃ (κ' : Col), L = [(0, .pointer (some ⟨b0, 0, none⟩)), (4, .pointer (some ⟨b4, 0, none⟩)), (5, .int .i64 (p1.Prio.length : Int)), (6, .pointer (some ⟨b6, 0, none⟩))] ∧ Stp [10, 11, 14, 17] K32 w35 κ' w' ∧ Bc κ' w' 10 b0 96 [.slice a0_0 p0.b.length u0_0, .int .i64 q4.1, .int .i64 q4.2.1] ∧ Bc κ' w' 11 b6 25 [.int .i64 (IntKind.i64.wrap (1 + x11.1)), .int .i64 x15.1, .int .i64 q4.2.2]) ?_ ?_
       ·
        revert h
        cases ht113 : ((IntKind.i64.wrap (1 + x11.1)) == 4) with
        | true =>
         intro h; replace h := cT h
         refine WC.ct rfl ?_
         refine WC.seq ?_
         refine WC.rs [(0, 2), (1, 2), (2, 1), (3, 2), (4, 1)] rfl ?_
         refine WO.pn 2 rfl ?_
         obtain ⟨x39, hx39, h⟩ := Option.bind_eq_some_iff.mp h
         have f114 := f21.stp (S27.tr (S33.tr S36)) rfl rfl
         have f115 := f30.stp (S33.tr S36) rfl rfl
         refine WO.call rfl rfl rfl rfl rfl rfl Tryd.call35 (s_l1Below_ok (κ := fun b => mp [(10, 2)] 0 (K32 b)) (p0 := (⟨p0.b, x15.2.1, x15.2.2⟩ : l1Cur)) (Sl.map f114 (mp [(10, 2)] 0) rfl rfl) (f115.map (mp [(10, 2)] 0) rfl rfl) hx39) ?_
         rintro _ w116 ⟨k117, rfl, e118, f119⟩
         obtain ⟨K120, S121, m122⟩ := Ent.mixed (l := [(10, 2)]) (κ := K32) e118 12 rfl
         refine ⟨trivial, ?_⟩
         have f124 := f119.mx m122 rfl (rfl : 12 + 2 = 14)
         refine WO.k2 rfl rfl rfl rfl (rn_fieldAddr Tryd.runUnderlying25 rfl Tryd.sizeOf2 rfl rfl) ?_
         have f125 := f37.stp S121 rfl rfl
         refine WO.stB (κ := K120) 11 (off := 2) (vc := [.int .i64 x39.1]) (cs' := [.int .i64 (IntKind.i64.wrap (1 + x11.1)), .int .i64 x15.1, .int .i64 x39.1]) rfl rfl rfl rfl rfl rfl rfl Tryd.sizeOf2 rfl rfl f125 rfl rfl fun w126 S127 f128 => ⟨trivial, ?_⟩
         refine WO.fin ?_
         refine DN.seq ?_
         refine WC.seq ?_
         refine WC.rs [(0, 2), (1, 1), (2, 2), (3, 2), (4, 1), (5, 2), (6, 2), (7, 2), (8, 2), (9, 2), (10, 1), (11, 2), (12, 1), (13, 2), (14, 1), (15, 2), (16, 2), (17, 2)] rfl ?_
         refine WO.k2 rfl rfl rfl rfl (rn_fieldAddr Tryd.runUnderlying25 rfl Tryd.sizeOf2 rfl rfl) ?_
         refine WO.k1 trivial rfl rfl rfl rfl (rn_ld Tryd.isAgg2 rfl rfl (hvE (f128.ld 1 rfl rfl))) ?_
         refine WO.k2 rfl rfl rfl rfl (rn_fieldAddr Tryd.runUnderlying66 rfl Tryd.sizeOf64 rfl rfl) ?_
         refine WO.k2 rfl rfl rfl rfl (rn_fieldAddr Tryd.runUnderlying64 rfl Tryd.sizeOf35 rfl rfl) ?_
         have f129 := f9.stp (S17.tr (S27.tr (S33.tr (S36.tr (S121.tr S127))))) rfl rfl
         refine WO.k1 trivial rfl rfl rfl rfl (rn_ld Tryd.isAgg35 rfl rfl (hvE (f129.ld 1 rfl rfl))) ?_
         refine WO.k2 rfl rfl rfl rfl (rn_len Tryd.runUnderlying35 rfl rfl) ?_
         refine WO.pn 2 rfl ?_
         obtain ⟨p58, h, hK130⟩ := Option.bind_eq_some_iff.mp h
         refine WO.meet [(8, 2), (9, 2), (10, 1), (11, 2), (12, 1), (13, 2), (14, 1), (15, 2), (16, 2), (17, 2)] [] (fun L w' => L = [(0, .pointer (some ⟨b0, 0, none⟩)), (3, .pointer (some ⟨b3, 0, none⟩)), (4, .pointer (some ⟨b4, 0, none⟩)), (5, .int .i64 (p1.Prio.length : Int)), (6, .pointer (some ⟨b6, 0, none⟩)), (58, .bool p58)] ∧ ∃ κ', Stp [] K120 w126 κ' w') trivial ?_ ?_
         ·
          revert h
          cases ht131 : decide (x15.1 < (p1.Arena.Next.length : Int)) with
          | true =>
           intro h; replace h := cT h
           refine WO.k2 rfl rfl rfl rfl (rn_fieldAddr Tryd.runUnderlying66 rfl Tryd.sizeOf64 rfl rfl) ?_
           refine WO.k2 rfl rfl rfl rfl (rn_fieldAddr Tryd.runUnderlying64 rfl Tryd.sizeOf35 rfl rfl) ?_
           refine WO.k1 trivial rfl rfl rfl rfl (rn_ld Tryd.isAgg35 rfl rfl (hvE (f129.ld 1 rfl rfl))) ?_
           refine WO.k2 rfl rfl rfl rfl (rn_fieldAddr Tryd.runUnderlying25 rfl Tryd.sizeOf2 rfl rfl) ?_
           refine WO.k1 trivial rfl rfl rfl rfl (rn_ld Tryd.isAgg2 rfl rfl (hvE (f128.ld 1 rfl rfl))) ?_
           obtain ⟨x54, hx54, h⟩ := Option.bind_eq_some_iff.mp h
           refine WO.k2 rfl rfl rfl rfl (rn_index g1_0_1 hx54 Tryd.runUnderlying35 Tryd.sizeOf60 rfl rfl rfl rfl) ?_
           have f132 := g1_0_1.stp (S3.tr (S7.tr (S17.tr (S27.tr (S33.tr (S36.tr (S121.tr S127))))))) rfl rfl
           obtain ⟨ax54, ux54, f133, hl134⟩ := f132.gSl hx54
           refine WO.k1 trivial rfl rfl rfl rfl (rn_ld Tryd.isAgg60 rfl rfl (hvE hl134)) ?_
           refine WO.k2 rfl rfl rfl rfl (rn_len Tryd.runUnderlying60 rfl rfl) ?_
           refine WO.pn 2 rfl ?_
           obtain rfl := Option.some.inj h
           exact WO.met _ trivial ⟨rfl, _, (Stp.refl _ _).wk rfl⟩ fun a ha => (ha.more (ha.more (ha.more (ha.more (ha.more (ha.more ha.nil rfl) rfl) rfl) rfl) rfl) rfl)
          | false =>
           intro h; replace h := cF h
           refine WO.pn 2 rfl ?_
           refine WO.ls rfl rfl rfl rfl ?_
           refine WO.pn 1 rfl ?_
           refine WO.ls rfl rfl rfl rfl ?_
           refine WO.pn 1 rfl ?_
           refine WO.ls rfl rfl rfl rfl ?_
           refine WO.pn 3 rfl ?_
           obtain rfl := Option.some.inj h
           exact WO.met _ trivial ⟨rfl, _, (Stp.refl _ _).wk rfl⟩ fun a ha => (ha.more (ha.more (ha.more (ha.more (ha.more (ha.more ha.nil rfl) rfl) rfl) rfl) rfl) rfl)
         rintro _ w135 _ ⟨rfl, K136, S137⟩
         have h := hK130
         refine WO.fin ?_
         refine DN.seq ?_
         obtain ⟨q5, h, hK138⟩ := Option.bind_eq_some_iff.mp h
         refine WC.meet (fun L w' => ∃ (κ' : Col), L = [(0, .pointer (some ⟨b0, 0, none⟩)), (4, .pointer (some ⟨b4, 0, none⟩)), (5, .int .i64 (p1.Prio.length : Int)), (6, .pointer (some ⟨b6, 0, none⟩))] ∧ Stp [11, 14, 17] K136 w135 κ' w' ∧ Bc κ' w' 14 b0 96 [.slice a0_0 p0.b.length u0_0, .int .i64 q5.1, .int .i64 q5.2.1] ∧ Bc κ' w' 11 b6 25 [.int .i64 (IntKind.i64.wrap (1 + x11.1)), .int .i64 x15.1, .int .i64 q5.2.2]) ?_ ?_
         ·
          revert h
          cases ht144 : p58 with
          | true =>
           intro h; replace h := cT h
           refine WC.ct rfl ?_
           refine WC.rx (κ := K136) [0, 3, 11] (some 20) [(0, 2), (1, 2), (3, 2), (7, 2), (8, 2), (9, 2), (11, 2), (2, 0), (4, 0), (5, 2), (6, 0), (10, 0), (12, 0), (13, 2), (14, 0), (15, 2), (16, 1), (17, 2), (18, 0), (19, 2)] [(20, 1)] (by kernel_rfl) (by kernel_rfl) fun w146 S145 => ?_
           refine WO.k2 rfl rfl rfl rfl (rn_fieldAddr Tryd.runUnderlying66 rfl Tryd.sizeOf64 rfl rfl) ?_
           refine WO.k2 rfl rfl rfl rfl (rn_fieldAddr Tryd.runUnderlying64 rfl Tryd.sizeOf35 rfl rfl) ?_
           refine WO.k2 rfl rfl rfl rfl (rn_fieldAddr Tryd.runUnderlying25 rfl Tryd.sizeOf2 rfl rfl) ?_
           refine WO.pn 1 rfl ?_
           refine WO.k2 rfl rfl rfl rfl (rn_fieldAddr Tryd.runUnderlying66 rfl Tryd.sizeOf64 rfl rfl) ?_
           refine WO.k2 rfl rfl rfl rfl (rn_fieldAddr Tryd.runUnderlying64 rfl Tryd.sizeOf35 rfl rfl) ?_
           refine WO.k2 rfl rfl rfl rfl (rn_fieldAddr Tryd.runUnderlying25 rfl Tryd.sizeOf2 rfl rfl) ?_
           have f147 := f129.stp (S137.tr S145) rfl rfl
           refine WO.k0 rfl rfl rfl rfl (rn_ld Tryd.isAgg35 rfl rfl (hvC (f147.ld 1 rfl rfl) rfl)) ?_
           have f148 := f128.stp (S137.tr S145) rfl rfl
           refine WO.k0 rfl rfl rfl rfl (rn_ld Tryd.isAgg2 rfl rfl (hvC (f148.ld 1 rfl rfl) rfl)) ?_
           obtain ⟨x64, hx64, h⟩ := Option.bind_eq_some_iff.mp h
           refine WO.k2 rfl rfl rfl rfl (rn_index g1_0_1 hx64 Tryd.runUnderlying35 Tryd.sizeOf60 rfl rfl rfl rfl) ?_
           have f149 := g1_0_1.stp (S3.tr (S7.tr (S17.tr (S27.tr (S33.tr (S36.tr (S121.tr (S127.tr (S137.tr S145))))))))) rfl rfl
           obtain ⟨ax64, ux64, f150, hl151⟩ := f149.gSl hx64
           refine WO.k0 rfl rfl rfl rfl (rn_ld Tryd.isAgg60 rfl rfl (hvC hl151 rfl)) ?_
           refine WO.k0 rfl rfl rfl rfl (rn_ld Tryd.isAgg35 rfl rfl (hvC (f147.ld 1 rfl rfl) rfl)) ?_
           refine WO.k0 rfl rfl rfl rfl (rn_ld Tryd.isAgg2 rfl rfl (hvC (f148.ld 1 rfl rfl) rfl)) ?_
           obtain ⟨x72, hx72, h⟩ := Option.bind_eq_some_iff.mp h
           refine WO.k2 rfl rfl rfl rfl (rn_index f149 hx72 Tryd.runUnderlying35 Tryd.sizeOf60 rfl rfl rfl rfl) ?_
           obtain ⟨ax72, ux72, f152, hl153⟩ := f149.gSl hx72
           refine WO.k0 rfl rfl rfl rfl (rn_ld Tryd.isAgg60 rfl rfl (hvC hl153 rfl)) ?_
           refine WO.k2 rfl rfl rfl rfl (rn_len Tryd.runUnderlying60 rfl rfl) ?_
           obtain ⟨x75, hx75, h⟩ := Option.bind_eq_some_iff.mp h
           have f154 := f114.stp (S121.tr (S127.tr (S137.tr S145))) rfl rfl
           have f155 := f124.stp (S127.tr (S137.tr S145)) rfl rfl
           refine WO.call rfl rfl rfl rfl rfl rfl Tryd.call35 (s_l1Below_ok (κ := fun b => mp [(14, 2)] 0 (K136 b)) (p0 := (⟨p0.b, x39.2.1, x39.2.2⟩ : l1Cur)) (Sl.map f154 (mp [(14, 2)] 0) rfl rfl) (f155.map (mp [(14, 2)] 0) rfl rfl) hx75) ?_
           rintro _ w156 ⟨k157, rfl, e158, f159⟩
           obtain ⟨K160, S161, m162⟩ := Ent.mixed (l := [(14, 2)]) (κ := K136) e158 15 rfl
           refine ⟨(S161.cl rfl), ?_⟩
           have f164 := f159.mx m162 rfl (rfl : 15 + 2 = 17)
           obtain ⟨x76, hx76, h⟩ := Option.bind_eq_some_iff.mp h
           refine WO.k2 rfl rfl rfl rfl (rn_index f150 hx76 Tryd.runUnderlying60 Tryd.sizeOf2 rfl rfl rfl rfl) ?_
           refine WO.k0 rfl rfl rfl rfl (rn_ld Tryd.isAgg2 rfl rfl (hvC (f150.gInt hx76) rfl)) ?_
           refine WO.k2 rfl rfl rfl rfl (rn_fieldAddr Tryd.runUnderlying25 rfl Tryd.sizeOf2 rfl rfl) ?_
           refine WO.nx ?_
           have f165 := f148.stp S161 rfl rfl
           refine WO.stB (κ := K160) 11 (off := 2) (vc := [.int .i64 x76]) (cs' := [.int .i64 (IntKind.i64.wrap (1 + x11.1)), .int .i64 x15.1, .int .i64 x76]) rfl rfl rfl rfl rfl rfl rfl Tryd.sizeOf2 rfl rfl f165 rfl rfl fun w166 S167 f168 => ⟨trivial, ?_⟩
           refine WO.fin ?_
           have f169 := f164.stp S167 rfl rfl
           obtain rfl := Option.some.inj h
           exact DN.meet _ ⟨(fun b => ren [(17, 14)] (K160 b)), rfl, (Stp.ren ((S145.tr (S161.tr S167)).wk rfl) [(17, 14)] rfl), (f169.map (ren [(17, 14)]) rfl rfl), (f168.map (ren [(17, 14)]) rfl rfl)⟩ fun a ha => (ha.more (ha.more (ha.more (ha.more ha.nil rfl) rfl) rfl) rfl)
          | false =>
           intro h; replace h := cF h
           refine WC.cf rfl ?_
           refine WC.skip ?_
           have f170 := f124.stp (S127.tr S137) rfl rfl
           have f171 := f128.stp S137 rfl rfl
           obtain rfl := Option.some.inj h
           exact DN.meet _ ⟨K136, rfl, (Stp.refl _ _).wk rfl, f170, f171⟩ fun a ha => (ha.more (ha.more (ha.more (ha.more ha.nil rfl) rfl) rfl) rfl)
         rintro _ w139 ⟨K140, rfl, S141, f142, f143⟩
         have h := hK138
         obtain rfl := Option.some.inj h
         exact DN.meet _ ⟨(fun b => ren [(14, 10)] (K140 b)), rfl, (Stp.ren ((S121.tr (S127.tr (S137.tr S141))).wk rfl) [(14, 10)] rfl), (f142.map (ren [(14, 10)]) rfl rfl), (f143.map (ren [(14, 10)]) rfl rfl)⟩ fun a ha => (ha.more (ha.more (ha.more (ha.more ha.nil rfl) rfl) rfl) rfl)
        | false =>
         intro h; replace h := cF h
         refine WC.cf rfl ?_
         refine WC.skip ?_
         have f172 := f30.stp (S33.tr S36) rfl rfl
         obtain rfl := Option.some.inj h
         exact DN.meet _ ⟨K32, rfl, (Stp.refl _ _).wk rfl, f172, f37⟩ fun a ha => (ha.more (ha.more (ha.more (ha.more ha.nil rfl) rfl) rfl) rfl)
       rintro _ w108 ⟨K109, rfl, S110, f111, f112⟩
       have h := hK107
       obtain rfl := Option.some.inj h
       exact DN.meet _ ⟨K109, rfl, S110.wk rfl, f111, f112⟩ fun a ha => (ha.more (ha.more (ha.more (ha.more ha.nil rfl) rfl) rfl) rfl)
     rintro _ w85 ⟨K86, rfl, S87, f88, f89⟩
     have h := hK84
     obtain rfl := Option.some.inj h
     exact DN.meet _ ⟨K86, rfl, S87.wk rfl, f88, f89⟩ fun a ha => (ha.more (ha.more (ha.more (ha.more ha.nil rfl) rfl) rfl) rfl)
   rintro _ w62 ⟨K63, rfl, S64, f65, f66⟩
   have h := hK61
   obtain rfl := Option.some.inj h
   exact DN.meet _ ⟨K63, rfl, S64.wk rfl, f65, f66⟩ fun a ha => (ha.more (ha.more (ha.more (ha.more ha.nil rfl) rfl) rfl) rfl)
 rintro _ w39 ⟨K40, rfl, S41, f42, f43⟩
 have h := hK38
 refine DN.block ?_
 refine DN.seq ?_
 refine WC.seq ?_
 refine WC.seq ?_
 refine WC.rs [(0, 2), (1, 1)] rfl ?_
 refine WO.pn 1 rfl ?_
 obtain ⟨x80, hx80, h⟩ := Option.bind_eq_some_iff.mp h
 have f173 := f21.stp (S27.tr (S33.tr (S36.tr S41))) rfl rfl
 refine WO.call rfl rfl rfl rfl rfl rfl Tryd.call34 (s_l1Once_ok (κ := fun b => mp [(10, 2)] 0 (K40 b)) (p0 := (⟨p0.b, q1.1, q1.2.1⟩ : l1Cur)) (Sl.map f173 (mp [(10, 2)] 0) rfl rfl) (f42.map (mp [(10, 2)] 0) rfl rfl) hx80) ?_
 rintro _ w174 ⟨k175, rfl, e176, f177⟩
 obtain ⟨K178, S179, m180⟩ := Ent.mixed (l := [(10, 2)]) (κ := K40) e176 12 rfl
 refine ⟨trivial, ?_⟩
 have f182 := f177.mx m180 rfl (rfl : 12 + 2 = 14)
 refine WO.fin ?_
 refine DN.seq ?_
 obtain ⟨q6, h, hK183⟩ := Option.bind_eq_some_iff.mp h
 refine WC.meet (fun L w' => ∃ (κ' : Col), L = [(0, .pointer (some ⟨b0, 0, none⟩)), (4, .pointer (some ⟨b4, 0, none⟩)), (6, .pointer (some ⟨b6, 0, none⟩))] ∧ Stp [11, 14, 17, 20] K178 w174 κ' w' ∧ Bc κ' w' 14 b0 96 [.slice a0_0 p0.b.length u0_0, .int .i64 q6.1, .int .i64 q6.2.1] ∧ Bc κ' w' 11 b6 25 [.int .i64 q6.2.2.1, .int .i64 q6.2.2.2.1, .int .i64 q6.2.2.2.2]) ?_ ?_
 ·
  revert h
  cases ht189 : x80.1 with
  | true =>
   intro h; replace h := cT h
   refine WC.ct rfl ?_
   refine WC.seq ?_
   refine WC.rs [(0, 2), (1, 1)] rfl ?_
   refine WO.pn 1 rfl ?_
   obtain ⟨x82, hx82, h⟩ := Option.bind_eq_some_iff.mp h
   have f190 := f173.stp S179 rfl rfl
   refine WO.call rfl rfl rfl rfl rfl rfl Tryd.call35 (s_l1Below_ok (κ := fun b => mp [(14, 2)] 0 (K178 b)) (p0 := (⟨p0.b, x80.2.1, x80.2.2⟩ : l1Cur)) (Sl.map f190 (mp [(14, 2)] 0) rfl rfl) (f182.map (mp [(14, 2)] 0) rfl rfl) hx82) ?_
   rintro _ w191 ⟨k192, rfl, e193, f194⟩
   obtain ⟨K195, S196, m197⟩ := Ent.mixed (l := [(14, 2)]) (κ := K178) e193 15 rfl
   refine ⟨trivial, ?_⟩
   have f199 := f194.mx m197 rfl (rfl : 15 + 2 = 17)
   refine WO.fin ?_
   refine DN.seq ?_
   refine WC.block ?_
   refine WC.seq ?_
   refine WC.rs [(0, 2), (1, 2)] rfl ?_
   refine WO.pn 2 rfl ?_
   refine WO.fin ?_
   refine DN.seq ?_
   obtain ⟨q7, h, hK200⟩ := Option.bind_eq_some_iff.mp h
   refine WC.meet (fun L w' => ∃ (κ' : Col), L = [(0, .pointer (some ⟨b0, 0, none⟩)), (4, .pointer (some ⟨b4, 0, none⟩)), (6, .pointer (some ⟨b6, 0, none⟩))] ∧ Stp [11, 17, 20] K195 w191 κ' w' ∧ Bc κ' w' 17 b0 96 [.slice a0_0 p0.b.length u0_0, .int .i64 q7.1, .int .i64 q7.2.1] ∧ Bc κ' w' 11 b6 25 [.int .i64 q7.2.2.1, .int .i64 q7.2.2.2.1, .int .i64 q7.2.2.2.2]) ?_ ?_
   ·
    revert h
    cases ht206 : (x82.1 == 0) with
    | true =>
     intro h; replace h := cT h
     refine WC.ct rfl ?_
     refine WC.rs [(0, 2), (1, 1), (2, 2), (3, 1)] rfl ?_
     refine WO.pn 1 rfl ?_
     obtain ⟨x86, hx86, h⟩ := Option.bind_eq_some_iff.mp h
     have f207 := f190.stp S196 rfl rfl
     refine WO.call rfl rfl rfl rfl rfl rfl Tryd.call82 (s_l1From_ok (κ := fun b => mp [(17, 2)] 0 (K195 b)) (p0 := (⟨p0.b, x82.2.1, x82.2.2⟩ : l1Cur)) (Sl.map f207 (mp [(17, 2)] 0) rfl rfl) (f199.map (mp [(17, 2)] 0) rfl rfl) hx86) ?_
     rintro _ w208 ⟨k209, rfl, e210, f211⟩
     obtain ⟨K212, S213, m214⟩ := Ent.mixed (l := [(17, 2)]) (κ := K195) e210 18 rfl
     refine ⟨trivial, ?_⟩
     have f216 := f211.mx m214 rfl (rfl : 18 + 2 = 20)
     refine WO.k2 rfl rfl rfl rfl (rn_fieldAddr Tryd.runUnderlying25 rfl Tryd.sizeOf2 rfl rfl) ?_
     have f217 := f43.stp (S179.tr (S196.tr S213)) rfl rfl
     refine WO.stB (κ := K212) 11 (off := 0) (vc := [.int .i64 x86.1]) (cs' := [.int .i64 x86.1, .int .i64 x15.1, .int .i64 q1.2.2]) rfl rfl rfl rfl rfl rfl rfl Tryd.sizeOf2 rfl rfl f217 rfl rfl fun w218 S219 f220 => ⟨trivial, ?_⟩
     refine WO.fin ?_
     have f221 := f216.stp S219 rfl rfl
     obtain rfl := Option.some.inj h
     exact DN.meet _ ⟨(fun b => ren [(20, 17)] (K212 b)), rfl, (Stp.ren ((S213.tr S219).wk rfl) [(20, 17)] rfl), (f221.map (ren [(20, 17)]) rfl rfl), (f220.map (ren [(20, 17)]) rfl rfl)⟩ fun a ha => (ha.more (ha.more (ha.more ha.nil rfl) rfl) rfl)
    | false =>
     intro h; replace h := cF h
     refine WC.cf rfl ?_
     refine WC.seq ?_
     refine WC.rs [(0, 2), (1, 2)] rfl ?_
     refine WO.pn 2 rfl ?_
     refine WO.fin ?_
     refine DN.seq ?_
     obtain ⟨q8, h, hK222⟩ := Option.bind_eq_some_iff.mp h
     refine WC.meet (fun L w' => ∃ (κ' : Col), L = [(0, .pointer (some ⟨b0, 0, none⟩)), (4, .pointer (some ⟨b4, 0, none⟩)), (6, .pointer (some ⟨b6, 0, none⟩))] ∧ Stp [11, 17, 20] K195 w191 κ' w' ∧ Bc κ' w' 17 b0 96 [.slice a0_0 p0.b.length u0_0, .int .i64 q8.1, .int .i64 q8.2.1] ∧ Bc κ' w' 11 b6 25 [.int .i64 (IntKind.i64.wrap (1 + x11.1)), .int .i64 q8.2.2.1, .int .i64 q8.2.2.2]) ?_ ?_
     ·
      revert h
      cases ht228 : (x82.1 == 1) with
      | true =>
       intro h; replace h := cT h
       refine WC.ct rfl ?_
       refine WC.rs [(0, 2), (1, 2), (2, 1), (3, 2), (4, 1)] rfl ?_
       refine WO.pn 2 rfl ?_
       obtain ⟨x92, hx92, h⟩ := Option.bind_eq_some_iff.mp h
       have f229 := f190.stp S196 rfl rfl
       refine WO.call rfl rfl rfl rfl rfl rfl Tryd.call80 (s_l1Num_ok (κ := fun b => mp [(17, 2)] 0 (K195 b)) (p0 := (⟨p0.b, x82.2.1, x82.2.2⟩ : l1Cur)) (Sl.map f229 (mp [(17, 2)] 0) rfl rfl) (f199.map (mp [(17, 2)] 0) rfl rfl) hx92) ?_
       rintro _ w230 ⟨k231, rfl, e232, f233⟩
       obtain ⟨K234, S235, m236⟩ := Ent.mixed (l := [(17, 2)]) (κ := K195) e232 18 rfl
       refine ⟨trivial, ?_⟩
       have f238 := f233.mx m236 rfl (rfl : 18 + 2 = 20)
       refine WO.k2 rfl rfl rfl rfl (rn_fieldAddr Tryd.runUnderlying25 rfl Tryd.sizeOf2 rfl rfl) ?_
       have f239 := f43.stp (S179.tr (S196.tr S235)) rfl rfl
       refine WO.stB (κ := K234) 11 (off := 1) (vc := [.int .i64 x92.1]) (cs' := [.int .i64 (IntKind.i64.wrap (1 + x11.1)), .int .i64 x92.1, .int .i64 q1.2.2]) rfl rfl rfl rfl rfl rfl rfl Tryd.sizeOf2 rfl rfl f239 rfl rfl fun w240 S241 f242 => ⟨trivial, ?_⟩
       refine WO.fin ?_
       have f243 := f238.stp S241 rfl rfl
       obtain rfl := Option.some.inj h
       exact DN.meet _ ⟨(fun b => ren [(20, 17)] (K234 b)), rfl, (Stp.ren ((S235.tr S241).wk rfl) [(20, 17)] rfl), (f243.map (ren [(20, 17)]) rfl rfl), (f242.map (ren [(20, 17)]) rfl rfl)⟩ fun a ha => (ha.more (ha.more (ha.more ha.nil rfl) rfl) rfl)
      | false =>
       intro h; replace h := cF h
       refine WC.cf rfl ?_
       refine WC.seq ?_
       refine WC.rs [(0, 2), (1, 2)] rfl ?_
       refine WO.pn 2 rfl ?_
       refine WO.fin ?_
       refine DN.seq ?_
       obtain ⟨q9, h, hK244⟩ := Option.bind_eq_some_iff.mp h
       refine WC.meet (fun L w' => ∃ (κ' : Col), L = [(0, .pointer (some ⟨b0, 0, none⟩)), (4, .pointer (some ⟨b4, 0, none⟩)), (6, .pointer (some ⟨b6, 0, none⟩))] ∧ Stp [11, 17, 20] K195 w191 κ' w' ∧ Bc κ' w' 17 b0 96 [.slice a0_0 p0.b.length u0_0, .int .i64 q9.1, .int .i64 q9.2.1] ∧ Bc κ' w' 11 b6 25 [.int .i64 (IntKind.i64.wrap (1 + x11.1)), .int .i64 x15.1, .int .i64 q9.2.2]) ?_ ?_
       ·
        revert h
        cases ht250 : (x82.1 == 2) with
        | true =>
         intro h; replace h := cT h
         refine WC.ct rfl ?_
         refine WC.rs [(0, 2), (1, 1), (2, 2), (3, 1)] rfl ?_
         refine WO.pn 1 rfl ?_
         obtain ⟨x97, hx97, h⟩ := Option.bind_eq_some_iff.mp h
         have f251 := f190.stp S196 rfl rfl
         refine WO.call rfl rfl rfl rfl rfl rfl Tryd.call80 (s_l1Num_ok (κ := fun b => mp [(17, 2)] 0 (K195 b)) (p0 := (⟨p0.b, x82.2.1, x82.2.2⟩ : l1Cur)) (Sl.map f251 (mp [(17, 2)] 0) rfl rfl) (f199.map (mp [(17, 2)] 0) rfl rfl) hx97) ?_
         rintro _ w252 ⟨k253, rfl, e254, f255⟩
         obtain ⟨K256, S257, m258⟩ := Ent.mixed (l := [(17, 2)]) (κ := K195) e254 18 rfl
         refine ⟨trivial, ?_⟩
         have f260 := f255.mx m258 rfl (rfl : 18 + 2 = 20)
         refine WO.k2 rfl rfl rfl rfl (rn_fieldAddr Tryd.runUnderlying25 rfl Tryd.sizeOf2 rfl rfl) ?_
         have f261 := f43.stp (S179.tr (S196.tr S257)) rfl rfl
         refine WO.stB (κ := K256) 11 (off := 2) (vc := [.int .i64 x97.1]) (cs' := [.int .i64 (IntKind.i64.wrap (1 + x11.1)), .int .i64 x15.1, .int .i64 x97.1]) rfl rfl rfl rfl rfl rfl rfl Tryd.sizeOf2 rfl rfl f261 rfl rfl fun w262 S263 f264 => ⟨trivial, ?_⟩
         refine WO.fin ?_
         have f265 := f260.stp S263 rfl rfl
         obtain rfl := Option.some.inj h
         exact DN.meet _ ⟨(fun b => ren [(20, 17)] (K256 b)), rfl, (Stp.ren ((S257.tr S263).wk rfl) [(20, 17)] rfl), (f265.map (ren [(20, 17)]) rfl rfl), (f264.map (ren [(20, 17)]) rfl rfl)⟩ fun a ha => (ha.more (ha.more (ha.more ha.nil rfl) rfl) rfl)
        | false =>
         intro h; replace h := cF h
         refine WC.cf rfl ?_
         refine WC.skip ?_
         have f266 := f43.stp (S179.tr S196) rfl rfl
         obtain rfl := Option.some.inj h
         exact DN.meet _ ⟨K195, rfl, (Stp.refl _ _).wk rfl, f199, f266⟩ fun a ha => (ha.more (ha.more (ha.more ha.nil rfl) rfl) rfl)
       rintro _ w245 ⟨K246, rfl, S247, f248, f249⟩
       have h := hK244
       obtain rfl := Option.some.inj h
       exact DN.meet _ ⟨K246, rfl, S247.wk rfl, f248, f249⟩ fun a ha => (ha.more (ha.more (ha.more ha.nil rfl) rfl) rfl)
     rintro _ w223 ⟨K224, rfl, S225, f226, f227⟩
     have h := hK222
     obtain rfl := Option.some.inj h
     exact DN.meet _ ⟨K224, rfl, S225.wk rfl, f226, f227⟩ fun a ha => (ha.more (ha.more (ha.more ha.nil rfl) rfl) rfl)
   rintro _ w201 ⟨K202, rfl, S203, f204, f205⟩
   have h := hK200
   refine DN.block ?_
   obtain rfl := Option.some.inj h
   exact DN.meet _ ⟨(fun b => ren [(17, 14)] (K202 b)), rfl, (Stp.ren ((S196.tr S203).wk rfl) [(17, 14)] rfl), (f204.map (ren [(17, 14)]) rfl rfl), (f205.map (ren [(17, 14)]) rfl rfl)⟩ fun a ha => (ha.more (ha.more (ha.more ha.nil rfl) rfl) rfl)
  | false =>
   intro h; replace h := cF h
   refine WC.cf rfl ?_
   refine WC.skip ?_
   have f267 := f43.stp S179 rfl rfl
   obtain rfl := Option.some.inj h
   exact DN.meet _ ⟨K178, rfl, (Stp.refl _ _).wk rfl, f182, f267⟩ fun a ha => (ha.more (ha.more (ha.more ha.nil rfl) rfl) rfl)
 rintro _ w184 ⟨K185, rfl, S186, f187, f188⟩
 have h := hK183
 refine DN.seq ?_
 refine WC.seq ?_
 refine WC.rs [(0, 1), (1, 1)] rfl ?_
 refine WO.k1 trivial rfl rfl rfl rfl (rn_la (cs := [.int .i64 q6.2.2.1, .int .i64 q6.2.2.2.1, .int .i64 q6.2.2.2.2]) Tryd.isAgg25 Tryd.sizeOf25 rfl rfl rfl (haE f188.cells)) ?_
 have f268 := f8.stp (S17.tr (S27.tr (S33.tr (S36.tr (S41.tr (S179.tr S186)))))) rfl rfl
 refine WO.stB0 (κ := K185) 4 (vc := [.int .i64 q6.2.2.1, .int .i64 q6.2.2.2.1, .int .i64 q6.2.2.2.2]) rfl rfl rfl rfl rfl rfl rfl Tryd.sizeOf25 rfl rfl f268 rfl fun w269 S270 f271 => ⟨trivial, ?_⟩
 refine WO.fin ?_
 refine DN.seq ?_
 refine WC.ret ?_
 have f272 := hE.stp (S3.tr (S7.tr (S17.tr (S27.tr (S33.tr (S36.tr (S41.tr (S179.tr (S186.tr S270))))))))) rfl rfl
 have f273 := f187.stp S270 rfl rfl
 refine DN.res (l := [.cell 4 25]) Tryd.results60 (res_cellA rfl f271 Tryd.isAgg25 Tryd.sizeOf25 rfl rfl) rfl ?_
 obtain rfl := Option.some.inj h
 exact ⟨(fun b => ren [(14, 2)] (K185 b)), rfl, (f272.map (ren [(14, 2)]) rfl rfl), (f273.map (ren [(14, 2)]) rfl rfl)⟩

/- loop.example/g00869/spec.l32DrawPair -/
theorem s_l32DrawPair_ok {w : World} {κ : Col} {a0_0 : Option Addr} {u0_0 : Nat} {p0 : l1Cur} {b0 : Nat} (g0_0 : Rd (Rp.int .u8) κ w 0 a0_0 u0_0 p0.b) (gb0 : Bc κ w 2 b0 96 [.slice a0_0 p0.b.length u0_0, .int .i64 p0.i, .int .i64 p0.h]) {r : Parity × Edit × Int × Int} (h : s_l32DrawPair p0 = some r) : Ret Tryd.prog 33 [.pointer (some ⟨b0, 0, none⟩)] w (fun v w' => ∃ (κ' : Col) (ra0 : Option Addr) (ru0 : Nat) (ra1 : Option Addr) (ru1 : Nat) (ra2 : Option Addr) (ru2 : Nat), v = .tuple #[.agg #[.slice ra0 r.1.Arena.Owner.length ru0, .slice ra1 r.1.Arena.Next.length ru1, .slice ra2 r.1.Prio.length ru2], .agg #[.int .i64 r.2.1.Kind, .int .i64 r.2.1.V, .int .i64 r.2.1.N]] ∧ Ent κ w κ' w' ∧ Oc (Ep.int .i64) 2 κ' w' 3 ra0 ru0 r.1.Arena.Owner ∧ Oc (Ep.own (Ep.int .i64) 2) 60 κ' w' 4 ra1 ru1 r.1.Arena.Next ∧ Oc (Ep.int .i64) 2 κ' w' 5 ra2 ru2 r.1.Prio ∧ Bc κ' w' 2 b0 96 [.slice a0_0 p0.b.length u0_0, .int .i64 r.2.2.1, .int .i64 r.2.2.2]) := by
 unfold s_l32DrawPair at h
 refine Ret.enter Tryd.func33 rfl Tryd.ntmps33 rfl ?_
 dsimp only [envOf]
 have hE := Ent.refl κ w
 refine WC.seq ?_
 refine WC.rs [(0, 1), (1, 1)] rfl ?_
 refine WO.alloc (κ := κ) 3 rfl rfl rfl rfl rfl Tryd.zeroValue66 rfl fun b2 w1 K2 S3 f4 => ⟨trivial, ?_⟩
 refine WO.alloc (κ := K2) 4 rfl rfl rfl rfl rfl Tryd.zeroValue25 rfl fun b3 w5 K6 S7 f8 => ⟨trivial, ?_⟩
 refine WO.fin ?_
 refine DN.seq ?_
 refine WC.seq ?_
 refine WC.rs [(0, 2), (1, 1), (2, 1), (3, 1)] rfl ?_
 refine WO.pn 1 rfl ?_
 obtain ⟨x6, hx6, h⟩ := Option.bind_eq_some_iff.mp h
 have f9 := g0_0.stp (S3.tr S7) rfl rfl
 have f10 := gb0.stp (S3.tr S7) rfl rfl
 refine WO.call rfl rfl rfl rfl rfl rfl Tryd.call59 (s_l4DrawAny_ok (κ := fun b => mp [(2, 2)] 0 (K6 b)) (p0 := p0) (Sl.map f9 (mp [(2, 2)] 0) rfl rfl) (f10.map (mp [(2, 2)] 0) rfl rfl) hx6) ?_
 rintro _ w11 ⟨k12, a6_0, u6_0, a6_1, u6_1, a6_2, u6_2, rfl, e13, f14, f15, f16, f17⟩
 obtain ⟨K18, S19, m20⟩ := Ent.mixed (l := [(2, 2)]) (κ := K6) e13 5 rfl
 refine ⟨trivial, ?_⟩
 have f22 := f14.mx (no_int _) m20 rfl (rfl : 5 + 3 = 8)
 have f23 := f15.mx (no_own (no_int _) _) m20 rfl (rfl : 5 + 4 = 9)
 have f24 := f16.mx (no_int _) m20 rfl (rfl : 5 + 5 = 10)
 have f25 := f17.mx m20 rfl (rfl : 5 + 2 = 7)
 refine WO.alloc (κ := K18) 11 rfl rfl rfl rfl rfl Tryd.zeroValue66 rfl fun b4 w26 K27 S28 f29 => ⟨trivial, ?_⟩
 refine WO.stB0 (κ := K27) 11 (vc := [.slice a6_0 x6.1.Arena.Owner.length u6_0, .slice a6_1 x6.1.Arena.Next.length u6_1, .slice a6_2 x6.1.Prio.length u6_2]) rfl rfl rfl rfl rfl rfl rfl Tryd.sizeOf66 rfl rfl f29 rfl fun w30 S31 f32 => ⟨trivial, ?_⟩
 refine WO.fin ?_
 refine DN.seq ?_
 refine WC.seq ?_
 refine WC.rx (κ := K27) [11] none [(1, 2), (0, 0), (2, 0), (3, 1), (4, 1), (5, 1)] [] (by kernel_rfl) (by kernel_rfl) fun w34 S33 => ?_
 refine WO.pn 1 rfl ?_
 have f35 := f32.stp S33 rfl rfl
 refine WO.k0 rfl rfl rfl rfl (rn_la (cs := [.slice a6_0 x6.1.Arena.Owner.length u6_0, .slice a6_1 x6.1.Arena.Next.length u6_1, .slice a6_2 x6.1.Prio.length u6_2]) Tryd.isAgg66 Tryd.sizeOf66 rfl rfl rfl (haC f35.cells rfl)) ?_
 refine WO.k0 rfl rfl rfl rfl (rn_la (cs := [.slice a6_0 x6.1.Arena.Owner.length u6_0, .slice a6_1 x6.1.Arena.Next.length u6_1, .slice a6_2 x6.1.Prio.length u6_2]) Tryd.isAgg66 Tryd.sizeOf66 rfl rfl rfl (haC f35.cells rfl)) ?_
 obtain ⟨x10, hx10, h⟩ := Option.bind_eq_some_iff.mp h
 have f36 := f9.stp (S19.tr (S28.tr (S31.tr S33))) rfl rfl
 have f37 := f22.stp (S28.tr (S31.tr S33)) rfl rfl
 have f38 := f23.stp (S28.tr (S31.tr S33)) rfl rfl
 have f39 := f24.stp (S28.tr (S31.tr S33)) rfl rfl
 have f40 := f25.stp (S28.tr (S31.tr S33)) rfl rfl
 refine WO.call rfl rfl rfl rfl rfl rfl Tryd.call60 (s_l32Draw_ok (κ := fun b => mp [(7, 2)] 0 (K27 b)) (p1 := x6.1) (p0 := (⟨p0.b, x6.2.1, x6.2.2⟩ : l1Cur)) (Sl.map f36 (mp [(7, 2)] 0) rfl rfl) (Sl.map f37.rdc (mp [(7, 2)] 0) rfl rfl) (Sl.map f38.rdc (mp [(7, 2)] 0) rfl rfl) (Sl.map f39.rdc (mp [(7, 2)] 0) rfl rfl) (f40.map (mp [(7, 2)] 0) rfl rfl) hx10) ?_
 rintro _ w41 ⟨k42, rfl, e43, f44⟩
 obtain ⟨K45, S46, m47⟩ := Ent.mixed (l := [(7, 2)]) (κ := K27) e43 12 rfl
 refine ⟨(S46.cl rfl), ?_⟩
 have f49 := f44.mx m47 rfl (rfl : 12 + 2 = 14)
 have f50 := f4.stp (S7.tr (S19.tr (S28.tr (S31.tr (S33.tr S46))))) rfl rfl
 refine WO.stB0 (κ := K45) 3 (vc := [.slice a6_0 x6.1.Arena.Owner.length u6_0, .slice a6_1 x6.1.Arena.Next.length u6_1, .slice a6_2 x6.1.Prio.length u6_2]) rfl rfl rfl rfl rfl rfl rfl Tryd.sizeOf66 rfl rfl f50 rfl fun w51 S52 f53 => ⟨((S46.tr S52).cl rfl), ?_⟩
 have f54 := f8.stp (S19.tr (S28.tr (S31.tr (S33.tr (S46.tr S52))))) rfl rfl
 refine WO.stB0 (κ := K45) 4 (vc := [.int .i64 x10.1.Kind, .int .i64 x10.1.V, .int .i64 x10.1.N]) rfl rfl rfl rfl rfl rfl rfl Tryd.sizeOf25 rfl rfl f54 rfl fun w55 S56 f57 => ⟨((S46.tr (S52.tr S56)).cl rfl), ?_⟩
 refine WO.nx ?_
 refine WO.fin ?_
 refine DN.seq ?_
 refine WC.ret ?_
 have f58 := hE.stp (S3.tr (S7.tr (S19.tr (S28.tr (S31.tr (S33.tr (S46.tr (S52.tr S56)))))))) rfl rfl
 have f59 := f37.stp (S46.tr (S52.tr S56)) rfl rfl
 have f60 := f38.stp (S46.tr (S52.tr S56)) rfl rfl
 have f61 := f39.stp (S46.tr (S52.tr S56)) rfl rfl
 have f62 := f49.stp (S52.tr S56) rfl rfl
 have f63 := f53.stp S56 rfl rfl
 refine DN.res (l := [.cell 2 66, .cell 3 25]) Tryd.results33 (res_cellA rfl f63 Tryd.isAgg66 Tryd.sizeOf66 rfl (res_cellA rfl f57 Tryd.isAgg25 Tryd.sizeOf25 rfl rfl)) rfl ?_
 obtain rfl := Option.some.inj h
 exact ⟨(fun b => ren [(8, 3), (9, 4), (10, 5), (14, 2)] (K45 b)), a6_0, u6_0, a6_1, u6_1, a6_2, u6_2, rfl, (f58.map (ren [(8, 3), (9, 4), (10, 5), (14, 2)]) rfl rfl), (f59.map (ren [(8, 3), (9, 4), (10, 5), (14, 2)]) rfl rfl), (f60.map (ren [(8, 3), (9, 4), (10, 5), (14, 2)]) rfl rfl), (f61.map (ren [(8, 3), (9, 4), (10, 5), (14, 2)]) rfl rfl), (f62.map (ren [(8, 3), (9, 4), (10, 5), (14, 2)]) rfl rfl)⟩

end Go.Proofs.YtnpmbkaoeihdmaaDoor
