/- The walks, part 6. By program. -/
import Derived.Test.YthjkonkcdfdfaaaFnsU5
set_option linter.unusedVariables false
set_option linter.unusedSimpArgs false
namespace Go.Proofs.Ythjkonkcdfdfaaa
open Go Go.Wk Go.Proofs
set_option maxRecDepth 100000
set_option maxHeartbeats 1000000

/- loop.example/g00869/spec.l31DrawPair -/
theorem s_l31DrawPair_ok {w : World} {κ : Col} {a0_0 : Option Addr} {u0_0 : Nat} {p0 : l1Cur} {b0 : Nat} (g0_0 : Rd (Rp.int .u8) κ w 0 a0_0 u0_0 p0.b) (gb0 : Bc κ w 2 b0 89 [.slice a0_0 p0.b.length u0_0, .int .i64 p0.i, .int .i64 p0.h]) {r : Sig × Machine × Int × Int} (h : s_l31DrawPair p0 = some r) : Ret Try.prog 49 [.pointer (some ⟨b0, 0, none⟩)] w (fun v w' => ∃ (κ' : Col) (ra0 : Option Addr) (ru0 : Nat) (ra1 : Option Addr) (ru1 : Nat), v = .tuple #[.agg #[.int .i64 r.1.In, .int .i64 r.1.Out], .agg #[.slice ra0 r.2.1.Next.length ru0, .slice ra1 r.2.1.Out.length ru1]] ∧ Ent κ w κ' w' ∧ Oc (Ep.own (Ep.int .i64) 2) 24 κ' w' 3 ra0 ru0 r.2.1.Next ∧ Oc (Ep.own (Ep.int .i64) 2) 24 κ' w' 4 ra1 ru1 r.2.1.Out ∧ Bc κ' w' 2 b0 89 [.slice a0_0 p0.b.length u0_0, .int .i64 r.2.2.1, .int .i64 r.2.2.2]) := by
 unfold s_l31DrawPair at h
 refine Ret.enter Try.func49 rfl Try.ntmps49 rfl ?_
 dsimp only [envOf]
 have hE := Ent.refl κ w
 refine WC.seq ?_
 refine WC.rs [(0, 1), (1, 1)] rfl ?_
 refine WO.alloc (κ := κ) 3 rfl rfl rfl rfl rfl Try.zeroValue43 rfl fun b2 w1 K2 S3 f4 => ⟨trivial, ?_⟩
 refine WO.alloc (κ := K2) 4 rfl rfl rfl rfl rfl Try.zeroValue46 rfl fun b3 w5 K6 S7 f8 => ⟨trivial, ?_⟩
 refine WO.fin ?_
 refine DN.seq ?_
 refine WC.seq ?_
 refine WC.rs [(0, 2), (1, 1), (2, 1), (3, 1)] rfl ?_
 refine WO.pn 1 rfl ?_
 obtain ⟨x7, hx7, h⟩ := Option.bind_eq_some_iff.mp h
 have f9 := g0_0.stp (S3.tr S7) rfl rfl
 have f10 := gb0.stp (S3.tr S7) rfl rfl
 refine WO.call rfl rfl rfl rfl rfl rfl Try.call75 (s_l31DrawSig_ok (κ := fun b => mp [(2, 2)] 0 (K6 b)) (p0 := p0) (Sl.map f9 (mp [(2, 2)] 0) rfl rfl) (f10.map (mp [(2, 2)] 0) rfl rfl) hx7) ?_
 rintro _ w11 ⟨k12, rfl, e13, f14⟩
 obtain ⟨K15, S16, m17⟩ := Ent.mixed (l := [(2, 2)]) (κ := K6) e13 5 rfl
 refine ⟨trivial, ?_⟩
 have f19 := f14.mx m17 rfl (rfl : 5 + 2 = 7)
 refine WO.alloc (κ := K15) 8 rfl rfl rfl rfl rfl Try.zeroValue43 rfl fun b4 w20 K21 S22 f23 => ⟨trivial, ?_⟩
 refine WO.stB0 (κ := K21) 8 (vc := [.int .i64 x7.1.In, .int .i64 x7.1.Out]) rfl rfl rfl rfl rfl rfl rfl Try.sizeOf43 rfl rfl f23 rfl fun w24 S25 f26 => ⟨trivial, ?_⟩
 refine WO.fin ?_
 refine DN.seq ?_
 refine WC.seq ?_
 refine WC.rs [(0, 2), (1, 1), (2, 1), (3, 1), (4, 1)] rfl ?_
 refine WO.pn 1 rfl ?_
 refine WO.k1 trivial rfl rfl rfl rfl (rn_la (cs := [.int .i64 x7.1.In, .int .i64 x7.1.Out]) Try.isAgg43 Try.sizeOf43 rfl rfl rfl (haE f26.cells)) ?_
 obtain ⟨x10, hx10, h⟩ := Option.bind_eq_some_iff.mp h
 have f27 := f9.stp (S16.tr (S22.tr S25)) rfl rfl
 have f28 := f19.stp (S22.tr S25) rfl rfl
 refine WO.call rfl rfl rfl rfl rfl rfl Try.call76 (s_l31DrawMachine_ok (κ := fun b => mp [(7, 2)] 0 (K21 b)) (p1 := x7.1) (p0 := (⟨p0.b, x7.2.1, x7.2.2⟩ : l1Cur)) (Sl.map f27 (mp [(7, 2)] 0) rfl rfl) (f28.map (mp [(7, 2)] 0) rfl rfl) hx10) ?_
 rintro _ w29 ⟨k30, a10_0, u10_0, a10_1, u10_1, rfl, e31, f32, f33, f34⟩
 obtain ⟨K35, S36, m37⟩ := Ent.mixed (l := [(7, 2)]) (κ := K21) e31 9 rfl
 refine ⟨trivial, ?_⟩
 have f39 := f32.mx (no_own (no_int _) _) m37 rfl (rfl : 9 + 3 = 12)
 have f40 := f33.mx (no_own (no_int _) _) m37 rfl (rfl : 9 + 4 = 13)
 have f41 := f34.mx m37 rfl (rfl : 9 + 2 = 11)
 refine WO.alloc (κ := K35) 14 rfl rfl rfl rfl rfl Try.zeroValue46 rfl fun b5 w42 K43 S44 f45 => ⟨trivial, ?_⟩
 refine WO.stB0 (κ := K43) 14 (vc := [.slice a10_0 x10.1.Next.length u10_0, .slice a10_1 x10.1.Out.length u10_1]) rfl rfl rfl rfl rfl rfl rfl Try.sizeOf46 rfl rfl f45 rfl fun w46 S47 f48 => ⟨trivial, ?_⟩
 refine WO.fin ?_
 refine DN.seq ?_
 refine WC.seq ?_
 refine WC.seq ?_
 refine WC.rs [(0, 2), (1, 1)] rfl ?_
 refine WO.pn 1 rfl ?_
 obtain ⟨x12, hx12, h⟩ := Option.bind_eq_some_iff.mp h
 have f49 := f27.stp (S36.tr (S44.tr S47)) rfl rfl
 have f50 := f41.stp (S44.tr S47) rfl rfl
 refine WO.call rfl rfl rfl rfl rfl rfl Try.call64 (s_l1Once_ok (κ := fun b => mp [(11, 2)] 0 (K43 b)) (p0 := (⟨p0.b, x10.2.1, x10.2.2⟩ : l1Cur)) (Sl.map f49 (mp [(11, 2)] 0) rfl rfl) (f50.map (mp [(11, 2)] 0) rfl rfl) hx12) ?_
 rintro _ w51 ⟨k52, rfl, e53, f54⟩
 obtain ⟨K55, S56, m57⟩ := Ent.mixed (l := [(11, 2)]) (κ := K43) e53 15 rfl
 refine ⟨trivial, ?_⟩
 have f59 := f54.mx m57 rfl (rfl : 15 + 2 = 17)
 refine WO.fin ?_
 refine DN.seq ?_
 obtain ⟨q1, h, hK60⟩ := Option.bind_eq_some_iff.mp h
 refine WC.meet (fun L w' => ∃ (κ' : Col), L = [(0, .pointer (some ⟨b0, 0, none⟩)), (2, .pointer (some ⟨b2, 0, none⟩)), (3, .pointer (some ⟨b3, 0, none⟩)), (4, .pointer (some ⟨b4, 0, none⟩)), (5, .pointer (some ⟨b5, 0, none⟩))] ∧ Stp [8, 12, 13, 17, 20, 23, 24] K55 w51 κ' w' ∧ Oc (Ep.own (Ep.int .i64) 2) 24 κ' w' 12 a10_0 u10_0 q1.2.2.2.1 ∧ x10.1.Next.length = q1.2.2.2.1.length ∧ Oc (Ep.own (Ep.int .i64) 2) 24 κ' w' 13 a10_1 u10_1 q1.2.2.2.2 ∧ x10.1.Out.length = q1.2.2.2.2.length ∧ Bc κ' w' 17 b0 89 [.slice a0_0 p0.b.length u0_0, .int .i64 q1.1, .int .i64 q1.2.1] ∧ Bc κ' w' 8 b4 43 [.int .i64 q1.2.2.1, .int .i64 x7.1.Out]) ?_ ?_
 ·
  revert h
  cases ht70 : x12.1 with
  | true =>
   intro h; replace h := cT h
   refine WC.ct rfl ?_
   refine WC.seq ?_
   refine WC.rs [(0, 2), (1, 1)] rfl ?_
   refine WO.pn 1 rfl ?_
   obtain ⟨x14, hx14, h⟩ := Option.bind_eq_some_iff.mp h
   have f71 := f49.stp S56 rfl rfl
   refine WO.call rfl rfl rfl rfl rfl rfl Try.call65 (s_l1Below_ok (κ := fun b => mp [(17, 2)] 0 (K55 b)) (p0 := (⟨p0.b, x12.2.1, x12.2.2⟩ : l1Cur)) (Sl.map f71 (mp [(17, 2)] 0) rfl rfl) (f59.map (mp [(17, 2)] 0) rfl rfl) hx14) ?_
   rintro _ w72 ⟨k73, rfl, e74, f75⟩
   obtain ⟨K76, S77, m78⟩ := Ent.mixed (l := [(17, 2)]) (κ := K55) e74 18 rfl
   refine ⟨trivial, ?_⟩
   have f80 := f75.mx m78 rfl (rfl : 18 + 2 = 20)
   refine WO.fin ?_
   refine DN.seq ?_
   refine WC.block ?_
   refine WC.seq ?_
   refine WC.rs [(0, 2), (1, 2)] rfl ?_
   refine WO.pn 2 rfl ?_
   refine WO.fin ?_
   refine DN.seq ?_
   obtain ⟨q2, h, hK81⟩ := Option.bind_eq_some_iff.mp h
   refine WC.meet (fun L w' => ∃ (κ' : Col), L = [(0, .pointer (some ⟨b0, 0, none⟩)), (2, .pointer (some ⟨b2, 0, none⟩)), (3, .pointer (some ⟨b3, 0, none⟩)), (4, .pointer (some ⟨b4, 0, none⟩)), (5, .pointer (some ⟨b5, 0, none⟩))] ∧ Stp [8, 12, 13, 20, 23, 24] K76 w72 κ' w' ∧ Oc (Ep.own (Ep.int .i64) 2) 24 κ' w' 12 a10_0 u10_0 q2.2.2.2.1 ∧ x10.1.Next.length = q2.2.2.2.1.length ∧ Oc (Ep.own (Ep.int .i64) 2) 24 κ' w' 13 a10_1 u10_1 q2.2.2.2.2 ∧ x10.1.Out.length = q2.2.2.2.2.length ∧ Bc κ' w' 20 b0 89 [.slice a0_0 p0.b.length u0_0, .int .i64 q2.1, .int .i64 q2.2.1] ∧ Bc κ' w' 8 b4 43 [.int .i64 q2.2.2.1, .int .i64 x7.1.Out]) ?_ ?_
   ·
    revert h
    cases ht91 : (x14.1 == 0) with
    | true =>
     intro h; replace h := cT h
     refine WC.ct rfl ?_
     refine WC.rx (κ := K76) [0, 12, 14] (some 7) [(0, 2), (4, 2), (1, 0), (2, 2), (3, 0), (5, 1), (6, 2)] [(7, 1)] (by kernel_rfl) (by kernel_rfl) fun w93 S92 => ?_
     refine WO.k2 rfl rfl rfl rfl (rn_fieldAddr Try.runUnderlying46 rfl Try.sizeOf44 rfl rfl) ?_
     refine WO.pn 1 rfl ?_
     have f94 := f48.stp (S56.tr (S77.tr S92)) rfl rfl
     refine WO.k0 rfl rfl rfl rfl (rn_ld Try.isAgg44 rfl rfl (hvC (f94.ld 0 rfl rfl) rfl)) ?_
     obtain ⟨x19, hx19, h⟩ := Option.bind_eq_some_iff.mp h
     refine WO.k2 rfl rfl rfl rfl (rn_index f39.rdc hx19 Try.runUnderlying44 Try.sizeOf24 rfl rfl rfl rfl) ?_
     have f95 := f39.stp (S44.tr (S47.tr (S56.tr (S77.tr S92)))) rfl rfl
     obtain ⟨ax19, ux19, f96, hl97⟩ := f95.rdc.gSl hx19
     refine WO.k0 rfl rfl rfl rfl (rn_ld Try.isAgg24 rfl rfl (hvC hl97 rfl)) ?_
     obtain ⟨x22, hx22, h⟩ := Option.bind_eq_some_iff.mp h
     have f98 := f71.stp (S77.tr S92) rfl rfl
     have f99 := f80.stp S92 rfl rfl
     refine WO.call rfl rfl rfl rfl rfl rfl Try.call66 (s_l1Num_ok (κ := fun b => mp [(20, 2)] 0 (K76 b)) (p0 := (⟨p0.b, x14.2.1, x14.2.2⟩ : l1Cur)) (Sl.map f98 (mp [(20, 2)] 0) rfl rfl) (f99.map (mp [(20, 2)] 0) rfl rfl) hx22) ?_
     rintro _ w100 ⟨k101, rfl, e102, f103⟩
     obtain ⟨K104, S105, m106⟩ := Ent.mixed (l := [(20, 2)]) (κ := K76) e102 21 rfl
     refine ⟨(S105.cl rfl), ?_⟩
     have f108 := f103.mx m106 rfl (rfl : 21 + 2 = 23)
     obtain ⟨x23, hx23, h⟩ := Option.bind_eq_some_iff.mp h
     refine WO.k2 rfl rfl rfl rfl (rn_index f96 hx23 Try.runUnderlying24 Try.sizeOf2 rfl rfl rfl rfl) ?_
     refine WO.nx ?_
     have f109 := f95.stp S105 rfl rfl
     obtain ⟨K110, S111, f112, f113⟩ := f109.borrow hx19 (hl97 _ (Stp.ag S105 rfl)) 24 rfl rfl
     obtain ⟨y8, hy8, h⟩ := Option.bind_eq_some_iff.mp h
     refine WO.stI (κ := K110) (E := (Ep.int .i64)) 24 [] rfl rfl rfl rfl rfl rfl rfl rfl Try.sizeOf2 rfl rfl rfl rfl f112 hy8 fun w114 K115 S116 f117 => ⟨trivial, ?_⟩
     have hn118 : x19.length = y8.length := (setI_ok hy8).2.2.2.symm
     obtain ⟨yb8, hyb8, h⟩ := Option.bind_eq_some_iff.mp h
     have f119 := f113.stp S116 rfl rfl
     obtain ⟨K120, S121, f122⟩ := Ow.unborrow f119 f117 hn118 rfl rfl hyb8
     have hn123 : x10.1.Next.length = yb8.length := (setI_ok hyb8).2.2.2.symm
     refine WO.fin ?_
     have f124 := f40.stp (S44.tr (S47.tr (S56.tr (S77.tr (S92.tr (S105.tr (S111.tr (S116.tr S121)))))))) rfl rfl
     have f125 := f108.stp (S111.tr (S116.tr S121)) rfl rfl
     have f126 := f26.stp (S36.tr (S44.tr (S47.tr (S56.tr (S77.tr (S92.tr (S105.tr (S111.tr (S116.tr S121))))))))) rfl rfl
     obtain rfl := Option.some.inj h
     exact DN.meet _ ⟨(fun b => ren [(23, 20)] (K120 b)), rfl, (Stp.ren ((S92.tr (S105.tr (S111.tr (S116.tr S121)))).wk rfl) [(23, 20)] rfl), (f122.map (ren [(23, 20)]) rfl rfl), hn123, (f124.map (ren [(23, 20)]) rfl rfl), rfl, (f125.map (ren [(23, 20)]) rfl rfl), (f126.map (ren [(23, 20)]) rfl rfl)⟩ fun a ha => (ha.more (ha.more (ha.more (ha.more (ha.more ha.nil rfl) rfl) rfl) rfl) rfl)
    | false =>
     intro h; replace h := cF h
     refine WC.cf rfl ?_
     refine WC.seq ?_
     refine WC.rs [(0, 2), (1, 2)] rfl ?_
     refine WO.pn 2 rfl ?_
     refine WO.fin ?_
     refine DN.seq ?_
     obtain ⟨q3, h, hK127⟩ := Option.bind_eq_some_iff.mp h
     refine WC.meet (fun L w' => ∃ (κ' : Col), L = [(0, .pointer (some ⟨b0, 0, none⟩)), (2, .pointer (some ⟨b2, 0, none⟩)), (3, .pointer (some ⟨b3, 0, none⟩)), (4, .pointer (some ⟨b4, 0, none⟩)), (5, .pointer (some ⟨b5, 0, none⟩))] ∧ Stp [8, 13, 20, 23, 24] K76 w72 κ' w' ∧ Oc (Ep.own (Ep.int .i64) 2) 24 κ' w' 13 a10_1 u10_1 q3.2.2.2 ∧ x10.1.Out.length = q3.2.2.2.length ∧ Bc κ' w' 20 b0 89 [.slice a0_0 p0.b.length u0_0, .int .i64 q3.1, .int .i64 q3.2.1] ∧ Bc κ' w' 8 b4 43 [.int .i64 q3.2.2.1, .int .i64 x7.1.Out]) ?_ ?_
     ·
      revert h
      cases ht135 : (x14.1 == 1) with
      | true =>
       intro h; replace h := cT h
       refine WC.ct rfl ?_
       refine WC.rx (κ := K76) [0, 13, 14] (some 7) [(0, 2), (4, 2), (1, 0), (2, 2), (3, 0), (5, 1), (6, 2)] [(7, 1)] (by kernel_rfl) (by kernel_rfl) fun w137 S136 => ?_
       refine WO.k2 rfl rfl rfl rfl (rn_fieldAddr Try.runUnderlying46 rfl Try.sizeOf44 rfl rfl) ?_
       refine WO.pn 1 rfl ?_
       have f138 := f48.stp (S56.tr (S77.tr S136)) rfl rfl
       refine WO.k0 rfl rfl rfl rfl (rn_ld Try.isAgg44 rfl rfl (hvC (f138.ld 1 rfl rfl) rfl)) ?_
       obtain ⟨x28, hx28, h⟩ := Option.bind_eq_some_iff.mp h
       refine WO.k2 rfl rfl rfl rfl (rn_index f40.rdc hx28 Try.runUnderlying44 Try.sizeOf24 rfl rfl rfl rfl) ?_
       have f139 := f40.stp (S44.tr (S47.tr (S56.tr (S77.tr S136)))) rfl rfl
       obtain ⟨ax28, ux28, f140, hl141⟩ := f139.rdc.gSl hx28
       refine WO.k0 rfl rfl rfl rfl (rn_ld Try.isAgg24 rfl rfl (hvC hl141 rfl)) ?_
       obtain ⟨x31, hx31, h⟩ := Option.bind_eq_some_iff.mp h
       have f142 := f71.stp (S77.tr S136) rfl rfl
       have f143 := f80.stp S136 rfl rfl
       refine WO.call rfl rfl rfl rfl rfl rfl Try.call66 (s_l1Num_ok (κ := fun b => mp [(20, 2)] 0 (K76 b)) (p0 := (⟨p0.b, x14.2.1, x14.2.2⟩ : l1Cur)) (Sl.map f142 (mp [(20, 2)] 0) rfl rfl) (f143.map (mp [(20, 2)] 0) rfl rfl) hx31) ?_
       rintro _ w144 ⟨k145, rfl, e146, f147⟩
       obtain ⟨K148, S149, m150⟩ := Ent.mixed (l := [(20, 2)]) (κ := K76) e146 21 rfl
       refine ⟨(S149.cl rfl), ?_⟩
       have f152 := f147.mx m150 rfl (rfl : 21 + 2 = 23)
       obtain ⟨x32, hx32, h⟩ := Option.bind_eq_some_iff.mp h
       refine WO.k2 rfl rfl rfl rfl (rn_index f140 hx32 Try.runUnderlying24 Try.sizeOf2 rfl rfl rfl rfl) ?_
       refine WO.nx ?_
       have f153 := f139.stp S149 rfl rfl
       obtain ⟨K154, S155, f156, f157⟩ := f153.borrow hx28 (hl141 _ (Stp.ag S149 rfl)) 24 rfl rfl
       obtain ⟨y9, hy9, h⟩ := Option.bind_eq_some_iff.mp h
       refine WO.stI (κ := K154) (E := (Ep.int .i64)) 24 [] rfl rfl rfl rfl rfl rfl rfl rfl Try.sizeOf2 rfl rfl rfl rfl f156 hy9 fun w158 K159 S160 f161 => ⟨trivial, ?_⟩
       have hn162 : x28.length = y9.length := (setI_ok hy9).2.2.2.symm
       obtain ⟨yb9, hyb9, h⟩ := Option.bind_eq_some_iff.mp h
       have f163 := f157.stp S160 rfl rfl
       obtain ⟨K164, S165, f166⟩ := Ow.unborrow f163 f161 hn162 rfl rfl hyb9
       have hn167 : x10.1.Out.length = yb9.length := (setI_ok hyb9).2.2.2.symm
       refine WO.fin ?_
       have f168 := f152.stp (S155.tr (S160.tr S165)) rfl rfl
       have f169 := f26.stp (S36.tr (S44.tr (S47.tr (S56.tr (S77.tr (S136.tr (S149.tr (S155.tr (S160.tr S165))))))))) rfl rfl
       obtain rfl := Option.some.inj h
       exact DN.meet _ ⟨(fun b => ren [(23, 20)] (K164 b)), rfl, (Stp.ren ((S136.tr (S149.tr (S155.tr (S160.tr S165)))).wk rfl) [(23, 20)] rfl), (f166.map (ren [(23, 20)]) rfl rfl), hn167, (f168.map (ren [(23, 20)]) rfl rfl), (f169.map (ren [(23, 20)]) rfl rfl)⟩ fun a ha => (ha.more (ha.more (ha.more (ha.more (ha.more ha.nil rfl) rfl) rfl) rfl) rfl)
      | false =>
       intro h; replace h := cF h
       refine WC.cf rfl ?_
       refine WC.seq ?_
       refine WC.rs [(0, 2), (1, 2)] rfl ?_
       refine WO.pn 2 rfl ?_
       refine WO.fin ?_
       refine DN.seq ?_
       obtain ⟨q4, h, hK170⟩ := Option.bind_eq_some_iff.mp h
       refine WC.meet (fun L w' => ∃ (κ' : Col), L = [(0, .pointer (some ⟨b0, 0, none⟩)), (2, .pointer (some ⟨b2, 0, none⟩)), (3, .pointer (some ⟨b3, 0, none⟩)), (4, .pointer (some ⟨b4, 0, none⟩)), (5, .pointer (some ⟨b5, 0, none⟩))] ∧ Stp [8, 20, 23] K76 w72 κ' w' ∧ Bc κ' w' 20 b0 89 [.slice a0_0 p0.b.length u0_0, .int .i64 q4.1, .int .i64 q4.2.1] ∧ Bc κ' w' 8 b4 43 [.int .i64 q4.2.2, .int .i64 x7.1.Out]) ?_ ?_
       ·
        revert h
        cases ht176 : (x14.1 == 2) with
        | true =>
         intro h; replace h := cT h
         refine WC.ct rfl ?_
         refine WC.rs [(0, 2), (1, 1), (2, 2), (3, 1)] rfl ?_
         refine WO.pn 1 rfl ?_
         obtain ⟨x36, hx36, h⟩ := Option.bind_eq_some_iff.mp h
         have f177 := f71.stp S77 rfl rfl
         refine WO.call rfl rfl rfl rfl rfl rfl Try.call77 (s_l1From_ok (κ := fun b => mp [(20, 2)] 0 (K76 b)) (p0 := (⟨p0.b, x14.2.1, x14.2.2⟩ : l1Cur)) (Sl.map f177 (mp [(20, 2)] 0) rfl rfl) (f80.map (mp [(20, 2)] 0) rfl rfl) hx36) ?_
         rintro _ w178 ⟨k179, rfl, e180, f181⟩
         obtain ⟨K182, S183, m184⟩ := Ent.mixed (l := [(20, 2)]) (κ := K76) e180 21 rfl
         refine ⟨trivial, ?_⟩
         have f186 := f181.mx m184 rfl (rfl : 21 + 2 = 23)
         refine WO.k2 rfl rfl rfl rfl (rn_fieldAddr Try.runUnderlying43 rfl Try.sizeOf2 rfl rfl) ?_
         have f187 := f26.stp (S36.tr (S44.tr (S47.tr (S56.tr (S77.tr S183))))) rfl rfl
         refine WO.stB (κ := K182) 8 (off := 0) (vc := [.int .i64 x36.1]) (cs' := [.int .i64 x36.1, .int .i64 x7.1.Out]) rfl rfl rfl rfl rfl rfl rfl Try.sizeOf2 rfl rfl f187 rfl rfl fun w188 S189 f190 => ⟨trivial, ?_⟩
         refine WO.fin ?_
         have f191 := f186.stp S189 rfl rfl
         obtain rfl := Option.some.inj h
         exact DN.meet _ ⟨(fun b => ren [(23, 20)] (K182 b)), rfl, (Stp.ren ((S183.tr S189).wk rfl) [(23, 20)] rfl), (f191.map (ren [(23, 20)]) rfl rfl), (f190.map (ren [(23, 20)]) rfl rfl)⟩ fun a ha => (ha.more (ha.more (ha.more (ha.more (ha.more ha.nil rfl) rfl) rfl) rfl) rfl)
        | false =>
         intro h; replace h := cF h
         refine WC.cf rfl ?_
         refine WC.skip ?_
         have f192 := f26.stp (S36.tr (S44.tr (S47.tr (S56.tr S77)))) rfl rfl
         obtain rfl := Option.some.inj h
         exact DN.meet _ ⟨K76, rfl, (Stp.refl _ _).wk rfl, f80, f192⟩ fun a ha => (ha.more (ha.more (ha.more (ha.more (ha.more ha.nil rfl) rfl) rfl) rfl) rfl)
       rintro _ w171 ⟨K172, rfl, S173, f174, f175⟩
       have h := hK170
       have f193 := f40.stp (S44.tr (S47.tr (S56.tr (S77.tr S173)))) rfl rfl
       obtain rfl := Option.some.inj h
       exact DN.meet _ ⟨K172, rfl, S173.wk rfl, f193, rfl, f174, f175⟩ fun a ha => (ha.more (ha.more (ha.more (ha.more (ha.more ha.nil rfl) rfl) rfl) rfl) rfl)
     rintro _ w128 ⟨K129, rfl, S130, f131, hn132, f133, f134⟩
     have h := hK127
     have f194 := f39.stp (S44.tr (S47.tr (S56.tr (S77.tr S130)))) rfl rfl
     obtain rfl := Option.some.inj h
     exact DN.meet _ ⟨K129, rfl, S130.wk rfl, f194, rfl, f131, hn132, f133, f134⟩ fun a ha => (ha.more (ha.more (ha.more (ha.more (ha.more ha.nil rfl) rfl) rfl) rfl) rfl)
   rintro _ w82 ⟨K83, rfl, S84, f85, hn86, f87, hn88, f89, f90⟩
   have h := hK81
   refine DN.block ?_
   obtain rfl := Option.some.inj h
   exact DN.meet _ ⟨(fun b => ren [(20, 17)] (K83 b)), rfl, (Stp.ren ((S77.tr S84).wk rfl) [(20, 17)] rfl), (f85.map (ren [(20, 17)]) rfl rfl), hn86, (f87.map (ren [(20, 17)]) rfl rfl), hn88, (f89.map (ren [(20, 17)]) rfl rfl), (f90.map (ren [(20, 17)]) rfl rfl)⟩ fun a ha => (ha.more (ha.more (ha.more (ha.more (ha.more ha.nil rfl) rfl) rfl) rfl) rfl)
  | false =>
   intro h; replace h := cF h
   refine WC.cf rfl ?_
   refine WC.skip ?_
   have f195 := f39.stp (S44.tr (S47.tr S56)) rfl rfl
   have f196 := f40.stp (S44.tr (S47.tr S56)) rfl rfl
   have f197 := f26.stp (S36.tr (S44.tr (S47.tr S56))) rfl rfl
   obtain rfl := Option.some.inj h
   exact DN.meet _ ⟨K55, rfl, (Stp.refl _ _).wk rfl, f195, rfl, f196, rfl, f59, f197⟩ fun a ha => (ha.more (ha.more (ha.more (ha.more (ha.more ha.nil rfl) rfl) rfl) rfl) rfl)
 rintro _ w61 ⟨K62, rfl, S63, f64, hn65, f66, hn67, f68, f69⟩
 have h := hK60
 refine DN.seq ?_
 refine WC.seq ?_
 refine WC.rx (κ := K62) [8, 14] none [(0, 0), (1, 0), (2, 1), (3, 1)] [] (by kernel_rfl) (by kernel_rfl) fun w199 S198 => ?_
 have f200 := f69.stp S198 rfl rfl
 refine WO.k0 rfl rfl rfl rfl (rn_la (cs := [.int .i64 q1.2.2.1, .int .i64 x7.1.Out]) Try.isAgg43 Try.sizeOf43 rfl rfl rfl (haC f200.cells rfl)) ?_
 have f201 := f48.stp (S56.tr (S63.tr S198)) rfl rfl
 refine WO.k0 rfl rfl rfl rfl (rn_la (cs := [.slice a10_0 x10.1.Next.length u10_0, .slice a10_1 x10.1.Out.length u10_1]) Try.isAgg46 Try.sizeOf46 rfl rfl rfl (haC f201.cells rfl)) ?_
 have f202 := f4.stp (S7.tr (S16.tr (S22.tr (S25.tr (S36.tr (S44.tr (S47.tr (S56.tr (S63.tr S198))))))))) rfl rfl
 refine WO.stB0 (κ := K62) 3 (vc := [.int .i64 q1.2.2.1, .int .i64 x7.1.Out]) rfl rfl rfl rfl rfl rfl rfl Try.sizeOf43 rfl rfl f202 rfl fun w203 S204 f205 => ⟨(S204.cl rfl), ?_⟩
 have f206 := f8.stp (S16.tr (S22.tr (S25.tr (S36.tr (S44.tr (S47.tr (S56.tr (S63.tr (S198.tr S204))))))))) rfl rfl
 refine WO.stB0 (κ := K62) 4 (vc := [.slice a10_0 x10.1.Next.length u10_0, .slice a10_1 x10.1.Out.length u10_1]) rfl rfl rfl rfl rfl rfl rfl Try.sizeOf46 rfl rfl f206 rfl fun w207 S208 f209 => ⟨((S204.tr S208).cl rfl), ?_⟩
 refine WO.nx ?_
 refine WO.fin ?_
 refine DN.seq ?_
 refine WC.ret ?_
 have f210 := hE.stp (S3.tr (S7.tr (S16.tr (S22.tr (S25.tr (S36.tr (S44.tr (S47.tr (S56.tr (S63.tr (S198.tr (S204.tr S208)))))))))))) rfl rfl
 have f211 := f64.stp (S198.tr (S204.tr S208)) rfl rfl
 have f212 := f66.stp (S198.tr (S204.tr S208)) rfl rfl
 have f213 := f68.stp (S198.tr (S204.tr S208)) rfl rfl
 have f214 := f205.stp S208 rfl rfl
 refine DN.res (l := [.cell 2 43, .cell 3 46]) Try.results49 (res_cellA rfl f214 Try.isAgg43 Try.sizeOf43 rfl (res_cellA rfl f209 Try.isAgg46 Try.sizeOf46 rfl rfl)) rfl ?_
 obtain rfl := Option.some.inj h
 exact ⟨(fun b => ren [(12, 3), (13, 4), (17, 2)] (K62 b)), a10_0, u10_0, a10_1, u10_1, (by simp only [hn65, hn67]), (f210.map (ren [(12, 3), (13, 4), (17, 2)]) rfl rfl), (f211.map (ren [(12, 3), (13, 4), (17, 2)]) rfl rfl), (f212.map (ren [(12, 3), (13, 4), (17, 2)]) rfl rfl), (f213.map (ren [(12, 3), (13, 4), (17, 2)]) rfl rfl)⟩

/- loop.example/g00869/impl.isMachine -/
theorem i_isMachine_ok {w : World} {κ : Col} {p0 : Sig} {a1_0 : Option Addr} {u1_0 : Nat} {a1_1 : Option Addr} {u1_1 : Nat} {p1 : Machine} (g1_0 : Rd (Rp.sl (Rp.int .i64)) κ w 0 a1_0 u1_0 p1.Next) (g1_1 : Rd (Rp.sl (Rp.int .i64)) κ w 0 a1_1 u1_1 p1.Out) {r : Bool} (h : i_isMachine p0 p1 = some r) : Ret Try.prog 51 [.agg #[.int .i64 p0.In, .int .i64 p0.Out], .agg #[.slice a1_0 p1.Next.length u1_0, .slice a1_1 p1.Out.length u1_1]] w (fun v w' => ∃ (κ' : Col), v = .bool r ∧ Ent κ w κ' w') := by
 unfold i_isMachine at h
 refine Ret.enter Try.func51 rfl Try.ntmps51 rfl ?_
 dsimp only [envOf]
 have hE := Ent.refl κ w
 refine WC.seq ?_
 refine WC.rs [(0, 1), (1, 1), (2, 2)] rfl ?_
 refine WO.box (κ := κ) 2 rfl rfl rfl rfl rfl rfl rfl fun b2 w1 K2 S3 f4 => ⟨trivial, ?_⟩
 refine WO.box (κ := K2) 3 rfl rfl rfl rfl rfl rfl rfl fun b3 w5 K6 S7 f8 => ⟨trivial, ?_⟩
 refine WO.pn 1 rfl ?_
 refine WO.fin ?_
 refine DN.seq ?_
 refine WC.seq ?_
 refine WC.rs [(0, 2), (1, 1), (2, 2), (3, 2)] rfl ?_
 refine WO.k2 rfl rfl rfl rfl (rn_fieldAddr Try.runUnderlying46 rfl Try.sizeOf44 rfl rfl) ?_
 refine WO.k1 trivial rfl rfl rfl rfl (rn_ld Try.isAgg44 rfl rfl (hvE (f8.ld 0 rfl rfl))) ?_
 refine WO.k2 rfl rfl rfl rfl (rn_len Try.runUnderlying44 rfl rfl) ?_
 refine WO.pn 1 rfl ?_
 refine WO.fin ?_
 refine DN.seq ?_
 refine WC.seq ?_
 refine WC.seq ?_
 refine WC.rs [(0, 2), (1, 2), (2, 2), (3, 2), (4, 2), (5, 2), (6, 2), (7, 2), (8, 1), (9, 2), (10, 2), (11, 1), (12, 2), (13, 2), (14, 2)] rfl ?_
 refine WO.pn 3 rfl ?_
 obtain ⟨p16, h, hK9⟩ := Option.bind_eq_some_iff.mp h
 refine WO.meet [(3, 2), (4, 2), (5, 2)] [(6, 2), (7, 2), (8, 1), (9, 2), (10, 2), (11, 1), (12, 2), (13, 2), (14, 2)] (fun L w' => L = [(2, .pointer (some ⟨b2, 0, none⟩)), (3, .pointer (some ⟨b3, 0, none⟩)), (5, .int .i64 (p1.Next.length : Int)), (16, .bool p16)] ∧ ∃ κ', Stp [] K6 w5 κ' w') trivial ?_ ?_
 ·
  revert h
  cases ht10 : decide ((p1.Next.length : Int) < 1) with
  | true =>
   intro h; replace h := cT h
   refine WO.pn 3 rfl ?_
   obtain rfl := Option.some.inj h
   exact WO.met _ trivial ⟨rfl, _, (Stp.refl _ _).wk rfl⟩ fun a ha => (ha.more (ha.more (ha.more (ha.more ha.nil rfl) rfl) rfl) rfl)
  | false =>
   intro h; replace h := cF h
   refine WO.pn 3 rfl ?_
   obtain rfl := Option.some.inj h
   exact WO.met _ trivial ⟨rfl, _, (Stp.refl _ _).wk rfl⟩ fun a ha => (ha.more (ha.more (ha.more (ha.more ha.nil rfl) rfl) rfl) rfl)
 rintro _ w11 _ ⟨rfl, K12, S13⟩
 have h := hK9
 refine WO.pn 1 rfl ?_
 obtain ⟨p25, h, hK14⟩ := Option.bind_eq_some_iff.mp h
 refine WO.meet [(7, 2), (8, 1), (9, 2), (10, 2), (11, 1), (12, 2), (13, 2), (14, 2)] [] (fun L w' => L = [(2, .pointer (some ⟨b2, 0, none⟩)), (3, .pointer (some ⟨b3, 0, none⟩)), (5, .int .i64 (p1.Next.length : Int)), (25, .bool p25)] ∧ ∃ κ', Stp [] K12 w11 κ' w') trivial ?_ ?_
 ·
  revert h
  cases ht15 : p16 with
  | true =>
   intro h; replace h := cT h
   refine WO.pn 1 rfl ?_
   refine WO.ls rfl rfl rfl rfl ?_
   refine WO.pn 2 rfl ?_
   refine WO.ls rfl rfl rfl rfl ?_
   refine WO.pn 3 rfl ?_
   obtain rfl := Option.some.inj h
   exact WO.met _ trivial ⟨rfl, _, (Stp.refl _ _).wk rfl⟩ fun a ha => (ha.more (ha.more (ha.more (ha.more ha.nil rfl) rfl) rfl) rfl)
  | false =>
   intro h; replace h := cF h
   refine WO.k2 rfl rfl rfl rfl (rn_fieldAddr Try.runUnderlying46 rfl Try.sizeOf44 rfl rfl) ?_
   have f16 := f8.stp S13 rfl rfl
   refine WO.k1 trivial rfl rfl rfl rfl (rn_ld Try.isAgg44 rfl rfl (hvE (f16.ld 1 rfl rfl))) ?_
   refine WO.k2 rfl rfl rfl rfl (rn_len Try.runUnderlying44 rfl rfl) ?_
   refine WO.k2 rfl rfl rfl rfl (rn_fieldAddr Try.runUnderlying46 rfl Try.sizeOf44 rfl rfl) ?_
   refine WO.k1 trivial rfl rfl rfl rfl (rn_ld Try.isAgg44 rfl rfl (hvE (f16.ld 0 rfl rfl))) ?_
   refine WO.k2 rfl rfl rfl rfl (rn_len Try.runUnderlying44 rfl rfl) ?_
   refine WO.pn 2 rfl ?_
   obtain rfl := Option.some.inj h
   exact WO.met _ trivial ⟨rfl, _, (Stp.refl _ _).wk rfl⟩ fun a ha => (ha.more (ha.more (ha.more (ha.more ha.nil rfl) rfl) rfl) rfl)
 rintro _ w17 _ ⟨rfl, K18, S19⟩
 have h := hK14
 refine WO.fin ?_
 refine DN.seq ?_
 revert h
 cases ht20 : p25 with
 | true =>
  intro h; replace h := cT h
  refine WC.ct rfl ?_
  refine WC.seq ?_
  refine WC.rs [(0, 2)] rfl ?_
  refine WO.pn 1 rfl ?_
  refine WO.fin ?_
  refine DN.seq ?_
  refine WC.ret ?_
  refine DN.retThen ?_
  have f21 := hE.stp (S3.tr (S7.tr (S13.tr S19))) rfl rfl
  refine DN.res (l := [.tmp 4]) Try.results51 (res_tmp rfl rfl) rfl ?_
  obtain rfl := Option.some.inj h
  exact ⟨K18, rfl, f21⟩
 | false =>
  intro h; replace h := cF h
  refine WC.cf rfl ?_
  refine WC.skip ?_
  refine DN.seq ?_
  refine WC.seq ?_
  refine WC.seq ?_
  refine WC.rs [(0, 2), (1, 1), (2, 2), (3, 2)] rfl ?_
  refine WO.k2 rfl rfl rfl rfl (rn_fieldAddr Try.runUnderlying46 rfl Try.sizeOf44 rfl rfl) ?_
  have f22 := f8.stp (S13.tr S19) rfl rfl
  refine WO.k1 trivial rfl rfl rfl rfl (rn_ld Try.isAgg44 rfl rfl (hvE (f22.ld 0 rfl rfl))) ?_
  refine WO.k2 rfl rfl rfl rfl (rn_len Try.runUnderlying44 rfl rfl) ?_
  refine WO.pn 1 rfl ?_
  refine WO.fin ?_
  refine DN.seq ?_
  have hN23 : (p1.Next.length : Int) ≤ 9223372036854775807 := g1_0.len_le
  obtain ⟨q2, hq25, hK24⟩ := Option.bind_eq_some_iff.mp h
  clear h
  refine WC.meet (fun L w' => ∃ (κ' : Col), L = [] ∧ Stp [] K18 w17 κ' w' ∧ q2 = Sum.inr ()) ?_ ?_
  ·
   refine WC.block ?_
   refine WC.loop (fun k L w' => ∃ (κ' : Col) (v29 : Int), L = [(2, .pointer (some ⟨b2, 0, none⟩)), (3, .pointer (some ⟨b3, 0, none⟩)), (5, .int .i64 (p1.Next.length : Int)), (27, .slice a1_0 p1.Next.length u1_0), (28, .int .i64 (p1.Next.length : Int)), (29, .int .i64 v29)] ∧ Stp [] K18 w17 κ' w' ∧ 0 ≤ v29 ∧ Int.toNat ((p1.Next.length : Int) - v29) = k ∧ cntM (i_isMachine_b0 p0 p1) k v29 () = some q2) ⟨_, _, ⟨K18, 0, rfl, (Stp.refl _ _).wk rfl, (by decide), (by simp), hq25⟩, fun a ha => (ha.more (ha.more (ha.more (ha.more (ha.more (ha.more ha.nil rfl) rfl) rfl) rfl) rfl) rfl)⟩ ?_
   rintro k _ w29 ⟨K30, v29, rfl, S31, hj23, hJ23, h⟩
   rcases k with _ | k
   ·
    have hk32 := h; obtain ⟨o23, h⟩ := ex_eq (Sum.inr (Sum.inl ()) : Bool ⊕ ((Unit) ⊕ (Unit)))
    have hc23 : decide (v29 < (p1.Next.length : Int)) = false := decide_eq_false (by omega)
    refine WC.seq ?_
    refine WC.rs [(0, 2)] rfl ?_
    refine WO.pn 1 rfl ?_
    refine WO.fin ?_
    refine DN.seq ?_
    refine WC.seq ?_
    refine WC.cf' rfl hc23 ?_
    refine WC.exit ?_
    refine DN.exitThen ?_
    refine DN.exitThen ?_
    obtain rfl := Option.some.inj h
    have h := hk32
    refine DN.hit ?_
    obtain rfl := Option.some.inj h
    exact DN.meet _ ⟨K30, rfl, S31.wk rfl, rfl⟩ fun a ha => ha.nil
   ·
    obtain ⟨o23, h, hk32⟩ := Option.bind_eq_some_iff.mp h; unfold i_isMachine_b0 at h
    have hc23 : decide (v29 < (p1.Next.length : Int)) = true := decide_eq_true (by omega)
    refine WC.seq ?_
    refine WC.rs [(0, 2)] rfl ?_
    refine WO.pn 1 rfl ?_
    refine WO.fin ?_
    refine DN.seq ?_
    refine WC.seq ?_
    refine WC.ct' rfl hc23 ?_
    refine WC.skip ?_
    refine DN.seq ?_
    refine WC.seq ?_
    refine WC.block ?_
    refine WC.seq ?_
    refine WC.rs [(0, 2), (1, 2), (2, 1), (3, 2), (4, 2)] rfl ?_
    refine WO.pn 1 rfl ?_
    obtain ⟨x32, hx32, h⟩ := Option.bind_eq_some_iff.mp h
    refine WO.k2 rfl rfl rfl rfl (rn_index g1_0 hx32 Try.runUnderlying44 Try.sizeOf24 rfl rfl rfl rfl) ?_
    have f33 := g1_0.stp (S3.tr (S7.tr (S13.tr (S19.tr S31)))) rfl rfl
    obtain ⟨ax32, ux32, f34, hl35⟩ := f33.gSl hx32
    refine WO.k1 trivial rfl rfl rfl rfl (rn_ld Try.isAgg24 rfl rfl (hvE hl35)) ?_
    refine WO.pn 2 rfl ?_
    refine WO.fin ?_
    refine DN.seq ?_
    refine WC.seq ?_
    refine WC.rx (κ := K30) [0, 2, 3] none [(0, 2), (1, 2), (2, 0), (3, 1), (4, 2), (5, 2), (6, 2), (8, 2), (12, 2), (13, 2), (7, 0), (9, 2), (10, 0), (11, 2), (14, 2), (15, 2), (16, 2), (17, 2), (18, 2), (19, 1), (20, 2), (21, 2), (22, 2), (23, 2), (25, 2), (28, 2), (24, 0), (26, 2), (27, 0), (29, 0), (30, 2), (31, 1), (32, 2), (33, 2)] [] (by kernel_rfl) (by kernel_rfl) fun w37 S36 => ?_
    refine WO.pn 1 rfl ?_
    refine WO.k2 rfl rfl rfl rfl (rn_len Try.runUnderlying24 rfl rfl) ?_
    have f38 := f4.stp (S7.tr (S13.tr (S19.tr (S31.tr S36)))) rfl rfl
    refine WO.k0 rfl rfl rfl rfl (rn_la (cs := [.int .i64 p0.In, .int .i64 p0.Out]) Try.isAgg43 Try.sizeOf43 rfl rfl rfl (haC f38.cells rfl)) ?_
    obtain ⟨x37, hx37, h⟩ := Option.bind_eq_some_iff.mp h
    refine WO.call rfl rfl rfl rfl rfl rfl Try.call52 (i_inputsOf_ok (κ := fun b => mp [] 0 (K30 b)) (p0 := p0) hx37) ?_
    rintro _ w39 ⟨k40, rfl, e41⟩
    obtain ⟨K42, S43, m44⟩ := Ent.mixed (l := []) (κ := K30) e41 4 rfl
    refine ⟨(S43.cl rfl), ?_⟩
    refine WO.pn 2 rfl ?_
    obtain ⟨p49, h, hK46⟩ := Option.bind_eq_some_iff.mp h
    refine WO.meet [(6, 2), (8, 2), (12, 2), (13, 2), (7, 0), (9, 2), (10, 0), (11, 2), (14, 2), (15, 2)] [(16, 2), (17, 2), (18, 2), (19, 1), (20, 2), (21, 2), (22, 2), (23, 2), (25, 2), (28, 2), (24, 0), (26, 2), (27, 0), (29, 0), (30, 2), (31, 1), (32, 2), (33, 2)] (fun L w' => L = [(2, .pointer (some ⟨b2, 0, none⟩)), (3, .pointer (some ⟨b3, 0, none⟩)), (5, .int .i64 (p1.Next.length : Int)), (6, .int .i64 v29), (7, .slice ax32 x32.length ux32), (27, .slice a1_0 p1.Next.length u1_0), (28, .int .i64 (p1.Next.length : Int)), (29, .int .i64 v29), (49, .bool p49)] ∧ ∃ κ', Stp [] K42 w39 κ' w') (S43.cl rfl) ?_ ?_
    ·
     revert h
     cases ht47 : ((x32.length : Int) != x37) with
     | true =>
      intro h; replace h := cT h
      refine WO.pn 4 rfl ?_
      refine WO.qs rfl rfl rfl rfl ?_
      refine WO.pn 1 rfl ?_
      refine WO.qs rfl rfl rfl rfl ?_
      refine WO.pn 3 rfl ?_
      obtain rfl := Option.some.inj h
      exact WO.met _ (S43.cl rfl) ⟨rfl, _, (Stp.refl _ _).wk rfl⟩ fun a ha => (ha.more (ha.more (ha.more (ha.more (ha.more (ha.more (ha.more (ha.more (ha.more ha.nil rfl) rfl) rfl) rfl) rfl) rfl) rfl) rfl) rfl)
     | false =>
      intro h; replace h := cF h
      refine WO.k2 rfl rfl rfl rfl (rn_fieldAddr Try.runUnderlying46 rfl Try.sizeOf44 rfl rfl) ?_
      refine WO.pn 2 rfl ?_
      refine WO.k2 rfl rfl rfl rfl (rn_len Try.runUnderlying24 rfl rfl) ?_
      have f48 := f22.stp (S31.tr S36) rfl rfl
      refine WO.k0 rfl rfl rfl rfl (rn_ld Try.isAgg44 rfl rfl (hvC (f48.ld 1 rfl rfl) rfl)) ?_
      obtain ⟨x43, hx43, h⟩ := Option.bind_eq_some_iff.mp h
      refine WO.k2 rfl rfl rfl rfl (rn_index g1_1 hx43 Try.runUnderlying44 Try.sizeOf24 rfl rfl rfl rfl) ?_
      have f49 := g1_1.stp (S3.tr (S7.tr (S13.tr (S19.tr (S31.tr S36))))) rfl rfl
      obtain ⟨ax43, ux43, f50, hl51⟩ := f49.gSl hx43
      refine WO.k0 rfl rfl rfl rfl (rn_ld Try.isAgg24 rfl rfl (hvC hl51 rfl)) ?_
      refine WO.k2 rfl rfl rfl rfl (rn_len Try.runUnderlying24 rfl rfl) ?_
      refine WO.pn 2 rfl ?_
      obtain rfl := Option.some.inj h
      exact WO.met _ (S43.cl rfl) ⟨rfl, _, (Stp.refl _ _).wk rfl⟩ fun a ha => (ha.more (ha.more (ha.more (ha.more (ha.more (ha.more (ha.more (ha.more (ha.more ha.nil rfl) rfl) rfl) rfl) rfl) rfl) rfl) rfl) rfl)
    rintro _ w52 _ ⟨rfl, K53, S54⟩
    have h := hK46
    refine WO.pn 1 rfl ?_
    obtain ⟨p55, h, hK55⟩ := Option.bind_eq_some_iff.mp h
    refine WO.meet [(17, 2), (18, 2), (19, 1), (20, 2), (21, 2)] [(22, 2), (23, 2), (25, 2), (28, 2), (24, 0), (26, 2), (27, 0), (29, 0), (30, 2), (31, 1), (32, 2), (33, 2)] (fun L w' => L = [(2, .pointer (some ⟨b2, 0, none⟩)), (3, .pointer (some ⟨b3, 0, none⟩)), (5, .int .i64 (p1.Next.length : Int)), (6, .int .i64 v29), (27, .slice a1_0 p1.Next.length u1_0), (28, .int .i64 (p1.Next.length : Int)), (29, .int .i64 v29), (55, .bool p55)] ∧ ∃ κ', Stp [] K53 w52 κ' w') ((S43.tr S54).cl rfl) ?_ ?_
    ·
     revert h
     cases ht56 : p49 with
     | true =>
      intro h; replace h := cT h
      refine WO.pn 2 rfl ?_
      refine WO.ls rfl rfl rfl rfl ?_
      refine WO.pn 2 rfl ?_
      obtain rfl := Option.some.inj h
      exact WO.met _ ((S43.tr S54).cl rfl) ⟨rfl, _, (Stp.refl _ _).wk rfl⟩ fun a ha => (ha.more (ha.more (ha.more (ha.more (ha.more (ha.more (ha.more (ha.more ha.nil rfl) rfl) rfl) rfl) rfl) rfl) rfl) rfl)
     | false =>
      intro h; replace h := cF h
      refine WO.pn 2 rfl ?_
      obtain ⟨x53, hx53, h⟩ := Option.bind_eq_some_iff.mp h
      have f57 := f34.stp (S36.tr (S43.tr S54)) rfl rfl
      refine WO.call rfl rfl rfl rfl rfl rfl Try.call62 (i_areLetters_ok (κ := fun b => mp [] 0 (K53 b)) (Sl.map f57 (mp [] 0) rfl rfl) hx53) ?_
      rintro _ w58 ⟨k59, rfl, e60⟩
      obtain ⟨K61, S62, m63⟩ := Ent.mixed (l := []) (κ := K53) e60 6 rfl
      refine ⟨((S43.tr (S54.tr S62)).cl rfl), ?_⟩
      refine WO.pn 2 rfl ?_
      obtain rfl := Option.some.inj h
      exact WO.met _ ((S43.tr (S54.tr S62)).cl rfl) ⟨rfl, _, S62.wk rfl⟩ fun a ha => (ha.more (ha.more (ha.more (ha.more (ha.more (ha.more (ha.more (ha.more ha.nil rfl) rfl) rfl) rfl) rfl) rfl) rfl) rfl)
    rintro _ w65 _ ⟨rfl, K66, S67⟩
    have h := hK55
    refine WO.pn 1 rfl ?_
    obtain ⟨p67, h, hK68⟩ := Option.bind_eq_some_iff.mp h
    refine WO.meet [(23, 2), (25, 2), (28, 2), (24, 0), (26, 2), (27, 0), (29, 0), (30, 2), (31, 1), (32, 2), (33, 2)] [] (fun L w' => L = [(2, .pointer (some ⟨b2, 0, none⟩)), (3, .pointer (some ⟨b3, 0, none⟩)), (5, .int .i64 (p1.Next.length : Int)), (27, .slice a1_0 p1.Next.length u1_0), (28, .int .i64 (p1.Next.length : Int)), (29, .int .i64 v29), (67, .bool p67)] ∧ ∃ κ', Stp [] K66 w65 κ' w') ((S43.tr (S54.tr S67)).cl rfl) ?_ ?_
    ·
     revert h
     cases ht69 : p55 with
     | true =>
      intro h; replace h := cT h
      refine WO.pn 3 rfl ?_
      refine WO.qs rfl rfl rfl rfl ?_
      refine WO.pn 1 rfl ?_
      refine WO.qs rfl rfl rfl rfl ?_
      refine WO.qs rfl rfl rfl rfl ?_
      refine WO.pn 1 rfl ?_
      refine WO.ls rfl rfl rfl rfl ?_
      refine WO.pn 2 rfl ?_
      obtain rfl := Option.some.inj h
      exact WO.met _ ((S43.tr (S54.tr S67)).cl rfl) ⟨rfl, _, (Stp.refl _ _).wk rfl⟩ fun a ha => (ha.more (ha.more (ha.more (ha.more (ha.more (ha.more (ha.more ha.nil rfl) rfl) rfl) rfl) rfl) rfl) rfl)
     | false =>
      intro h; replace h := cF h
      refine WO.k2 rfl rfl rfl rfl (rn_fieldAddr Try.runUnderlying46 rfl Try.sizeOf44 rfl rfl) ?_
      refine WO.pn 1 rfl ?_
      refine WO.k2 rfl rfl rfl rfl (rn_fieldAddr Try.runUnderlying43 rfl Try.sizeOf2 rfl rfl) ?_
      have f70 := f22.stp (S31.tr S36) rfl rfl
      refine WO.k0 rfl rfl rfl rfl (rn_ld Try.isAgg44 rfl rfl (hvC (f70.ld 1 rfl rfl) rfl)) ?_
      obtain ⟨x60, hx60, h⟩ := Option.bind_eq_some_iff.mp h
      refine WO.k2 rfl rfl rfl rfl (rn_index g1_1 hx60 Try.runUnderlying44 Try.sizeOf24 rfl rfl rfl rfl) ?_
      have f71 := g1_1.stp (S3.tr (S7.tr (S13.tr (S19.tr (S31.tr S36))))) rfl rfl
      obtain ⟨ax60, ux60, f72, hl73⟩ := f71.gSl hx60
      refine WO.k0 rfl rfl rfl rfl (rn_ld Try.isAgg24 rfl rfl (hvC hl73 rfl)) ?_
      refine WO.k0 rfl rfl rfl rfl (rn_ld Try.isAgg2 rfl rfl (hvC (f38.ld 1 rfl rfl) rfl)) ?_
      obtain ⟨_z64, hz64, h⟩ := Option.bind_eq_some_iff.mp h
      refine WO.k2 rfl rfl rfl rfl (rn_shl rfl rfl rfl (nn_ok hz64)) ?_
      obtain ⟨x65, hx65, h⟩ := Option.bind_eq_some_iff.mp h
      have f74 := f72.stp (S43.tr (S54.tr S67)) rfl rfl
      refine WO.call rfl rfl rfl rfl rfl rfl Try.call62 (i_areLetters_ok (κ := fun b => mp [] 0 (K66 b)) (Sl.map f74 (mp [] 0) rfl rfl) hx65) ?_
      rintro _ w75 ⟨k76, rfl, e77⟩
      obtain ⟨K78, S79, m80⟩ := Ent.mixed (l := []) (κ := K66) e77 6 rfl
      refine ⟨((S43.tr (S54.tr (S67.tr S79))).cl rfl), ?_⟩
      refine WO.pn 2 rfl ?_
      obtain rfl := Option.some.inj h
      exact WO.met _ ((S43.tr (S54.tr (S67.tr S79))).cl rfl) ⟨rfl, _, S79.wk rfl⟩ fun a ha => (ha.more (ha.more (ha.more (ha.more (ha.more (ha.more (ha.more ha.nil rfl) rfl) rfl) rfl) rfl) rfl) rfl)
    rintro _ w82 _ ⟨rfl, K83, S84⟩
    have h := hK68
    refine WO.nx ?_
    refine WO.fin ?_
    refine DN.seq ?_
    revert h
    cases ht85 : p67 with
    | true =>
     intro h; replace h := cT h
     refine WC.ct rfl ?_
     refine WC.seq ?_
     refine WC.rs [(0, 2)] rfl ?_
     refine WO.pn 1 rfl ?_
     refine WO.fin ?_
     refine DN.seq ?_
     refine WC.ret ?_
     refine DN.retBlock ?_
     refine DN.retThen ?_
     refine DN.retThen ?_
     obtain rfl := Option.some.inj h
     obtain rfl := Option.some.inj hk32
     have h := hK24
     dsimp only [aft] at h
     refine DN.retBlock ?_
     refine DN.retMeet ?_
     refine DN.retThen ?_
     have f86 := hE.stp (S3.tr (S7.tr (S13.tr (S19.tr (S31.tr (S36.tr (S43.tr (S54.tr (S67.tr S84))))))))) rfl rfl
     refine DN.res (l := [.tmp 4]) Try.results51 (res_tmp rfl rfl) rfl ?_
     obtain rfl := Option.some.inj h
     exact ⟨K83, rfl, f86⟩
    | false =>
     intro h; replace h := cF h
     refine WC.cf rfl ?_
     refine WC.skip ?_
     refine DN.block ?_
     refine DN.seq ?_
     refine WC.rs [(0, 2), (1, 2)] rfl ?_
     refine WO.pn 2 rfl ?_
     refine WO.fin ?_
     have hw23 : IntKind.wrap .i64 (v29 + 1) = v29 + 1 := wr1 hj23 (of_decide_eq_true hc23) hN23
     rw [hw23]
     have hc23 := of_decide_eq_true hc23
     obtain rfl := Option.some.inj h
     refine DN.round fun a ha => ?_
     exact ⟨k, _, Nat.lt_succ_self _, ⟨K83, v29 + 1, rfl, (S31.tr (S36.tr (S43.tr (S54.tr (S67.tr S84))))).wk rfl, by omega, by omega, hk32⟩, (ha.more (ha.more (ha.more (ha.more (ha.more (ha.more ha.nil rfl) rfl) rfl) rfl) rfl) rfl)⟩
  rintro _ w26 ⟨K27, rfl, S28, rfl⟩
  have h := hK24
  dsimp only [aft] at h
  refine DN.seq ?_
  refine WC.seq ?_
  refine WC.rs [(0, 2)] rfl ?_
  refine WO.pn 1 rfl ?_
  refine WO.fin ?_
  refine DN.seq ?_
  refine WC.ret ?_
  have f87 := hE.stp (S3.tr (S7.tr (S13.tr (S19.tr S28)))) rfl rfl
  refine DN.res (l := [.tmp 4]) Try.results51 (res_tmp rfl rfl) rfl ?_
  obtain rfl := Option.some.inj h
  exact ⟨K27, rfl, f87⟩

/- loop.example/g00869/spec.CircuitMeets -/
theorem s_CircuitMeets_ok {w : World} {κ : Col} {p0 : Sig} {a1_2 : Option Addr} {u1_2 : Nat} {a1_3 : Option Addr} {u1_3 : Nat} {a1_4 : Option Addr} {u1_4 : Nat} {p1 : Circuit} {a2_0 : Option Addr} {u2_0 : Nat} {a2_1 : Option Addr} {u2_1 : Nat} {p2 : Machine} (g1_2 : Rd (Rp.int .i64) κ w 0 a1_2 u1_2 p1.Next) (g1_3 : Rd Gate.rp κ w 0 a1_3 u1_3 p1.Gates) (g1_4 : Rd (Rp.int .i64) κ w 0 a1_4 u1_4 p1.Outs) (g2_0 : Rd (Rp.sl (Rp.int .i64)) κ w 0 a2_0 u2_0 p2.Next) (g2_1 : Rd (Rp.sl (Rp.int .i64)) κ w 0 a2_1 u2_1 p2.Out) {r : Bool} (h : s_CircuitMeets p0 p1 p2 = some r) : Ret Try.prog 23 [.agg #[.int .i64 p0.In, .int .i64 p0.Out], .agg #[.int .i64 p1.Inputs, .int .i64 p1.Latches, .slice a1_2 p1.Next.length u1_2, .slice a1_3 p1.Gates.length u1_3, .slice a1_4 p1.Outs.length u1_4], .agg #[.slice a2_0 p2.Next.length u2_0, .slice a2_1 p2.Out.length u2_1]] w (fun v w' => ∃ (κ' : Col), v = .bool r ∧ Ent κ w κ' w') := by
 unfold s_CircuitMeets at h
 refine Ret.enter Try.func23 rfl Try.ntmps23 rfl ?_
 dsimp only [envOf]
 have hE := Ent.refl κ w
 refine WC.seq ?_
 refine WC.rs [(0, 1), (1, 1), (2, 1), (3, 2)] rfl ?_
 refine WO.box (κ := κ) 2 rfl rfl rfl rfl rfl rfl rfl fun b3 w1 K2 S3 f4 => ⟨trivial, ?_⟩
 refine WO.box (κ := K2) 3 rfl rfl rfl rfl rfl rfl rfl fun b4 w5 K6 S7 f8 => ⟨trivial, ?_⟩
 refine WO.box (κ := K6) 4 rfl rfl rfl rfl rfl rfl rfl fun b5 w9 K10 S11 f12 => ⟨trivial, ?_⟩
 refine WO.pn 1 rfl ?_
 refine WO.fin ?_
 refine DN.seq ?_
 refine WC.seq ?_
 refine WC.seq ?_
 refine WC.rs [(0, 1), (1, 1), (2, 1), (3, 2), (4, 2), (5, 1), (6, 1), (7, 1), (8, 2), (9, 2)] rfl ?_
 have f13 := f4.stp (S7.tr S11) rfl rfl
 refine WO.k1 trivial rfl rfl rfl rfl (rn_la (cs := [.int .i64 p0.In, .int .i64 p0.Out]) Try.isAgg43 Try.sizeOf43 rfl rfl rfl (haE f13.cells)) ?_
 refine WO.k1 trivial rfl rfl rfl rfl (rn_la (cs := [.slice a2_0 p2.Next.length u2_0, .slice a2_1 p2.Out.length u2_1]) Try.isAgg46 Try.sizeOf46 rfl rfl rfl (haE f12.cells)) ?_
 obtain ⟨x17, hx17, h⟩ := Option.bind_eq_some_iff.mp h
 have f14 := g2_0.stp (S3.tr (S7.tr S11)) rfl rfl
 have f15 := g2_1.stp (S3.tr (S7.tr S11)) rfl rfl
 refine WO.call rfl rfl rfl rfl rfl rfl Try.call22 (s_MachineOk_ok (κ := fun b => mp [] 0 (K10 b)) (p0 := p0) (p1 := p2) (Sl.map f14 (mp [] 0) rfl rfl) (Sl.map f15 (mp [] 0) rfl rfl) hx17) ?_
 rintro _ w16 ⟨k17, rfl, e18⟩
 obtain ⟨K19, S20, m21⟩ := Ent.mixed (l := []) (κ := K10) e18 5 rfl
 refine ⟨trivial, ?_⟩
 refine WO.pn 2 rfl ?_
 obtain ⟨p24, h, hK23⟩ := Option.bind_eq_some_iff.mp h
 refine WO.meet [(5, 1), (6, 1), (7, 1), (8, 2), (9, 2)] [] (fun L w' => L = [(3, .pointer (some ⟨b3, 0, none⟩)), (4, .pointer (some ⟨b4, 0, none⟩)), (5, .pointer (some ⟨b5, 0, none⟩)), (24, .bool p24)] ∧ ∃ κ', Stp [] K19 w16 κ' w') trivial ?_ ?_
 ·
  revert h
  cases ht24 : (!x17) with
  | true =>
   intro h; replace h := cT h
   refine WO.ls rfl rfl rfl rfl ?_
   refine WO.ls rfl rfl rfl rfl ?_
   refine WO.ls rfl rfl rfl rfl ?_
   refine WO.pn 2 rfl ?_
   obtain rfl := Option.some.inj h
   exact WO.met _ trivial ⟨rfl, _, (Stp.refl _ _).wk rfl⟩ fun a ha => (ha.more (ha.more (ha.more (ha.more ha.nil rfl) rfl) rfl) rfl)
  | false =>
   intro h; replace h := cF h
   have f25 := f13.stp S20 rfl rfl
   refine WO.k1 trivial rfl rfl rfl rfl (rn_la (cs := [.int .i64 p0.In, .int .i64 p0.Out]) Try.isAgg43 Try.sizeOf43 rfl rfl rfl (haE f25.cells)) ?_
   have f26 := f8.stp (S11.tr S20) rfl rfl
   refine WO.k1 trivial rfl rfl rfl rfl (rn_la (cs := [.int .i64 p1.Inputs, .int .i64 p1.Latches, .slice a1_2 p1.Next.length u1_2, .slice a1_3 p1.Gates.length u1_3, .slice a1_4 p1.Outs.length u1_4]) Try.isAgg27 Try.sizeOf27 rfl rfl rfl (haE f26.cells)) ?_
   obtain ⟨x22, hx22, h⟩ := Option.bind_eq_some_iff.mp h
   have f27 := g1_2.stp (S3.tr (S7.tr (S11.tr S20))) rfl rfl
   have f28 := g1_3.stp (S3.tr (S7.tr (S11.tr S20))) rfl rfl
   have f29 := g1_4.stp (S3.tr (S7.tr (S11.tr S20))) rfl rfl
   refine WO.call rfl rfl rfl rfl rfl rfl Try.call59 (s_l31Fits_ok (κ := fun b => mp [] 0 (K19 b)) (p0 := p0) (p1 := p1) (Sl.map f27 (mp [] 0) rfl rfl) (Sl.map f28 (mp [] 0) rfl rfl) (Sl.map f29 (mp [] 0) rfl rfl) hx22) ?_
   rintro _ w30 ⟨k31, rfl, e32⟩
   obtain ⟨K33, S34, m35⟩ := Ent.mixed (l := []) (κ := K19) e32 7 rfl
   refine ⟨trivial, ?_⟩
   refine WO.pn 2 rfl ?_
   obtain rfl := Option.some.inj h
   exact WO.met _ trivial ⟨rfl, _, S34.wk rfl⟩ fun a ha => (ha.more (ha.more (ha.more (ha.more ha.nil rfl) rfl) rfl) rfl)
 rintro _ w37 _ ⟨rfl, K38, S39⟩
 have h := hK23
 refine WO.fin ?_
 refine DN.seq ?_
 revert h
 cases ht40 : p24 with
 | true =>
  intro h; replace h := cT h
  refine WC.ct rfl ?_
  refine WC.seq ?_
  refine WC.rs [(0, 2)] rfl ?_
  refine WO.pn 1 rfl ?_
  refine WO.fin ?_
  refine DN.seq ?_
  refine WC.ret ?_
  refine DN.retThen ?_
  have f41 := hE.stp (S3.tr (S7.tr (S11.tr (S20.tr S39)))) rfl rfl
  refine DN.res (l := [.tmp 6]) Try.results23 (res_tmp rfl rfl) rfl ?_
  obtain rfl := Option.some.inj h
  exact ⟨K38, rfl, f41⟩
 | false =>
  intro h; replace h := cF h
  refine WC.cf rfl ?_
  refine WC.skip ?_
  refine DN.seq ?_
  refine WC.seq ?_
  refine WC.rs [(0, 2), (1, 1), (2, 2), (3, 2)] rfl ?_
  refine WO.k2 rfl rfl rfl rfl (rn_fieldAddr Try.runUnderlying46 rfl Try.sizeOf44 rfl rfl) ?_
  have f42 := f12.stp (S20.tr S39) rfl rfl
  refine WO.k1 trivial rfl rfl rfl rfl (rn_ld Try.isAgg44 rfl rfl (hvE (f42.ld 0 rfl rfl))) ?_
  refine WO.k2 rfl rfl rfl rfl (rn_len Try.runUnderlying44 rfl rfl) ?_
  refine WO.pn 1 rfl ?_
  refine WO.fin ?_
  refine DN.seq ?_
  refine WC.seq ?_
  refine WC.rs [(0, 2), (1, 2), (2, 1), (3, 1), (4, 2), (5, 1), (6, 2)] rfl ?_
  refine WO.pn 1 rfl ?_
  refine WO.k2 rfl rfl rfl rfl (rn_fieldAddr Try.runUnderlying27 rfl Try.sizeOf2 rfl rfl) ?_
  have f43 := f8.stp (S11.tr (S20.tr S39)) rfl rfl
  refine WO.k1 trivial rfl rfl rfl rfl (rn_ld Try.isAgg2 rfl rfl (hvE (f43.ld 1 rfl rfl))) ?_
  obtain ⟨x31, hx31, h⟩ := Option.bind_eq_some_iff.mp h
  refine WO.call rfl rfl rfl rfl rfl rfl Try.call39 (s_l31Pow_ok (κ := fun b => mp [] 0 (K38 b)) hx31) ?_
  rintro _ w44 ⟨k45, rfl, e46⟩
  obtain ⟨K47, S48, m49⟩ := Ent.mixed (l := []) (κ := K38) e46 7 rfl
  refine ⟨trivial, ?_⟩
  refine WO.pn 1 rfl ?_
  obtain ⟨x33, hx33, h⟩ := Option.bind_eq_some_iff.mp h
  refine WO.mk (κ := K47) (E := Ep.bool) (z := (false : Bool)) 9 rfl rfl rfl rfl rfl rfl rfl Try.underlying77 Tryinfo4 rfl rfl rfl rfl rfl (fun _ _ _ => rfl) (mkS_C hx33) fun a33 u33 w51 K52 S53 f54 => ⟨trivial, ?_⟩
  refine WO.pn 1 rfl ?_
  refine WO.fin ?_
  refine DN.seq ?_
  refine WC.seq ?_
  refine WC.rs [(0, 1), (1, 2)] rfl ?_
  refine WO.bl (κ := K52) (E := (Ep.int .i64)) 10 [] (parts := [(0, .const (.int .i64 0))]) (cells := [.int .i64 0]) (xs := ([0] : List Int)) rfl rfl rfl rfl rfl rfl Try.underlying24 Tryinfo2 rfl rfl rfl rfl rfl rfl rfl rfl rfl rfl ⟨[.int .i64 0], [], Zl K52 w51 [], Zl K52 w51 [], rfl, Zl.sp (l1 := []) (l2 := []) rfl, Zl.sr (l1 := []) (l2 := []), rfl, rfl⟩ fun a34 u34 w55 K56 S57 f58 => ⟨trivial, ?_⟩
  refine WO.pn 1 rfl ?_
  refine WO.fin ?_
  refine DN.seq ?_
  refine WC.seq ?_
  refine WC.rs [(0, 2), (1, 2), (2, 1)] rfl ?_
  refine WO.pn 1 rfl ?_
  obtain ⟨x36, hx36, h⟩ := Option.bind_eq_some_iff.mp h
  refine WO.k2 rfl rfl rfl rfl (rn_index f54.rdc hx36 Try.runUnderlying77 Try.sizeOf4 rfl rfl rfl rfl) ?_
  have f59 := f54.stp S57 rfl rfl
  obtain ⟨y24, hy24, h⟩ := Option.bind_eq_some_iff.mp h
  refine WO.stI (κ := K56) (E := Ep.bool) 9 [] rfl rfl rfl rfl rfl rfl rfl rfl Try.sizeOf4 rfl rfl rfl rfl f59 hy24 fun w60 K61 S62 f63 => ⟨trivial, ?_⟩
  have hn64 : x33.length = y24.length := (setI_ok hy24).2.2.2.symm
  refine WO.fin ?_
  refine DN.seq ?_
  refine WC.seq ?_
  obtain ⟨q2, hq67, hK66⟩ := Option.bind_eq_some_iff.mp h
  clear h
  refine WC.meet (fun L w' => ∃ (κ' : Col) (s3 : (List Int) × (List Bool)) (las3_0 : Option Addr) (lus3_0 : Nat), L = [] ∧ Stp [9, 10] K61 w60 κ' w' ∧ Oc (Ep.int .i64) 2 κ' w' 10 las3_0 lus3_0 s3.1 ∧ Oc Ep.bool 4 κ' w' 9 a33 u33 s3.2 ∧ x33.length = s3.2.length ∧ q2 = Sum.inr s3) ?_ ?_
  ·
   refine WC.block ?_
   have f80 := f58.stp S62 rfl rfl
   refine WC.loop (fun k L w' => ∃ (κ' : Col) (s1 : (List Int) × (List Bool)) (las1_0 : Option Addr) (lus1_0 : Nat), L = [(3, .pointer (some ⟨b3, 0, none⟩)), (4, .pointer (some ⟨b4, 0, none⟩)), (5, .pointer (some ⟨b5, 0, none⟩)), (7, .int .i64 (p2.Next.length : Int)), (8, .slice a33 x33.length u33), (9, .slice las1_0 s1.1.length lus1_0)] ∧ Stp [9, 10] K61 w60 κ' w' ∧ Oc (Ep.int .i64) 2 κ' w' 10 las1_0 lus1_0 s1.1 ∧ Oc Ep.bool 4 κ' w' 9 a33 u33 s1.2 ∧ x33.length = s1.2.length ∧ whileM (s_CircuitMeets_b0 p0 p1 p2) k s1 = some q2) ⟨_, _, ⟨K61, ((([0] : List Int) : (List Int)), (y24 : (List Bool))), a34, u34, rfl, (Stp.refl _ _).wk rfl, f80, f63, hn64, hq67⟩, fun a ha => (ha.more (ha.more (ha.more (ha.more (ha.more (ha.more ha.nil rfl) rfl) rfl) rfl) rfl) rfl)⟩ ?_
   rintro k _ w74 ⟨K75, s1, las1_0, lus1_0, rfl, S76, f77, f78, hn79, h⟩
   rcases k with _ | k
   ·
    cases h
   ·
    obtain ⟨o65, h, hk81⟩ := Option.bind_eq_some_iff.mp h; unfold s_CircuitMeets_b0 at h
    refine WC.seq ?_
    refine WC.seq ?_
    refine WC.rs [(0, 2), (1, 2), (2, 2)] rfl ?_
    refine WO.pn 1 rfl ?_
    refine WO.k2 rfl rfl rfl rfl (rn_len Try.runUnderlying24 rfl rfl) ?_
    refine WO.pn 1 rfl ?_
    refine WO.fin ?_
    refine DN.seq ?_
    revert h
    cases ht82 : decide (0 < (s1.1.length : Int)) with
    | true =>
     intro h; replace h := cT h
     refine WC.ct rfl ?_
     refine WC.skip ?_
     refine DN.seq ?_
     refine WC.block ?_
     refine WC.seq ?_
     refine WC.rs [(0, 2), (1, 2), (2, 1), (3, 2)] rfl ?_
     refine WO.pn 1 rfl ?_
     obtain ⟨x41, hx41, h⟩ := Option.bind_eq_some_iff.mp h
     refine WO.k2 rfl rfl rfl rfl (rn_index f77.rdc hx41 Try.runUnderlying24 Try.sizeOf2 rfl rfl rfl rfl) ?_
     refine WO.k1 trivial rfl rfl rfl rfl (rn_ld Try.isAgg2 rfl rfl (hvE (f77.rdc.gInt hx41))) ?_
     refine WO.pn 1 rfl ?_
     refine WO.fin ?_
     refine DN.seq ?_
     refine WC.seq ?_
     refine WC.rs [(0, 2), (1, 2), (2, 2)] rfl ?_
     refine WO.pn 1 rfl ?_
     obtain ⟨x44, hx44, h⟩ := Option.bind_eq_some_iff.mp h
     refine WO.k2 rfl rfl rfl rfl (rn_slice (k1 := .i64) (k2 := .i64) Try.runUnderlying24 Try.sizeOf2 (.inr ⟨_, rfl, rfl⟩) (.inl ⟨rfl, rfl⟩) hx44 f77.rdc.1 rfl rfl rfl) ?_
     have f83 := f77.sub hx44
     refine WO.pn 1 rfl ?_
     refine WO.fin ?_
     refine DN.seq ?_
     refine WC.seq ?_
     refine WC.rs [(0, 2)] rfl ?_
     refine WO.pn 1 rfl ?_
     refine WO.fin ?_
     refine DN.seq ?_
     obtain ⟨q5, hq86, hK85⟩ := Option.bind_eq_some_iff.mp h
     clear h
     refine WC.meet (fun L w' => ∃ (κ' : Col) (s6 : (List Int) × Int × (List Bool)) (las6_0 : Option Addr) (lus6_0 : Nat), L = [(3, .pointer (some ⟨b3, 0, none⟩)), (4, .pointer (some ⟨b4, 0, none⟩)), (5, .pointer (some ⟨b5, 0, none⟩)), (7, .int .i64 (p2.Next.length : Int)), (8, .slice a33 x33.length u33), (9, .slice las6_0 s6.1.length lus6_0)] ∧ Stp [9, 10] K75 w74 κ' w' ∧ Oc (Ep.int .i64) 2 κ' w' 10 las6_0 lus6_0 s6.1 ∧ Oc Ep.bool 4 κ' w' 9 a33 u33 s6.2.2 ∧ x33.length = s6.2.2.length ∧ q5 = Sum.inr s6) ?_ ?_
     ·
      refine WC.block ?_
      refine WC.loop (fun k L w' => ∃ (κ' : Col) (s4 : (List Int) × Int × (List Bool)) (las4_0 : Option Addr) (lus4_0 : Nat), L = [(3, .pointer (some ⟨b3, 0, none⟩)), (4, .pointer (some ⟨b4, 0, none⟩)), (5, .pointer (some ⟨b5, 0, none⟩)), (7, .int .i64 (p2.Next.length : Int)), (8, .slice a33 x33.length u33), (9, .slice las4_0 s4.1.length lus4_0), (10, .int .i64 x41), (11, .int .i64 s4.2.1)] ∧ Stp [9, 10] K75 w74 κ' w' ∧ Oc (Ep.int .i64) 2 κ' w' 10 las4_0 lus4_0 s4.1 ∧ Oc Ep.bool 4 κ' w' 9 a33 u33 s4.2.2 ∧ x33.length = s4.2.2.length ∧ whileM (s_CircuitMeets_b2 p0 p1 p2 x41) k s4 = some q5) ⟨_, _, ⟨K75, ((x44 : (List Int)), (0 : Int), (s1.2 : (List Bool))), (subA las1_0 lus1_0 (1 : Int).toNat 1), (lus1_0 - (1 : Int).toNat), rfl, (Stp.refl _ _).wk rfl, f83, f78, hn79, hq86⟩, fun a ha => (ha.more (ha.more (ha.more (ha.more (ha.more (ha.more (ha.more (ha.more ha.nil rfl) rfl) rfl) rfl) rfl) rfl) rfl) rfl)⟩ ?_
      rintro k _ w93 ⟨K94, s4, las4_0, lus4_0, rfl, S95, f96, f97, hn98, h⟩
      rcases k with _ | k
      ·
       cases h
      ·
       obtain ⟨o84, h, hk99⟩ := Option.bind_eq_some_iff.mp h; unfold s_CircuitMeets_b2 at h
       refine WC.seq ?_
       refine WC.seq ?_
       refine WC.rs [(0, 2), (1, 2), (2, 1), (3, 1), (4, 2)] rfl ?_
       refine WO.pn 1 rfl ?_
       refine WO.k2 rfl rfl rfl rfl (rn_fieldAddr Try.runUnderlying43 rfl Try.sizeOf2 rfl rfl) ?_
       have f100 := f13.stp (S20.tr (S39.tr (S48.tr (S53.tr (S57.tr (S62.tr (S76.tr S95))))))) rfl rfl
       refine WO.k1 trivial rfl rfl rfl rfl (rn_ld Try.isAgg2 rfl rfl (hvE (f100.ld 0 rfl rfl))) ?_
       obtain ⟨x48, hx48, h⟩ := Option.bind_eq_some_iff.mp h
       refine WO.call rfl rfl rfl rfl rfl rfl Try.call39 (s_l31Pow_ok (κ := fun b => mp [] 0 (K94 b)) hx48) ?_
       rintro _ w101 ⟨k102, rfl, e103⟩
       obtain ⟨K104, S105, m106⟩ := Ent.mixed (l := []) (κ := K94) e103 11 rfl
       refine ⟨trivial, ?_⟩
       refine WO.pn 1 rfl ?_
       refine WO.fin ?_
       refine DN.seq ?_
       revert h
       cases ht108 : decide (s4.2.1 < x48) with
       | true =>
        intro h; replace h := cT h
        refine WC.ct rfl ?_
        refine WC.skip ?_
        refine DN.seq ?_
        refine WC.seq ?_
        refine WC.block ?_
        refine WC.seq ?_
        refine WC.rx (κ := K104) [3] none [(1, 2), (2, 2), (3, 2), (4, 2), (0, 0), (5, 1), (6, 2), (7, 2), (8, 2), (9, 2), (10, 2)] [] (by kernel_rfl) (by kernel_rfl) fun w110 S109 => ?_
        refine WO.pn 2 rfl ?_
        obtain ⟨_z56, hz56, h⟩ := Option.bind_eq_some_iff.mp h
        refine WO.k2 rfl rfl rfl rfl (rn_quo rfl rfl rfl (nz_ok hz56)) ?_
        refine WO.pn 1 rfl ?_
        have f111 := f43.stp (S48.tr (S53.tr (S57.tr (S62.tr (S76.tr (S95.tr (S105.tr S109))))))) rfl rfl
        refine WO.k0 rfl rfl rfl rfl (rn_la (cs := [.int .i64 p1.Inputs, .int .i64 p1.Latches, .slice a1_2 p1.Next.length u1_2, .slice a1_3 p1.Gates.length u1_3, .slice a1_4 p1.Outs.length u1_4]) Try.isAgg27 Try.sizeOf27 rfl rfl rfl (haC f111.cells rfl)) ?_
        obtain ⟨x58, hx58, h⟩ := Option.bind_eq_some_iff.mp h
        have f112 := g1_2.stp (S3.tr (S7.tr (S11.tr (S20.tr (S39.tr (S48.tr (S53.tr (S57.tr (S62.tr (S76.tr (S95.tr (S105.tr S109)))))))))))) rfl rfl
        have f113 := g1_3.stp (S3.tr (S7.tr (S11.tr (S20.tr (S39.tr (S48.tr (S53.tr (S57.tr (S62.tr (S76.tr (S95.tr (S105.tr S109)))))))))))) rfl rfl
        have f114 := g1_4.stp (S3.tr (S7.tr (S11.tr (S20.tr (S39.tr (S48.tr (S53.tr (S57.tr (S62.tr (S76.tr (S95.tr (S105.tr S109)))))))))))) rfl rfl
        refine WO.call rfl rfl rfl rfl rfl rfl Try.call40 (s_l31Step_ok (κ := fun b => mp [] 0 (K104 b)) (p0 := p1) (Sl.map f112 (mp [] 0) rfl rfl) (Sl.map f113 (mp [] 0) rfl rfl) (Sl.map f114 (mp [] 0) rfl rfl) hx58) ?_
        rintro _ w115 ⟨k116, rfl, e117⟩
        obtain ⟨K118, S119, m120⟩ := Ent.mixed (l := []) (κ := K104) e117 13 rfl
        refine ⟨(S119.cl rfl), ?_⟩
        refine WO.pn 5 rfl ?_
        refine WO.nx ?_
        refine WO.fin ?_
        refine DN.seq ?_
        refine WC.seq ?_
        refine WC.seq ?_
        refine WC.rx (κ := K118) [0, 4] none [(0, 2), (1, 2), (3, 2), (4, 2), (5, 2), (8, 2), (2, 0), (6, 2), (7, 0), (9, 2), (10, 0), (11, 2)] [] (by kernel_rfl) (by kernel_rfl) fun w123 S122 => ?_
        refine WO.pn 1 rfl ?_
        refine WO.k2 rfl rfl rfl rfl (rn_fieldAddr Try.runUnderlying46 rfl Try.sizeOf44 rfl rfl) ?_
        refine WO.pn 2 rfl ?_
        obtain ⟨_z66, hz66, h⟩ := Option.bind_eq_some_iff.mp h
        refine WO.k2 rfl rfl rfl rfl (rn_rem rfl rfl rfl (nz_ok hz66)) ?_
        refine WO.pn 1 rfl ?_
        have f124 := f42.stp (S48.tr (S53.tr (S57.tr (S62.tr (S76.tr (S95.tr (S105.tr (S109.tr (S119.tr S122))))))))) rfl rfl
        refine WO.k0 rfl rfl rfl rfl (rn_ld Try.isAgg44 rfl rfl (hvC (f124.ld 1 rfl rfl) rfl)) ?_
        obtain ⟨x67, hx67, h⟩ := Option.bind_eq_some_iff.mp h
        refine WO.k2 rfl rfl rfl rfl (rn_index f15 hx67 Try.runUnderlying44 Try.sizeOf24 rfl rfl rfl rfl) ?_
        have f125 := f15.stp (S20.tr (S39.tr (S48.tr (S53.tr (S57.tr (S62.tr (S76.tr (S95.tr (S105.tr (S109.tr (S119.tr S122))))))))))) rfl rfl
        obtain ⟨ax67, ux67, f126, hl127⟩ := f125.gSl hx67
        refine WO.k0 rfl rfl rfl rfl (rn_ld Try.isAgg24 rfl rfl (hvC hl127 rfl)) ?_
        obtain ⟨x70, hx70, h⟩ := Option.bind_eq_some_iff.mp h
        refine WO.k2 rfl rfl rfl rfl (rn_index f126 hx70 Try.runUnderlying24 Try.sizeOf2 rfl rfl rfl rfl) ?_
        refine WO.k0 rfl rfl rfl rfl (rn_ld Try.isAgg2 rfl rfl (hvC (f126.gInt hx70) rfl)) ?_
        refine WO.pn 1 rfl ?_
        refine WO.nx ?_
        refine WO.fin ?_
        refine DN.seq ?_
        revert h
        cases ht128 : (x58.2 != x70) with
        | true =>
         intro h; replace h := cT h
         refine WC.ct rfl ?_
         refine WC.seq ?_
         refine WC.rs [(0, 2)] rfl ?_
         refine WO.pn 1 rfl ?_
         refine WO.fin ?_
         refine DN.seq ?_
         refine WC.ret ?_
         refine DN.retThen ?_
         refine DN.retBlock ?_
         refine DN.retThen ?_
         refine DN.retThen ?_
         obtain rfl := Option.some.inj h
         obtain rfl := Option.some.inj hk99
         have h := hK85
         dsimp only [aft] at h
         refine DN.retBlock ?_
         refine DN.retMeet ?_
         refine DN.retBlock ?_
         refine DN.retThen ?_
         obtain rfl := Option.some.inj h
         obtain rfl := Option.some.inj hk81
         have h := hK66
         dsimp only [aft] at h
         refine DN.retBlock ?_
         refine DN.retMeet ?_
         refine DN.retThen ?_
         have f129 := hE.stp (S3.tr (S7.tr (S11.tr (S20.tr (S39.tr (S48.tr (S53.tr (S57.tr (S62.tr (S76.tr (S95.tr (S105.tr (S109.tr (S119.tr S122)))))))))))))) rfl rfl
         refine DN.res (l := [.tmp 6]) Try.results23 (res_tmp rfl rfl) rfl ?_
         obtain rfl := Option.some.inj h
         exact ⟨K118, rfl, f129⟩
        | false =>
         intro h; replace h := cF h
         refine WC.cf rfl ?_
         refine WC.skip ?_
         refine DN.seq ?_
         refine WC.seq ?_
         refine WC.rx (κ := K118) [0, 4] none [(0, 2), (1, 2), (2, 2), (3, 2), (5, 2), (6, 2), (7, 2), (10, 2), (4, 0), (8, 2), (9, 0), (11, 2), (12, 0), (13, 2), (14, 2)] [] (by kernel_rfl) (by kernel_rfl) fun w131 S130 => ?_
         refine WO.pn 3 rfl ?_
         refine WO.k2 rfl rfl rfl rfl (rn_fieldAddr Try.runUnderlying46 rfl Try.sizeOf44 rfl rfl) ?_
         refine WO.pn 2 rfl ?_
         obtain ⟨_z80, hz80, h⟩ := Option.bind_eq_some_iff.mp h
         refine WO.k2 rfl rfl rfl rfl (rn_rem rfl rfl rfl (nz_ok hz80)) ?_
         refine WO.pn 1 rfl ?_
         have f132 := f124.stp S130 rfl rfl
         refine WO.k0 rfl rfl rfl rfl (rn_ld Try.isAgg44 rfl rfl (hvC (f132.ld 0 rfl rfl) rfl)) ?_
         obtain ⟨x81, hx81, h⟩ := Option.bind_eq_some_iff.mp h
         refine WO.k2 rfl rfl rfl rfl (rn_index f14 hx81 Try.runUnderlying44 Try.sizeOf24 rfl rfl rfl rfl) ?_
         have f133 := f14.stp (S20.tr (S39.tr (S48.tr (S53.tr (S57.tr (S62.tr (S76.tr (S95.tr (S105.tr (S109.tr (S119.tr (S122.tr S130)))))))))))) rfl rfl
         obtain ⟨ax81, ux81, f134, hl135⟩ := f133.gSl hx81
         refine WO.k0 rfl rfl rfl rfl (rn_ld Try.isAgg24 rfl rfl (hvC hl135 rfl)) ?_
         obtain ⟨x84, hx84, h⟩ := Option.bind_eq_some_iff.mp h
         refine WO.k2 rfl rfl rfl rfl (rn_index f134 hx84 Try.runUnderlying24 Try.sizeOf2 rfl rfl rfl rfl) ?_
         refine WO.k0 rfl rfl rfl rfl (rn_ld Try.isAgg2 rfl rfl (hvC (f134.gInt hx84) rfl)) ?_
         refine WO.pn 2 rfl ?_
         refine WO.nx ?_
         refine WO.fin ?_
         refine DN.seq ?_
         refine WC.seq ?_
         refine WC.rs [(0, 2), (1, 2), (2, 2), (3, 1), (4, 2)] rfl ?_
         refine WO.pn 2 rfl ?_
         obtain ⟨x89, hx89, h⟩ := Option.bind_eq_some_iff.mp h
         refine WO.k2 rfl rfl rfl rfl (rn_index f97.rdc hx89 Try.runUnderlying77 Try.sizeOf4 rfl rfl hn98 rfl) ?_
         have f136 := f97.stp (S105.tr (S109.tr (S119.tr (S122.tr S130)))) rfl rfl
         refine WO.k1 trivial rfl rfl rfl rfl (rn_ld Try.isAgg4 rfl rfl (hvE (f136.rdc.gBool hx89))) ?_
         refine WO.pn 1 rfl ?_
         refine WO.fin ?_
         refine DN.seq ?_
         obtain ⟨q7, h, hK137⟩ := Option.bind_eq_some_iff.mp h
         refine WC.meet (fun L w' => ∃ (κ' : Col) (laq7_0 : Option Addr) (luq7_0 : Nat), L = [(3, .pointer (some ⟨b3, 0, none⟩)), (4, .pointer (some ⟨b4, 0, none⟩)), (5, .pointer (some ⟨b5, 0, none⟩)), (7, .int .i64 (p2.Next.length : Int)), (8, .slice a33 x33.length u33), (9, .slice laq7_0 q7.1.length luq7_0), (10, .int .i64 x41), (11, .int .i64 s4.2.1)] ∧ Stp [9, 10] K118 w131 κ' w' ∧ Oc (Ep.int .i64) 2 κ' w' 10 laq7_0 luq7_0 q7.1 ∧ Oc Ep.bool 4 κ' w' 9 a33 u33 q7.2 ∧ x33.length = q7.2.length) ?_ ?_
         ·
          revert h
          cases ht144 : (!x89) with
          | true =>
           intro h; replace h := cT h
           refine WC.ct rfl ?_
           refine WC.seq ?_
           refine WC.rs [(0, 2), (1, 2), (2, 2), (3, 1)] rfl ?_
           refine WO.pn 2 rfl ?_
           obtain ⟨x94, hx94, h⟩ := Option.bind_eq_some_iff.mp h
           refine WO.k2 rfl rfl rfl rfl (rn_index f136.rdc hx94 Try.runUnderlying77 Try.sizeOf4 rfl rfl hn98 rfl) ?_
           obtain ⟨y29, hy29, h⟩ := Option.bind_eq_some_iff.mp h
           refine WO.stI (κ := K118) (E := Ep.bool) 9 [] rfl rfl rfl rfl rfl rfl rfl rfl Try.sizeOf4 rfl rfl rfl rfl f136 hy29 fun w145 K146 S147 f148 => ⟨trivial, ?_⟩
           have hn149 : x33.length = y29.length := hn98.trans (setI_ok hy29).2.2.2.symm
           refine WO.fin ?_
           refine DN.seq ?_
           refine WC.rs [(0, 2), (1, 2), (2, 1), (3, 1), (4, 2)] rfl ?_
           refine WO.pn 2 rfl ?_
           refine WO.bl (κ := K146) (E := (Ep.int .i64)) 15 [] (parts := [(0, .tmp 96)]) (cells := [.int .i64 (IntKind.i64.wrap ((IntKind.i64.wrap (x58.1 * (p2.Next.length : Int))) + x84))]) (xs := ([(IntKind.i64.wrap ((IntKind.i64.wrap (x58.1 * (p2.Next.length : Int))) + x84))] : List Int)) rfl rfl rfl rfl rfl rfl Try.underlying24 Tryinfo2 rfl rfl rfl rfl rfl rfl rfl rfl rfl rfl ⟨[.int .i64 (IntKind.i64.wrap ((IntKind.i64.wrap (x58.1 * (p2.Next.length : Int))) + x84))], [], Zl K146 w145 [], Zl K146 w145 [], rfl, Zl.sp (l1 := []) (l2 := []) rfl, Zl.sr (l1 := []) (l2 := []), rfl, rfl⟩ fun a97 u97 w150 K151 S152 f153 => ⟨trivial, ?_⟩
           obtain ⟨x98, hx98, h⟩ := Option.bind_eq_some_iff.mp h
           have f154 := f96.stp (S105.tr (S109.tr (S119.tr (S122.tr (S130.tr (S147.tr S152)))))) rfl rfl
           refine WO.app (κ := K151) (E := (Ep.int .i64)) 10 [] rfl rfl rfl rfl rfl rfl rfl rfl rfl Try.underlying24 Tryinfo2 rfl rfl rfl rfl f154 (Sl.srcP (pu_int _) f153.rdc) sy_false hx98 rfl fun a98 u98 w155 K156 S157 f158 => ⟨trivial, ?_⟩
           refine WO.pn 1 rfl ?_
           refine WO.fin ?_
           have f159 := f148.stp (S152.tr S157) rfl rfl
           obtain rfl := Option.some.inj h
           exact DN.meet _ ⟨K156, a98, u98, rfl, (S147.tr (S152.tr S157)).wk rfl, f158, f159, hn149⟩ fun a ha => (ha.more (ha.more (ha.more (ha.more (ha.more (ha.more (ha.more (ha.more ha.nil rfl) rfl) rfl) rfl) rfl) rfl) rfl) rfl)
          | false =>
           intro h; replace h := cF h
           refine WC.cf rfl ?_
           refine WC.skip ?_
           have f160 := f96.stp (S105.tr (S109.tr (S119.tr (S122.tr S130)))) rfl rfl
           obtain rfl := Option.some.inj h
           exact DN.meet _ ⟨K118, las4_0, lus4_0, rfl, (Stp.refl _ _).wk rfl, f160, f136, hn98⟩ fun a ha => (ha.more (ha.more (ha.more (ha.more (ha.more (ha.more (ha.more (ha.more ha.nil rfl) rfl) rfl) rfl) rfl) rfl) rfl) rfl)
         rintro _ w138 ⟨K139, laq7_0, luq7_0, rfl, S140, f141, f142, hn143⟩
         have h := hK137
         refine DN.block ?_
         refine DN.seq ?_
         refine WC.rs [(0, 2), (1, 2), (2, 2)] rfl ?_
         refine WO.pn 3 rfl ?_
         refine WO.fin ?_
         obtain rfl := Option.some.inj h
         refine DN.round fun a ha => ?_
         exact ⟨k, _, Nat.lt_succ_self _, ⟨K139, ((q7.1 : (List Int)), ((IntKind.i64.wrap (s4.2.1 + 1)) : Int), (q7.2 : (List Bool))), laq7_0, luq7_0, rfl, (S95.tr (S105.tr (S109.tr (S119.tr (S122.tr (S130.tr S140)))))).wk rfl, f141, f142, hn143, hk99⟩, (ha.more (ha.more (ha.more (ha.more (ha.more (ha.more (ha.more (ha.more ha.nil rfl) rfl) rfl) rfl) rfl) rfl) rfl) rfl)⟩
       | false =>
        intro h; replace h := cF h
        refine WC.cf rfl ?_
        refine WC.exit ?_
        refine DN.exitThen ?_
        refine DN.exitThen ?_
        obtain rfl := Option.some.inj h
        have h := hk99
        refine DN.hit ?_
        have f161 := f96.stp S105 rfl rfl
        have f162 := f97.stp S105 rfl rfl
        obtain rfl := Option.some.inj h
        exact DN.meet _ ⟨K104, ((s4.1 : (List Int)), (s4.2.1 : Int), (s4.2.2 : (List Bool))), las4_0, lus4_0, rfl, (S95.tr S105).wk rfl, f161, f162, hn98, rfl⟩ fun a ha => (ha.more (ha.more (ha.more (ha.more (ha.more (ha.more ha.nil rfl) rfl) rfl) rfl) rfl) rfl)
     rintro _ w87 ⟨K88, s6, las6_0, lus6_0, rfl, S89, f90, f91, hn92, rfl⟩
     have h := hK85
     dsimp only [aft] at h
     refine DN.block ?_
     obtain rfl := Option.some.inj h
     refine DN.round fun a ha => ?_
     exact ⟨k, _, Nat.lt_succ_self _, ⟨K88, ((s6.1 : (List Int)), (s6.2.2 : (List Bool))), las6_0, lus6_0, rfl, (S76.tr S89).wk rfl, f90, f91, hn92, hk81⟩, (ha.more (ha.more (ha.more (ha.more (ha.more (ha.more ha.nil rfl) rfl) rfl) rfl) rfl) rfl)⟩
    | false =>
     intro h; replace h := cF h
     refine WC.cf rfl ?_
     refine WC.exit ?_
     refine DN.exitThen ?_
     refine DN.exitThen ?_
     obtain rfl := Option.some.inj h
     have h := hk81
     refine DN.hit ?_
     obtain rfl := Option.some.inj h
     exact DN.meet _ ⟨K75, ((s1.1 : (List Int)), (s1.2 : (List Bool))), las1_0, lus1_0, rfl, S76.wk rfl, f77, f78, hn79, rfl⟩ fun a ha => ha.nil
  rintro _ w68 ⟨K69, s3, las3_0, lus3_0, rfl, S70, f71, f72, hn73, rfl⟩
  have h := hK66
  dsimp only [aft] at h
  refine DN.seq ?_
  refine WC.seq ?_
  refine WC.rs [(0, 2)] rfl ?_
  refine WO.pn 1 rfl ?_
  refine WO.fin ?_
  refine DN.seq ?_
  refine WC.ret ?_
  have f163 := hE.stp (S3.tr (S7.tr (S11.tr (S20.tr (S39.tr (S48.tr (S53.tr (S57.tr (S62.tr S70))))))))) rfl rfl
  refine DN.res (l := [.tmp 6]) Try.results23 (res_tmp rfl rfl) rfl ?_
  obtain rfl := Option.some.inj h
  exact ⟨K69, rfl, f163⟩

/- loop.example/g00869/impl.isCircuit -/
theorem i_isCircuit_ok {w : World} {κ : Col} {a0_2 : Option Addr} {u0_2 : Nat} {a0_3 : Option Addr} {u0_3 : Nat} {a0_4 : Option Addr} {u0_4 : Nat} {p0 : Circuit} (g0_2 : Rd (Rp.int .i64) κ w 0 a0_2 u0_2 p0.Next) (g0_3 : Rd Gate.rp κ w 0 a0_3 u0_3 p0.Gates) (g0_4 : Rd (Rp.int .i64) κ w 0 a0_4 u0_4 p0.Outs) {r : Bool} (h : i_isCircuit p0 = some r) : Ret Try.prog 31 [.agg #[.int .i64 p0.Inputs, .int .i64 p0.Latches, .slice a0_2 p0.Next.length u0_2, .slice a0_3 p0.Gates.length u0_3, .slice a0_4 p0.Outs.length u0_4]] w (fun v w' => ∃ (κ' : Col), v = .bool r ∧ Ent κ w κ' w') := by
 unfold i_isCircuit at h
 refine Ret.enter Try.func31 rfl Try.ntmps31 rfl ?_
 dsimp only [envOf]
 have hE := Ent.refl κ w
 refine WC.seq ?_
 refine WC.rs [(0, 1), (1, 2)] rfl ?_
 refine WO.box (κ := κ) 2 rfl rfl rfl rfl rfl rfl rfl fun b1 w1 K2 S3 f4 => ⟨trivial, ?_⟩
 refine WO.pn 1 rfl ?_
 refine WO.fin ?_
 refine DN.seq ?_
 refine WC.seq ?_
 refine WC.seq ?_
 refine WC.rs [(0, 2), (1, 1), (2, 2), (3, 2), (4, 2), (5, 1), (6, 2), (7, 2), (8, 2), (9, 2), (10, 1), (11, 2), (12, 2), (13, 2), (14, 2), (15, 1), (16, 2), (17, 2), (18, 2), (19, 2), (20, 1), (21, 2), (22, 2), (23, 1), (24, 2), (25, 2), (26, 2), (27, 2), (28, 1), (29, 2), (30, 2), (31, 2), (32, 2), (33, 2), (34, 1), (35, 2), (36, 2), (37, 2)] rfl ?_
 refine WO.k2 rfl rfl rfl rfl (rn_fieldAddr Try.runUnderlying27 rfl Try.sizeOf2 rfl rfl) ?_
 refine WO.k1 trivial rfl rfl rfl rfl (rn_ld Try.isAgg2 rfl rfl (hvE (f4.ld 0 rfl rfl))) ?_
 refine WO.pn 2 rfl ?_
 obtain ⟨p13, h, hK5⟩ := Option.bind_eq_some_iff.mp h
 refine WO.meet [(4, 2), (5, 1), (6, 2), (7, 2)] [(8, 2), (9, 2), (10, 1), (11, 2), (12, 2), (13, 2), (14, 2), (15, 1), (16, 2), (17, 2), (18, 2), (19, 2), (20, 1), (21, 2), (22, 2), (23, 1), (24, 2), (25, 2), (26, 2), (27, 2), (28, 1), (29, 2), (30, 2), (31, 2), (32, 2), (33, 2), (34, 1), (35, 2), (36, 2), (37, 2)] (fun L w' => L = [(1, .pointer (some ⟨b1, 0, none⟩)), (13, .bool p13)] ∧ ∃ κ', Stp [] K2 w1 κ' w') trivial ?_ ?_
 ·
  revert h
  cases ht6 : decide (p0.Inputs < 0) with
  | true =>
   intro h; replace h := cT h
   refine WO.pn 1 rfl ?_
   refine WO.ls rfl rfl rfl rfl ?_
   refine WO.pn 2 rfl ?_
   obtain rfl := Option.some.inj h
   exact WO.met _ trivial ⟨rfl, _, (Stp.refl _ _).wk rfl⟩ fun a ha => (ha.more (ha.more ha.nil rfl) rfl)
  | false =>
   intro h; replace h := cF h
   refine WO.k2 rfl rfl rfl rfl (rn_fieldAddr Try.runUnderlying27 rfl Try.sizeOf2 rfl rfl) ?_
   refine WO.k1 trivial rfl rfl rfl rfl (rn_ld Try.isAgg2 rfl rfl (hvE (f4.ld 0 rfl rfl))) ?_
   refine WO.pn 2 rfl ?_
   obtain rfl := Option.some.inj h
   exact WO.met _ trivial ⟨rfl, _, (Stp.refl _ _).wk rfl⟩ fun a ha => (ha.more (ha.more ha.nil rfl) rfl)
 rintro _ w7 _ ⟨rfl, K8, S9⟩
 have h := hK5
 refine WO.pn 1 rfl ?_
 obtain ⟨p18, h, hK10⟩ := Option.bind_eq_some_iff.mp h
 refine WO.meet [(9, 2), (10, 1), (11, 2), (12, 2)] [(13, 2), (14, 2), (15, 1), (16, 2), (17, 2), (18, 2), (19, 2), (20, 1), (21, 2), (22, 2), (23, 1), (24, 2), (25, 2), (26, 2), (27, 2), (28, 1), (29, 2), (30, 2), (31, 2), (32, 2), (33, 2), (34, 1), (35, 2), (36, 2), (37, 2)] (fun L w' => L = [(1, .pointer (some ⟨b1, 0, none⟩)), (18, .bool p18)] ∧ ∃ κ', Stp [] K8 w7 κ' w') trivial ?_ ?_
 ·
  revert h
  cases ht11 : p13 with
  | true =>
   intro h; replace h := cT h
   refine WO.pn 1 rfl ?_
   refine WO.ls rfl rfl rfl rfl ?_
   refine WO.pn 2 rfl ?_
   obtain rfl := Option.some.inj h
   exact WO.met _ trivial ⟨rfl, _, (Stp.refl _ _).wk rfl⟩ fun a ha => (ha.more (ha.more ha.nil rfl) rfl)
  | false =>
   intro h; replace h := cF h
   refine WO.k2 rfl rfl rfl rfl (rn_fieldAddr Try.runUnderlying27 rfl Try.sizeOf2 rfl rfl) ?_
   have f12 := f4.stp S9 rfl rfl
   refine WO.k1 trivial rfl rfl rfl rfl (rn_ld Try.isAgg2 rfl rfl (hvE (f12.ld 1 rfl rfl))) ?_
   refine WO.pn 2 rfl ?_
   obtain rfl := Option.some.inj h
   exact WO.met _ trivial ⟨rfl, _, (Stp.refl _ _).wk rfl⟩ fun a ha => (ha.more (ha.more ha.nil rfl) rfl)
 rintro _ w13 _ ⟨rfl, K14, S15⟩
 have h := hK10
 refine WO.pn 1 rfl ?_
 obtain ⟨p23, h, hK16⟩ := Option.bind_eq_some_iff.mp h
 refine WO.meet [(14, 2), (15, 1), (16, 2), (17, 2)] [(18, 2), (19, 2), (20, 1), (21, 2), (22, 2), (23, 1), (24, 2), (25, 2), (26, 2), (27, 2), (28, 1), (29, 2), (30, 2), (31, 2), (32, 2), (33, 2), (34, 1), (35, 2), (36, 2), (37, 2)] (fun L w' => L = [(1, .pointer (some ⟨b1, 0, none⟩)), (23, .bool p23)] ∧ ∃ κ', Stp [] K14 w13 κ' w') trivial ?_ ?_
 ·
  revert h
  cases ht17 : p18 with
  | true =>
   intro h; replace h := cT h
   refine WO.pn 1 rfl ?_
   refine WO.ls rfl rfl rfl rfl ?_
   refine WO.pn 2 rfl ?_
   obtain rfl := Option.some.inj h
   exact WO.met _ trivial ⟨rfl, _, (Stp.refl _ _).wk rfl⟩ fun a ha => (ha.more (ha.more ha.nil rfl) rfl)
  | false =>
   intro h; replace h := cF h
   refine WO.k2 rfl rfl rfl rfl (rn_fieldAddr Try.runUnderlying27 rfl Try.sizeOf2 rfl rfl) ?_
   have f18 := f4.stp (S9.tr S15) rfl rfl
   refine WO.k1 trivial rfl rfl rfl rfl (rn_ld Try.isAgg2 rfl rfl (hvE (f18.ld 1 rfl rfl))) ?_
   refine WO.pn 2 rfl ?_
   obtain rfl := Option.some.inj h
   exact WO.met _ trivial ⟨rfl, _, (Stp.refl _ _).wk rfl⟩ fun a ha => (ha.more (ha.more ha.nil rfl) rfl)
 rintro _ w19 _ ⟨rfl, K20, S21⟩
 have h := hK16
 refine WO.pn 1 rfl ?_
 obtain ⟨p31, h, hK22⟩ := Option.bind_eq_some_iff.mp h
 refine WO.meet [(19, 2), (20, 1), (21, 2), (22, 2), (23, 1), (24, 2), (25, 2)] [(26, 2), (27, 2), (28, 1), (29, 2), (30, 2), (31, 2), (32, 2), (33, 2), (34, 1), (35, 2), (36, 2), (37, 2)] (fun L w' => L = [(1, .pointer (some ⟨b1, 0, none⟩)), (31, .bool p31)] ∧ ∃ κ', Stp [] K20 w19 κ' w') trivial ?_ ?_
 ·
  revert h
  cases ht23 : p23 with
  | true =>
   intro h; replace h := cT h
   refine WO.pn 1 rfl ?_
   refine WO.ls rfl rfl rfl rfl ?_
   refine WO.pn 2 rfl ?_
   refine WO.ls rfl rfl rfl rfl ?_
   refine WO.pn 2 rfl ?_
   obtain rfl := Option.some.inj h
   exact WO.met _ trivial ⟨rfl, _, (Stp.refl _ _).wk rfl⟩ fun a ha => (ha.more (ha.more ha.nil rfl) rfl)
  | false =>
   intro h; replace h := cF h
   refine WO.k2 rfl rfl rfl rfl (rn_fieldAddr Try.runUnderlying27 rfl Try.sizeOf24 rfl rfl) ?_
   have f24 := f4.stp (S9.tr (S15.tr S21)) rfl rfl
   refine WO.k1 trivial rfl rfl rfl rfl (rn_ld Try.isAgg24 rfl rfl (hvE (f24.ld 2 rfl rfl))) ?_
   refine WO.k2 rfl rfl rfl rfl (rn_len Try.runUnderlying24 rfl rfl) ?_
   refine WO.k2 rfl rfl rfl rfl (rn_fieldAddr Try.runUnderlying27 rfl Try.sizeOf2 rfl rfl) ?_
   refine WO.k1 trivial rfl rfl rfl rfl (rn_ld Try.isAgg2 rfl rfl (hvE (f24.ld 1 rfl rfl))) ?_
   refine WO.pn 2 rfl ?_
   obtain rfl := Option.some.inj h
   exact WO.met _ trivial ⟨rfl, _, (Stp.refl _ _).wk rfl⟩ fun a ha => (ha.more (ha.more ha.nil rfl) rfl)
 rintro _ w25 _ ⟨rfl, K26, S27⟩
 have h := hK22
 refine WO.pn 1 rfl ?_
 obtain ⟨p37, h, hK28⟩ := Option.bind_eq_some_iff.mp h
 refine WO.meet [(27, 2), (28, 1), (29, 2), (30, 2), (31, 2)] [(32, 2), (33, 2), (34, 1), (35, 2), (36, 2), (37, 2)] (fun L w' => L = [(1, .pointer (some ⟨b1, 0, none⟩)), (37, .bool p37)] ∧ ∃ κ', Stp [] K26 w25 κ' w') trivial ?_ ?_
 ·
  revert h
  cases ht29 : p31 with
  | true =>
   intro h; replace h := cT h
   refine WO.pn 1 rfl ?_
   refine WO.ls rfl rfl rfl rfl ?_
   refine WO.pn 3 rfl ?_
   obtain rfl := Option.some.inj h
   exact WO.met _ trivial ⟨rfl, _, (Stp.refl _ _).wk rfl⟩ fun a ha => (ha.more (ha.more ha.nil rfl) rfl)
  | false =>
   intro h; replace h := cF h
   refine WO.k2 rfl rfl rfl rfl (rn_fieldAddr Try.runUnderlying27 rfl Try.sizeOf25 rfl rfl) ?_
   have f30 := f4.stp (S9.tr (S15.tr (S21.tr S27))) rfl rfl
   refine WO.k1 trivial rfl rfl rfl rfl (rn_ld Try.isAgg25 rfl rfl (hvE (f30.ld 3 rfl rfl))) ?_
   refine WO.k2 rfl rfl rfl rfl (rn_len Try.runUnderlying25 rfl rfl) ?_
   refine WO.pn 2 rfl ?_
   obtain rfl := Option.some.inj h
   exact WO.met _ trivial ⟨rfl, _, (Stp.refl _ _).wk rfl⟩ fun a ha => (ha.more (ha.more ha.nil rfl) rfl)
 rintro _ w31 _ ⟨rfl, K32, S33⟩
 have h := hK28
 refine WO.pn 1 rfl ?_
 obtain ⟨p43, h, hK34⟩ := Option.bind_eq_some_iff.mp h
 refine WO.meet [(33, 2), (34, 1), (35, 2), (36, 2), (37, 2)] [] (fun L w' => L = [(1, .pointer (some ⟨b1, 0, none⟩)), (43, .bool p43)] ∧ ∃ κ', Stp [] K32 w31 κ' w') trivial ?_ ?_
 ·
  revert h
  cases ht35 : p37 with
  | true =>
   intro h; replace h := cT h
   refine WO.pn 1 rfl ?_
   refine WO.ls rfl rfl rfl rfl ?_
   refine WO.pn 3 rfl ?_
   obtain rfl := Option.some.inj h
   exact WO.met _ trivial ⟨rfl, _, (Stp.refl _ _).wk rfl⟩ fun a ha => (ha.more (ha.more ha.nil rfl) rfl)
  | false =>
   intro h; replace h := cF h
   refine WO.k2 rfl rfl rfl rfl (rn_fieldAddr Try.runUnderlying27 rfl Try.sizeOf24 rfl rfl) ?_
   have f36 := f4.stp (S9.tr (S15.tr (S21.tr (S27.tr S33)))) rfl rfl
   refine WO.k1 trivial rfl rfl rfl rfl (rn_ld Try.isAgg24 rfl rfl (hvE (f36.ld 4 rfl rfl))) ?_
   refine WO.k2 rfl rfl rfl rfl (rn_len Try.runUnderlying24 rfl rfl) ?_
   refine WO.pn 2 rfl ?_
   obtain rfl := Option.some.inj h
   exact WO.met _ trivial ⟨rfl, _, (Stp.refl _ _).wk rfl⟩ fun a ha => (ha.more (ha.more ha.nil rfl) rfl)
 rintro _ w37 _ ⟨rfl, K38, S39⟩
 have h := hK34
 refine WO.fin ?_
 refine DN.seq ?_
 revert h
 cases ht40 : p43 with
 | true =>
  intro h; replace h := cT h
  refine WC.ct rfl ?_
  refine WC.seq ?_
  refine WC.rs [(0, 2)] rfl ?_
  refine WO.pn 1 rfl ?_
  refine WO.fin ?_
  refine DN.seq ?_
  refine WC.ret ?_
  refine DN.retThen ?_
  have f41 := hE.stp (S3.tr (S9.tr (S15.tr (S21.tr (S27.tr (S33.tr S39)))))) rfl rfl
  refine DN.res (l := [.tmp 2]) Try.results31 (res_tmp rfl rfl) rfl ?_
  obtain rfl := Option.some.inj h
  exact ⟨K38, rfl, f41⟩
 | false =>
  intro h; replace h := cF h
  refine WC.cf rfl ?_
  refine WC.skip ?_
  refine DN.seq ?_
  refine WC.seq ?_
  refine WC.rs [(0, 2), (1, 1), (2, 2), (3, 2), (4, 1), (5, 2), (6, 2)] rfl ?_
  refine WO.k2 rfl rfl rfl rfl (rn_fieldAddr Try.runUnderlying27 rfl Try.sizeOf2 rfl rfl) ?_
  have f42 := f4.stp (S9.tr (S15.tr (S21.tr (S27.tr (S33.tr S39))))) rfl rfl
  refine WO.k1 trivial rfl rfl rfl rfl (rn_ld Try.isAgg2 rfl rfl (hvE (f42.ld 0 rfl rfl))) ?_
  refine WO.pn 1 rfl ?_
  refine WO.k2 rfl rfl rfl rfl (rn_fieldAddr Try.runUnderlying27 rfl Try.sizeOf2 rfl rfl) ?_
  refine WO.k1 trivial rfl rfl rfl rfl (rn_ld Try.isAgg2 rfl rfl (hvE (f42.ld 1 rfl rfl))) ?_
  refine WO.pn 2 rfl ?_
  refine WO.fin ?_
  refine DN.seq ?_
  refine WC.seq ?_
  refine WC.seq ?_
  refine WC.rs [(0, 2), (1, 1), (2, 2), (3, 2)] rfl ?_
  refine WO.k2 rfl rfl rfl rfl (rn_fieldAddr Try.runUnderlying27 rfl Try.sizeOf25 rfl rfl) ?_
  refine WO.k1 trivial rfl rfl rfl rfl (rn_ld Try.isAgg25 rfl rfl (hvE (f42.ld 3 rfl rfl))) ?_
  refine WO.k2 rfl rfl rfl rfl (rn_len Try.runUnderlying25 rfl rfl) ?_
  refine WO.pn 1 rfl ?_
  refine WO.fin ?_
  refine DN.seq ?_
  have hN43 : (p0.Gates.length : Int) ≤ 9223372036854775807 := g0_3.len_le
  obtain ⟨q2, hq45, hK44⟩ := Option.bind_eq_some_iff.mp h
  clear h
  refine WC.meet (fun L w' => ∃ (κ' : Col), L = [(1, .pointer (some ⟨b1, 0, none⟩))] ∧ Stp [3] K38 w37 κ' w' ∧ q2 = Sum.inr ()) ?_ ?_
  ·
   refine WC.block ?_
   refine WC.loop (fun k L w' => ∃ (κ' : Col) (v53 : Int), L = [(1, .pointer (some ⟨b1, 0, none⟩)), (3, .int .i64 (IntKind.i64.wrap ((IntKind.i64.wrap (1 + p0.Inputs)) + p0.Latches))), (51, .slice a0_3 p0.Gates.length u0_3), (52, .int .i64 (p0.Gates.length : Int)), (53, .int .i64 v53)] ∧ Stp [3] K38 w37 κ' w' ∧ 0 ≤ v53 ∧ Int.toNat ((p0.Gates.length : Int) - v53) = k ∧ cntM (i_isCircuit_b0 p0) k v53 () = some q2) ⟨_, _, ⟨K38, 0, rfl, (Stp.refl _ _).wk rfl, (by decide), (by simp), hq45⟩, fun a ha => (ha.more (ha.more (ha.more (ha.more (ha.more ha.nil rfl) rfl) rfl) rfl) rfl)⟩ ?_
   rintro k _ w49 ⟨K50, v53, rfl, S51, hj43, hJ43, h⟩
   rcases k with _ | k
   ·
    have hk52 := h; obtain ⟨o43, h⟩ := ex_eq (Sum.inr (Sum.inl ()) : Bool ⊕ ((Unit) ⊕ (Unit)))
    have hc43 : decide (v53 < (p0.Gates.length : Int)) = false := decide_eq_false (by omega)
    refine WC.seq ?_
    refine WC.rs [(0, 2)] rfl ?_
    refine WO.pn 1 rfl ?_
    refine WO.fin ?_
    refine DN.seq ?_
    refine WC.seq ?_
    refine WC.cf' rfl hc43 ?_
    refine WC.exit ?_
    refine DN.exitThen ?_
    refine DN.exitThen ?_
    obtain rfl := Option.some.inj h
    have h := hk52
    refine DN.hit ?_
    obtain rfl := Option.some.inj h
    exact DN.meet _ ⟨K50, rfl, S51.wk rfl, rfl⟩ fun a ha => (ha.more ha.nil rfl)
   ·
    obtain ⟨o43, h, hk52⟩ := Option.bind_eq_some_iff.mp h; unfold i_isCircuit_b0 at h
    have hc43 : decide (v53 < (p0.Gates.length : Int)) = true := decide_eq_true (by omega)
    refine WC.seq ?_
    refine WC.rs [(0, 2)] rfl ?_
    refine WO.pn 1 rfl ?_
    refine WO.fin ?_
    refine DN.seq ?_
    refine WC.seq ?_
    refine WC.ct' rfl hc43 ?_
    refine WC.skip ?_
    refine DN.seq ?_
    refine WC.seq ?_
    refine WC.block ?_
    refine WC.seq ?_
    refine WC.rs [(0, 2), (1, 2), (2, 1), (3, 1), (4, 2), (5, 1)] rfl ?_
    refine WO.pn 1 rfl ?_
    obtain ⟨x56, hx56, h⟩ := Option.bind_eq_some_iff.mp h
    refine WO.k2 rfl rfl rfl rfl (rn_index g0_3 hx56 Try.runUnderlying25 Try.sizeOf33 rfl rfl rfl rfl) ?_
    have f53 := g0_3.stp (S3.tr (S9.tr (S15.tr (S21.tr (S27.tr (S33.tr (S39.tr S51))))))) rfl rfl
    obtain ⟨cse54, hre54, hle54⟩ := (f53).gSt hx56
    obtain rfl := Gate.un hre54
    refine WO.k1 trivial rfl rfl rfl rfl (rn_la (cs := [.int .i64 x56.A, .int .i64 x56.B]) Try.isAgg33 Try.sizeOf33 rfl rfl rfl (haE hle54)) ?_
    refine WO.alloc (κ := K50) 3 rfl rfl rfl rfl rfl Try.zeroValue33 rfl fun b5 w55 K56 S57 f58 => ⟨trivial, ?_⟩
    refine WO.pn 1 rfl ?_
    refine WO.stB0 (κ := K56) 3 (vc := [.int .i64 x56.A, .int .i64 x56.B]) rfl rfl rfl rfl rfl rfl rfl Try.sizeOf33 rfl rfl f58 rfl fun w59 S60 f61 => ⟨trivial, ?_⟩
    refine WO.fin ?_
    refine DN.seq ?_
    refine WC.seq ?_
    refine WC.rs [(0, 2), (1, 1), (2, 2), (3, 1), (4, 1), (5, 2), (6, 2), (7, 2), (8, 2), (9, 1), (10, 2)] rfl ?_
    refine WO.k2 rfl rfl rfl rfl (rn_fieldAddr Try.runUnderlying33 rfl Try.sizeOf2 rfl rfl) ?_
    refine WO.k1 trivial rfl rfl rfl rfl (rn_ld Try.isAgg2 rfl rfl (hvE (f61.ld 0 rfl rfl))) ?_
    refine WO.k2 rfl rfl rfl rfl (rn_fieldAddr Try.runUnderlying33 rfl Try.sizeOf2 rfl rfl) ?_
    refine WO.k1 trivial rfl rfl rfl rfl (rn_ld Try.isAgg2 rfl rfl (hvE (f61.ld 1 rfl rfl))) ?_
    refine WO.bl (κ := K56) (E := (Ep.int .i64)) 4 [] (parts := [(0, .tmp 59), (1, .tmp 61)]) (cells := [.int .i64 x56.A, .int .i64 x56.B]) (xs := ([x56.A, x56.B] : List Int)) rfl rfl rfl rfl rfl rfl Try.underlying24 Tryinfo2 rfl rfl rfl rfl rfl rfl rfl rfl rfl rfl ⟨[.int .i64 x56.A], [.int .i64 x56.B], Zl K56 w59 [], Zl K56 w59 [], rfl, Zl.sp (l1 := []) (l2 := []) rfl, Zl.sr (l1 := []) (l2 := []), rfl, ⟨[.int .i64 x56.B], [], Zl K56 w59 [], Zl K56 w59 [], rfl, Zl.sp (l1 := []) (l2 := []) rfl, Zl.sr (l1 := []) (l2 := []), rfl, rfl⟩⟩ fun a62 u62 w62 K63 S64 f65 => ⟨trivial, ?_⟩
    refine WO.pn 4 rfl ?_
    obtain ⟨x67, hx67, h⟩ := Option.bind_eq_some_iff.mp h
    refine WO.call rfl rfl rfl rfl rfl rfl Try.call62 (i_areLetters_ok (κ := fun b => mp [] 0 (K63 b)) (Sl.map f65.rdc (mp [] 0) rfl rfl) hx67) ?_
    rintro _ w66 ⟨k67, rfl, e68⟩
    obtain ⟨K69, S70, m71⟩ := Ent.mixed (l := []) (κ := K63) e68 5 rfl
    refine ⟨trivial, ?_⟩
    refine WO.pn 1 rfl ?_
    refine WO.fin ?_
    refine DN.seq ?_
    revert h
    cases ht73 : (!x67) with
    | true =>
     intro h; replace h := cT h
     refine WC.ct rfl ?_
     refine WC.seq ?_
     refine WC.rs [(0, 2)] rfl ?_
     refine WO.pn 1 rfl ?_
     refine WO.fin ?_
     refine DN.seq ?_
     refine WC.ret ?_
     refine DN.retBlock ?_
     refine DN.retThen ?_
     refine DN.retThen ?_
     obtain rfl := Option.some.inj h
     obtain rfl := Option.some.inj hk52
     have h := hK44
     dsimp only [aft] at h
     refine DN.retBlock ?_
     refine DN.retMeet ?_
     refine DN.retThen ?_
     have f74 := hE.stp (S3.tr (S9.tr (S15.tr (S21.tr (S27.tr (S33.tr (S39.tr (S51.tr (S57.tr (S60.tr (S64.tr S70))))))))))) rfl rfl
     refine DN.res (l := [.tmp 2]) Try.results31 (res_tmp rfl rfl) rfl ?_
     obtain rfl := Option.some.inj h
     exact ⟨K69, rfl, f74⟩
    | false =>
     intro h; replace h := cF h
     refine WC.cf rfl ?_
     refine WC.skip ?_
     refine DN.block ?_
     refine DN.seq ?_
     refine WC.rs [(0, 2), (1, 2)] rfl ?_
     refine WO.pn 2 rfl ?_
     refine WO.fin ?_
     have hw43 : IntKind.wrap .i64 (v53 + 1) = v53 + 1 := wr1 hj43 (of_decide_eq_true hc43) hN43
     rw [hw43]
     have hc43 := of_decide_eq_true hc43
     obtain rfl := Option.some.inj h
     refine DN.round fun a ha => ?_
     exact ⟨k, _, Nat.lt_succ_self _, ⟨K69, v53 + 1, rfl, (S51.tr (S57.tr (S60.tr (S64.tr S70)))).wk rfl, by omega, by omega, hk52⟩, (ha.more (ha.more (ha.more (ha.more (ha.more ha.nil rfl) rfl) rfl) rfl) rfl)⟩
  rintro _ w46 ⟨K47, rfl, S48, rfl⟩
  have h := hK44
  dsimp only [aft] at h
  refine DN.seq ?_
  refine WC.seq ?_
  refine WC.rx (κ := K47) [2] none [(0, 2), (1, 0), (2, 0), (3, 1), (4, 2), (5, 1), (6, 2), (7, 2), (8, 0), (9, 0), (10, 1), (11, 2), (12, 1), (13, 2), (14, 2)] [] (by kernel_rfl) (by kernel_rfl) fun w76 S75 => ?_
  refine WO.k2 rfl rfl rfl rfl (rn_fieldAddr Try.runUnderlying27 rfl Try.sizeOf24 rfl rfl) ?_
  have f77 := f42.stp (S48.tr S75) rfl rfl
  refine WO.k0 rfl rfl rfl rfl (rn_ld Try.isAgg24 rfl rfl (hvC (f77.ld 2 rfl rfl) rfl)) ?_
  refine WO.k0 rfl rfl rfl rfl (rn_la (cs := [.int .i64 p0.Inputs, .int .i64 p0.Latches, .slice a0_2 p0.Next.length u0_2, .slice a0_3 p0.Gates.length u0_3, .slice a0_4 p0.Outs.length u0_4]) Try.isAgg27 Try.sizeOf27 rfl rfl rfl (haC f77.cells rfl)) ?_
  obtain ⟨x73, hx73, h⟩ := Option.bind_eq_some_iff.mp h
  have f78 := g0_2.stp (S3.tr (S9.tr (S15.tr (S21.tr (S27.tr (S33.tr (S39.tr (S48.tr S75)))))))) rfl rfl
  have f79 := g0_3.stp (S3.tr (S9.tr (S15.tr (S21.tr (S27.tr (S33.tr (S39.tr (S48.tr S75)))))))) rfl rfl
  have f80 := g0_4.stp (S3.tr (S9.tr (S15.tr (S21.tr (S27.tr (S33.tr (S39.tr (S48.tr S75)))))))) rfl rfl
  refine WO.call rfl rfl rfl rfl rfl rfl Try.call36 (i_signalsOf_ok (κ := fun b => mp [] 0 (K47 b)) (p0 := p0) (Sl.map f78 (mp [] 0) rfl rfl) (Sl.map f79 (mp [] 0) rfl rfl) (Sl.map f80 (mp [] 0) rfl rfl) hx73) ?_
  rintro _ w81 ⟨k82, rfl, e83⟩
  obtain ⟨K84, S85, m86⟩ := Ent.mixed (l := []) (κ := K47) e83 3 rfl
  refine ⟨(S85.cl rfl), ?_⟩
  refine WO.pn 1 rfl ?_
  obtain ⟨x75, hx75, h⟩ := Option.bind_eq_some_iff.mp h
  have f88 := f78.stp S85 rfl rfl
  refine WO.call rfl rfl rfl rfl rfl rfl Try.call62 (i_areLetters_ok (κ := fun b => mp [] 0 (K84 b)) (Sl.map f88 (mp [] 0) rfl rfl) hx75) ?_
  rintro _ w89 ⟨k90, rfl, e91⟩
  obtain ⟨K92, S93, m94⟩ := Ent.mixed (l := []) (κ := K84) e91 5 rfl
  refine ⟨((S85.tr S93).cl rfl), ?_⟩
  refine WO.pn 1 rfl ?_
  obtain ⟨p83, h, hK96⟩ := Option.bind_eq_some_iff.mp h
  refine WO.meet [(7, 2), (8, 0), (9, 0), (10, 1), (11, 2), (12, 1), (13, 2)] [(14, 2)] (fun L w' => L = [(83, .bool p83)] ∧ ∃ κ', Stp [] K92 w89 κ' w') ((S85.tr S93).cl rfl) ?_ ?_
  ·
   revert h
   cases ht97 : x75 with
   | true =>
    intro h; replace h := cT h
    refine WO.k2 rfl rfl rfl rfl (rn_fieldAddr Try.runUnderlying27 rfl Try.sizeOf24 rfl rfl) ?_
    refine WO.k0 rfl rfl rfl rfl (rn_ld Try.isAgg24 rfl rfl (hvC (f77.ld 4 rfl rfl) rfl)) ?_
    refine WO.k0 rfl rfl rfl rfl (rn_la (cs := [.int .i64 p0.Inputs, .int .i64 p0.Latches, .slice a0_2 p0.Next.length u0_2, .slice a0_3 p0.Gates.length u0_3, .slice a0_4 p0.Outs.length u0_4]) Try.isAgg27 Try.sizeOf27 rfl rfl rfl (haC f77.cells rfl)) ?_
    obtain ⟨x80, hx80, h⟩ := Option.bind_eq_some_iff.mp h
    have f98 := f88.stp S93 rfl rfl
    have f99 := f79.stp (S85.tr S93) rfl rfl
    have f100 := f80.stp (S85.tr S93) rfl rfl
    refine WO.call rfl rfl rfl rfl rfl rfl Try.call36 (i_signalsOf_ok (κ := fun b => mp [] 0 (K92 b)) (p0 := p0) (Sl.map f98 (mp [] 0) rfl rfl) (Sl.map f99 (mp [] 0) rfl rfl) (Sl.map f100 (mp [] 0) rfl rfl) hx80) ?_
    rintro _ w101 ⟨k102, rfl, e103⟩
    obtain ⟨K104, S105, m106⟩ := Ent.mixed (l := []) (κ := K92) e103 7 rfl
    refine ⟨((S85.tr (S93.tr S105)).cl rfl), ?_⟩
    refine WO.pn 1 rfl ?_
    obtain ⟨x82, hx82, h⟩ := Option.bind_eq_some_iff.mp h
    have f108 := f100.stp S105 rfl rfl
    refine WO.call rfl rfl rfl rfl rfl rfl Try.call62 (i_areLetters_ok (κ := fun b => mp [] 0 (K104 b)) (Sl.map f108 (mp [] 0) rfl rfl) hx82) ?_
    rintro _ w109 ⟨k110, rfl, e111⟩
    obtain ⟨K112, S113, m114⟩ := Ent.mixed (l := []) (κ := K104) e111 9 rfl
    refine ⟨((S85.tr (S93.tr (S105.tr S113))).cl rfl), ?_⟩
    refine WO.pn 1 rfl ?_
    obtain rfl := Option.some.inj h
    exact WO.met _ ((S85.tr (S93.tr (S105.tr S113))).cl rfl) ⟨rfl, _, (S105.tr S113).wk rfl⟩ fun a ha => (ha.more ha.nil rfl)
   | false =>
    intro h; replace h := cF h
    refine WO.pn 1 rfl ?_
    refine WO.qs rfl rfl rfl rfl ?_
    refine WO.qs rfl rfl rfl rfl ?_
    refine WO.ls rfl rfl rfl rfl ?_
    refine WO.pn 1 rfl ?_
    refine WO.ls rfl rfl rfl rfl ?_
    refine WO.pn 1 rfl ?_
    obtain rfl := Option.some.inj h
    exact WO.met _ ((S85.tr S93).cl rfl) ⟨rfl, _, (Stp.refl _ _).wk rfl⟩ fun a ha => (ha.more ha.nil rfl)
  rintro _ w116 _ ⟨rfl, K117, S118⟩
  have h := hK96
  refine WO.pn 1 rfl ?_
  refine WO.nx ?_
  refine WO.fin ?_
  refine DN.seq ?_
  refine WC.ret ?_
  have f119 := hE.stp (S3.tr (S9.tr (S15.tr (S21.tr (S27.tr (S33.tr (S39.tr (S48.tr (S75.tr (S85.tr (S93.tr S118))))))))))) rfl rfl
  refine DN.res (l := [.tmp 2]) Try.results31 (res_tmp rfl rfl) rfl ?_
  obtain rfl := Option.some.inj h
  exact ⟨K117, rfl, f119⟩

end Go.Proofs.Ythjkonkcdfdfaaa
