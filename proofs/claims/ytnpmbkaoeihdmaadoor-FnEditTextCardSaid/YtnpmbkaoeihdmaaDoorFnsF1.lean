/- The walks, part 1. By program. -/
import Derived.Test.YtnpmbkaoeihdmaaDoorText
import Derived.Test.YtnpmbkaoeihdmaaDoorShelf
import Derived.Test.YtnpmbkaoeihdmaaDoorEqs
import Derived.Test.YtnpmbkaoeihdmaaDoorFnsF0
set_option linter.unusedVariables false
set_option linter.unusedSimpArgs false
namespace Go.Proofs.YtnpmbkaoeihdmaaDoor
open Go Go.Wk Go.Proofs
set_option maxRecDepth 100000
set_option maxHeartbeats 1000000

/- loop.example/g00869/spec.l1Once -/
theorem s_l1Once_ok {w : World} {κ : Col} {a0_0 : Option Addr} {u0_0 : Nat} {p0 : l1Cur} {p1 : Int} {b0 : Nat} (g0_0 : Rd (Rp.int .u8) κ w 0 a0_0 u0_0 p0.b) (gb0 : Bc κ w 2 b0 96 [.slice a0_0 p0.b.length u0_0, .int .i64 p0.i, .int .i64 p0.h]) {r : Bool × Int × Int} (h : s_l1Once p0 p1 = some r) : Ret Tryd.prog 34 [.pointer (some ⟨b0, 0, none⟩), .int .i64 p1] w (fun v w' => ∃ (κ' : Col), v = .bool r.1 ∧ Ent κ w κ' w' ∧ Bc κ' w' 2 b0 96 [.slice a0_0 p0.b.length u0_0, .int .i64 r.2.1, .int .i64 r.2.2]) := by
 unfold s_l1Once at h
 refine Ret.enter Tryd.func34 rfl Tryd.ntmps34 rfl ?_
 dsimp only [envOf]
 have hE := Ent.refl κ w
 refine WC.seq ?_
 refine WC.rs [(0, 2)] rfl ?_
 refine WO.pn 1 rfl ?_
 refine WO.fin ?_
 refine DN.seq ?_
 refine WC.seq ?_
 refine WC.rs [(0, 2), (1, 2), (2, 1), (3, 2), (4, 2)] rfl ?_
 refine WO.pn 2 rfl ?_
 obtain ⟨x7, hx7, h⟩ := Option.bind_eq_some_iff.mp h
 refine WO.call rfl rfl rfl rfl rfl rfl Tryd.call35 (s_l1Below_ok (κ := fun b => mp [(2, 2)] 0 (κ b)) (p0 := p0) (Sl.map g0_0 (mp [(2, 2)] 0) rfl rfl) (gb0.map (mp [(2, 2)] 0) rfl rfl) hx7) ?_
 rintro _ w1 ⟨k2, rfl, e3, f4⟩
 obtain ⟨K5, S6, m7⟩ := Ent.mixed (l := [(2, 2)]) (κ := κ) e3 3 rfl
 refine ⟨trivial, ?_⟩
 have f9 := f4.mx m7 rfl (rfl : 3 + 2 = 5)
 refine WO.pn 2 rfl ?_
 refine WO.fin ?_
 refine DN.seq ?_
 refine WC.ret ?_
 have f10 := hE.stp S6 rfl rfl
 refine DN.res (l := [.tmp 4]) Tryd.results34 (res_tmp rfl rfl) rfl ?_
 obtain rfl := Option.some.inj h
 exact ⟨(fun b => ren [(5, 2)] (K5 b)), rfl, (f10.map (ren [(5, 2)]) rfl rfl), (f9.map (ren [(5, 2)]) rfl rfl)⟩

/- loop.example/g00869/spec.l1Odd -/
theorem s_l1Odd_ok {w : World} {κ : Col} {a0_0 : Option Addr} {u0_0 : Nat} {p0 : l1Cur} {b0 : Nat} (g0_0 : Rd (Rp.int .u8) κ w 0 a0_0 u0_0 p0.b) (gb0 : Bc κ w 2 b0 96 [.slice a0_0 p0.b.length u0_0, .int .i64 p0.i, .int .i64 p0.h]) {r : Int × Int × Int} (h : s_l1Odd p0 = some r) : Ret Tryd.prog 93 [.pointer (some ⟨b0, 0, none⟩)] w (fun v w' => ∃ (κ' : Col), v = .int .i64 r.1 ∧ Ent κ w κ' w' ∧ Bc κ' w' 2 b0 96 [.slice a0_0 p0.b.length u0_0, .int .i64 r.2.1, .int .i64 r.2.2]) := by
 unfold s_l1Odd at h
 refine Ret.enter Tryd.func93 rfl Tryd.ntmps93 rfl ?_
 dsimp only [envOf]
 have hE := Ent.refl κ w
 refine WC.seq ?_
 refine WC.rs [(0, 2)] rfl ?_
 refine WO.pn 1 rfl ?_
 refine WO.fin ?_
 refine DN.seq ?_
 refine WC.seq ?_
 refine WC.rs [(0, 1), (1, 2), (2, 1), (3, 2), (4, 1), (5, 2)] rfl ?_
 refine WO.bl (κ := κ) (E := (Ep.int .i64)) 3 [] (parts := [(0, .const (.int .i64 (-1))), (1, .const (.int .i64 0)), (2, .const (.int .i64 1)), (3, .const (.int .i64 2147483648)), (4, .const (.int .i64 (-2147483648))), (5, .const (.int .i64 1099511627776)), (6, .const (.int .i64 4611686018427387904)), (7, .const (.int .i64 (-4611686018427387904))), (8, .const (.int .i64 9223372036854775807)), (9, .const (.int .i64 (-9223372036854775808)))]) (cells := [.int .i64 (-1), .int .i64 0, .int .i64 1, .int .i64 2147483648, .int .i64 (-2147483648), .int .i64 1099511627776, .int .i64 4611686018427387904, .int .i64 (-4611686018427387904), .int .i64 9223372036854775807, .int .i64 (-9223372036854775808)]) (xs := ([(-1), 0, 1, 2147483648, (-2147483648), 1099511627776, 4611686018427387904, (-4611686018427387904), 9223372036854775807, (-9223372036854775808)] : List Int)) rfl rfl rfl rfl rfl rfl Tryd.underlying60 Trydinfo2 rfl rfl rfl rfl rfl rfl rfl rfl rfl rfl ⟨[.int .i64 (-1)], [.int .i64 0, .int .i64 1, .int .i64 2147483648, .int .i64 (-2147483648), .int .i64 1099511627776, .int .i64 4611686018427387904, .int .i64 (-4611686018427387904), .int .i64 9223372036854775807, .int .i64 (-9223372036854775808)], Zl κ w [], Zl κ w [], rfl, Zl.sp (l1 := []) (l2 := []) rfl, Zl.sr (l1 := []) (l2 := []), rfl, ⟨[.int .i64 0], [.int .i64 1, .int .i64 2147483648, .int .i64 (-2147483648), .int .i64 1099511627776, .int .i64 4611686018427387904, .int .i64 (-4611686018427387904), .int .i64 9223372036854775807, .int .i64 (-9223372036854775808)], Zl κ w [], Zl κ w [], rfl, Zl.sp (l1 := []) (l2 := []) rfl, Zl.sr (l1 := []) (l2 := []), rfl, ⟨[.int .i64 1], [.int .i64 2147483648, .int .i64 (-2147483648), .int .i64 1099511627776, .int .i64 4611686018427387904, .int .i64 (-4611686018427387904), .int .i64 9223372036854775807, .int .i64 (-9223372036854775808)], Zl κ w [], Zl κ w [], rfl, Zl.sp (l1 := []) (l2 := []) rfl, Zl.sr (l1 := []) (l2 := []), rfl, ⟨[.int .i64 2147483648], [.int .i64 (-2147483648), .int .i64 1099511627776, .int .i64 4611686018427387904, .int .i64 (-4611686018427387904), .int .i64 9223372036854775807, .int .i64 (-9223372036854775808)], Zl κ w [], Zl κ w [], rfl, Zl.sp (l1 := []) (l2 := []) rfl, Zl.sr (l1 := []) (l2 := []), rfl, ⟨[.int .i64 (-2147483648)], [.int .i64 1099511627776, .int .i64 4611686018427387904, .int .i64 (-4611686018427387904), .int .i64 9223372036854775807, .int .i64 (-9223372036854775808)], Zl κ w [], Zl κ w [], rfl, Zl.sp (l1 := []) (l2 := []) rfl, Zl.sr (l1 := []) (l2 := []), rfl, ⟨[.int .i64 1099511627776], [.int .i64 4611686018427387904, .int .i64 (-4611686018427387904), .int .i64 9223372036854775807, .int .i64 (-9223372036854775808)], Zl κ w [], Zl κ w [], rfl, Zl.sp (l1 := []) (l2 := []) rfl, Zl.sr (l1 := []) (l2 := []), rfl, ⟨[.int .i64 4611686018427387904], [.int .i64 (-4611686018427387904), .int .i64 9223372036854775807, .int .i64 (-9223372036854775808)], Zl κ w [], Zl κ w [], rfl, Zl.sp (l1 := []) (l2 := []) rfl, Zl.sr (l1 := []) (l2 := []), rfl, ⟨[.int .i64 (-4611686018427387904)], [.int .i64 9223372036854775807, .int .i64 (-9223372036854775808)], Zl κ w [], Zl κ w [], rfl, Zl.sp (l1 := []) (l2 := []) rfl, Zl.sr (l1 := []) (l2 := []), rfl, ⟨[.int .i64 9223372036854775807], [.int .i64 (-9223372036854775808)], Zl κ w [], Zl κ w [], rfl, Zl.sp (l1 := []) (l2 := []) rfl, Zl.sr (l1 := []) (l2 := []), rfl, ⟨[.int .i64 (-9223372036854775808)], [], Zl κ w [], Zl κ w [], rfl, Zl.sp (l1 := []) (l2 := []) rfl, Zl.sr (l1 := []) (l2 := []), rfl, rfl⟩⟩⟩⟩⟩⟩⟩⟩⟩⟩ fun a3 u3 w1 K2 S3 f4 => ⟨trivial, ?_⟩
 refine WO.pn 1 rfl ?_
 obtain ⟨x5, hx5, h⟩ := Option.bind_eq_some_iff.mp h
 have f5 := g0_0.stp S3 rfl rfl
 have f6 := gb0.stp S3 rfl rfl
 refine WO.call rfl rfl rfl rfl rfl rfl Tryd.call35 (s_l1Below_ok (κ := fun b => mp [(2, 2)] 0 (K2 b)) (p0 := p0) (Sl.map f5 (mp [(2, 2)] 0) rfl rfl) (f6.map (mp [(2, 2)] 0) rfl rfl) hx5) ?_
 rintro _ w7 ⟨k8, rfl, e9, f10⟩
 obtain ⟨K11, S12, m13⟩ := Ent.mixed (l := [(2, 2)]) (κ := K2) e9 4 rfl
 refine ⟨trivial, ?_⟩
 have f15 := f10.mx m13 rfl (rfl : 4 + 2 = 6)
 obtain ⟨x6, hx6, h⟩ := Option.bind_eq_some_iff.mp h
 refine WO.k2 rfl rfl rfl rfl (rn_index f4.rdc hx6 Tryd.runUnderlying60 Tryd.sizeOf2 rfl rfl rfl rfl) ?_
 have f16 := f4.stp S12 rfl rfl
 refine WO.k1 trivial rfl rfl rfl rfl (rn_ld Tryd.isAgg2 rfl rfl (hvE (f16.rdc.gInt hx6))) ?_
 refine WO.pn 1 rfl ?_
 refine WO.fin ?_
 refine DN.seq ?_
 refine WC.ret ?_
 have f17 := hE.stp (S3.tr S12) rfl rfl
 refine DN.res (l := [.tmp 2]) Tryd.results93 (res_tmp rfl rfl) rfl ?_
 obtain rfl := Option.some.inj h
 exact ⟨(fun b => ren [(6, 2)] (K11 b)), rfl, (f17.map (ren [(6, 2)]) rfl rfl), (f15.map (ren [(6, 2)]) rfl rfl)⟩

/- loop.example/g00869/spec.l1Num -/
theorem s_l1Num_ok {w : World} {κ : Col} {a0_0 : Option Addr} {u0_0 : Nat} {p0 : l1Cur} {p1 : Int} {b0 : Nat} (g0_0 : Rd (Rp.int .u8) κ w 0 a0_0 u0_0 p0.b) (gb0 : Bc κ w 2 b0 96 [.slice a0_0 p0.b.length u0_0, .int .i64 p0.i, .int .i64 p0.h]) {r : Int × Int × Int} (h : s_l1Num p0 p1 = some r) : Ret Tryd.prog 80 [.pointer (some ⟨b0, 0, none⟩), .int .i64 p1] w (fun v w' => ∃ (κ' : Col), v = .int .i64 r.1 ∧ Ent κ w κ' w' ∧ Bc κ' w' 2 b0 96 [.slice a0_0 p0.b.length u0_0, .int .i64 r.2.1, .int .i64 r.2.2]) := by
 unfold s_l1Num at h
 refine Ret.enter Tryd.func80 rfl Tryd.ntmps80 rfl ?_
 dsimp only [envOf]
 have hE := Ent.refl κ w
 refine WC.seq ?_
 refine WC.rs [(0, 2)] rfl ?_
 refine WO.pn 1 rfl ?_
 refine WO.fin ?_
 refine DN.seq ?_
 refine WC.seq ?_
 refine WC.seq ?_
 refine WC.rs [(0, 2), (1, 1)] rfl ?_
 refine WO.pn 1 rfl ?_
 obtain ⟨x6, hx6, h⟩ := Option.bind_eq_some_iff.mp h
 refine WO.call rfl rfl rfl rfl rfl rfl Tryd.call34 (s_l1Once_ok (κ := fun b => mp [(2, 2)] 0 (κ b)) (p0 := p0) (Sl.map g0_0 (mp [(2, 2)] 0) rfl rfl) (gb0.map (mp [(2, 2)] 0) rfl rfl) hx6) ?_
 rintro _ w1 ⟨k2, rfl, e3, f4⟩
 obtain ⟨K5, S6, m7⟩ := Ent.mixed (l := [(2, 2)]) (κ := κ) e3 3 rfl
 refine ⟨trivial, ?_⟩
 have f9 := f4.mx m7 rfl (rfl : 3 + 2 = 5)
 refine WO.fin ?_
 refine DN.seq ?_
 revert h
 cases ht10 : x6.1 with
 | true =>
  intro h; replace h := cT h
  refine WC.ct rfl ?_
  refine WC.seq ?_
  refine WC.rs [(0, 2), (1, 2), (2, 2), (3, 2), (4, 1), (5, 1), (6, 2), (7, 1), (8, 2), (9, 1), (10, 2)] rfl ?_
  refine WO.pn 4 rfl ?_
  obtain ⟨x11, hx11, h⟩ := Option.bind_eq_some_iff.mp h
  have f11 := g0_0.stp S6 rfl rfl
  refine WO.call rfl rfl rfl rfl rfl rfl Tryd.call93 (s_l1Odd_ok (κ := fun b => mp [(5, 2)] 0 (K5 b)) (p0 := (⟨p0.b, x6.2.1, x6.2.2⟩ : l1Cur)) (Sl.map f11 (mp [(5, 2)] 0) rfl rfl) (f9.map (mp [(5, 2)] 0) rfl rfl) hx11) ?_
  rintro _ w12 ⟨k13, rfl, e14, f15⟩
  obtain ⟨K16, S17, m18⟩ := Ent.mixed (l := [(5, 2)]) (κ := K5) e14 6 rfl
  refine ⟨trivial, ?_⟩
  have f20 := f15.mx m18 rfl (rfl : 6 + 2 = 8)
  refine WO.bl (κ := K16) (E := (Ep.int .i64)) 9 [] (parts := [(0, .const (.int .i64 (-1))), (1, .tmp 7), (2, .tmp 9), (3, .tmp 11)]) (cells := [.int .i64 (-1), .int .i64 p1, .int .i64 (IntKind.i64.wrap (p1 + 1)), .int .i64 x11.1]) (xs := ([(-1), p1, (IntKind.i64.wrap (p1 + 1)), x11.1] : List Int)) rfl rfl rfl rfl rfl rfl Tryd.underlying60 Trydinfo2 rfl rfl rfl rfl rfl rfl rfl rfl rfl rfl ⟨[.int .i64 (-1)], [.int .i64 p1, .int .i64 (IntKind.i64.wrap (p1 + 1)), .int .i64 x11.1], Zl K16 w12 [], Zl K16 w12 [], rfl, Zl.sp (l1 := []) (l2 := []) rfl, Zl.sr (l1 := []) (l2 := []), rfl, ⟨[.int .i64 p1], [.int .i64 (IntKind.i64.wrap (p1 + 1)), .int .i64 x11.1], Zl K16 w12 [], Zl K16 w12 [], rfl, Zl.sp (l1 := []) (l2 := []) rfl, Zl.sr (l1 := []) (l2 := []), rfl, ⟨[.int .i64 (IntKind.i64.wrap (p1 + 1))], [.int .i64 x11.1], Zl K16 w12 [], Zl K16 w12 [], rfl, Zl.sp (l1 := []) (l2 := []) rfl, Zl.sr (l1 := []) (l2 := []), rfl, ⟨[.int .i64 x11.1], [], Zl K16 w12 [], Zl K16 w12 [], rfl, Zl.sp (l1 := []) (l2 := []) rfl, Zl.sr (l1 := []) (l2 := []), rfl, rfl⟩⟩⟩⟩ fun a12 u12 w21 K22 S23 f24 => ⟨trivial, ?_⟩
  refine WO.pn 1 rfl ?_
  obtain ⟨x14, hx14, h⟩ := Option.bind_eq_some_iff.mp h
  have f25 := f11.stp (S17.tr S23) rfl rfl
  have f26 := f20.stp S23 rfl rfl
  refine WO.call rfl rfl rfl rfl rfl rfl Tryd.call35 (s_l1Below_ok (κ := fun b => mp [(8, 2)] 0 (K22 b)) (p0 := (⟨p0.b, x11.2.1, x11.2.2⟩ : l1Cur)) (Sl.map f25 (mp [(8, 2)] 0) rfl rfl) (f26.map (mp [(8, 2)] 0) rfl rfl) hx14) ?_
  rintro _ w27 ⟨k28, rfl, e29, f30⟩
  obtain ⟨K31, S32, m33⟩ := Ent.mixed (l := [(8, 2)]) (κ := K22) e29 10 rfl
  refine ⟨trivial, ?_⟩
  have f35 := f30.mx m33 rfl (rfl : 10 + 2 = 12)
  obtain ⟨x15, hx15, h⟩ := Option.bind_eq_some_iff.mp h
  refine WO.k2 rfl rfl rfl rfl (rn_index f24.rdc hx15 Tryd.runUnderlying60 Tryd.sizeOf2 rfl rfl rfl rfl) ?_
  have f36 := f24.stp S32 rfl rfl
  refine WO.k1 trivial rfl rfl rfl rfl (rn_ld Tryd.isAgg2 rfl rfl (hvE (f36.rdc.gInt hx15))) ?_
  refine WO.pn 1 rfl ?_
  refine WO.fin ?_
  refine DN.seq ?_
  refine WC.ret ?_
  refine DN.retThen ?_
  have f37 := hE.stp (S6.tr (S17.tr (S23.tr S32))) rfl rfl
  refine DN.res (l := [.tmp 4]) Tryd.results80 (res_tmp rfl rfl) rfl ?_
  obtain rfl := Option.some.inj h
  exact ⟨(fun b => ren [(12, 2)] (K31 b)), rfl, (f37.map (ren [(12, 2)]) rfl rfl), (f35.map (ren [(12, 2)]) rfl rfl)⟩
 | false =>
  intro h; replace h := cF h
  refine WC.cf rfl ?_
  refine WC.skip ?_
  refine DN.seq ?_
  refine WC.seq ?_
  refine WC.seq ?_
  refine WC.rs [(0, 2), (1, 1)] rfl ?_
  refine WO.pn 1 rfl ?_
  obtain ⟨x18, hx18, h⟩ := Option.bind_eq_some_iff.mp h
  have f38 := g0_0.stp S6 rfl rfl
  refine WO.call rfl rfl rfl rfl rfl rfl Tryd.call34 (s_l1Once_ok (κ := fun b => mp [(5, 2)] 0 (K5 b)) (p0 := (⟨p0.b, x6.2.1, x6.2.2⟩ : l1Cur)) (Sl.map f38 (mp [(5, 2)] 0) rfl rfl) (f9.map (mp [(5, 2)] 0) rfl rfl) hx18) ?_
  rintro _ w39 ⟨k40, rfl, e41, f42⟩
  obtain ⟨K43, S44, m45⟩ := Ent.mixed (l := [(5, 2)]) (κ := K5) e41 6 rfl
  refine ⟨trivial, ?_⟩
  have f47 := f42.mx m45 rfl (rfl : 6 + 2 = 8)
  refine WO.fin ?_
  refine DN.seq ?_
  revert h
  cases ht48 : x18.1 with
  | true =>
   intro h; replace h := cT h
   refine WC.ct rfl ?_
   refine WC.seq ?_
   refine WC.rs [(0, 2), (1, 2), (2, 1), (3, 2), (4, 1), (5, 2)] rfl ?_
   refine WO.pn 2 rfl ?_
   obtain ⟨x21, hx21, h⟩ := Option.bind_eq_some_iff.mp h
   refine WO.call rfl rfl rfl rfl rfl rfl Tryd.call94 (s_l1Min_ok (κ := fun b => mp [] 0 (K43 b)) hx21) ?_
   rintro _ w49 ⟨k50, rfl, e51⟩
   obtain ⟨K52, S53, m54⟩ := Ent.mixed (l := []) (κ := K43) e51 9 rfl
   refine ⟨trivial, ?_⟩
   refine WO.pn 1 rfl ?_
   obtain ⟨x23, hx23, h⟩ := Option.bind_eq_some_iff.mp h
   have f56 := f38.stp (S44.tr S53) rfl rfl
   have f57 := f47.stp S53 rfl rfl
   refine WO.call rfl rfl rfl rfl rfl rfl Tryd.call35 (s_l1Below_ok (κ := fun b => mp [(8, 2)] 0 (K52 b)) (p0 := (⟨p0.b, x18.2.1, x18.2.2⟩ : l1Cur)) (Sl.map f56 (mp [(8, 2)] 0) rfl rfl) (f57.map (mp [(8, 2)] 0) rfl rfl) hx23) ?_
   rintro _ w58 ⟨k59, rfl, e60, f61⟩
   obtain ⟨K62, S63, m64⟩ := Ent.mixed (l := [(8, 2)]) (κ := K52) e60 11 rfl
   refine ⟨trivial, ?_⟩
   have f66 := f61.mx m64 rfl (rfl : 11 + 2 = 13)
   refine WO.pn 1 rfl ?_
   refine WO.fin ?_
   refine DN.seq ?_
   refine WC.ret ?_
   refine DN.retThen ?_
   have f67 := hE.stp (S6.tr (S44.tr (S53.tr S63))) rfl rfl
   refine DN.res (l := [.tmp 4]) Tryd.results80 (res_tmp rfl rfl) rfl ?_
   obtain rfl := Option.some.inj h
   exact ⟨(fun b => ren [(13, 2)] (K62 b)), rfl, (f67.map (ren [(13, 2)]) rfl rfl), (f66.map (ren [(13, 2)]) rfl rfl)⟩
  | false =>
   intro h; replace h := cF h
   refine WC.cf rfl ?_
   refine WC.skip ?_
   refine DN.seq ?_
   refine WC.seq ?_
   refine WC.rs [(0, 2), (1, 2), (2, 2), (3, 1), (4, 2)] rfl ?_
   refine WO.pn 3 rfl ?_
   obtain ⟨x27, hx27, h⟩ := Option.bind_eq_some_iff.mp h
   have f68 := f38.stp S44 rfl rfl
   refine WO.call rfl rfl rfl rfl rfl rfl Tryd.call35 (s_l1Below_ok (κ := fun b => mp [(8, 2)] 0 (K43 b)) (p0 := (⟨p0.b, x18.2.1, x18.2.2⟩ : l1Cur)) (Sl.map f68 (mp [(8, 2)] 0) rfl rfl) (f47.map (mp [(8, 2)] 0) rfl rfl) hx27) ?_
   rintro _ w69 ⟨k70, rfl, e71, f72⟩
   obtain ⟨K73, S74, m75⟩ := Ent.mixed (l := [(8, 2)]) (κ := K43) e71 9 rfl
   refine ⟨trivial, ?_⟩
   have f77 := f72.mx m75 rfl (rfl : 9 + 2 = 11)
   refine WO.pn 1 rfl ?_
   refine WO.fin ?_
   refine DN.seq ?_
   refine WC.ret ?_
   have f78 := hE.stp (S6.tr (S44.tr S74)) rfl rfl
   refine DN.res (l := [.tmp 4]) Tryd.results80 (res_tmp rfl rfl) rfl ?_
   obtain rfl := Option.some.inj h
   exact ⟨(fun b => ren [(11, 2)] (K73 b)), rfl, (f78.map (ren [(11, 2)]) rfl rfl), (f77.map (ren [(11, 2)]) rfl rfl)⟩

/- loop.example/g00869/spec.l1From -/
theorem s_l1From_ok {w : World} {κ : Col} {a0_0 : Option Addr} {u0_0 : Nat} {p0 : l1Cur} {p1 : Int} {p2 : Int} {b0 : Nat} (g0_0 : Rd (Rp.int .u8) κ w 0 a0_0 u0_0 p0.b) (gb0 : Bc κ w 2 b0 96 [.slice a0_0 p0.b.length u0_0, .int .i64 p0.i, .int .i64 p0.h]) {r : Int × Int × Int} (h : s_l1From p0 p1 p2 = some r) : Ret Tryd.prog 82 [.pointer (some ⟨b0, 0, none⟩), .int .i64 p1, .int .i64 p2] w (fun v w' => ∃ (κ' : Col), v = .int .i64 r.1 ∧ Ent κ w κ' w' ∧ Bc κ' w' 2 b0 96 [.slice a0_0 p0.b.length u0_0, .int .i64 r.2.1, .int .i64 r.2.2]) := by
 unfold s_l1From at h
 refine Ret.enter Tryd.func82 rfl Tryd.ntmps82 rfl ?_
 dsimp only [envOf]
 have hE := Ent.refl κ w
 refine WC.seq ?_
 refine WC.rs [(0, 2)] rfl ?_
 refine WO.pn 1 rfl ?_
 refine WO.fin ?_
 refine DN.seq ?_
 refine WC.seq ?_
 refine WC.rs [(0, 2), (1, 2), (2, 2), (3, 2), (4, 2), (5, 2), (6, 1), (7, 2), (8, 2)] rfl ?_
 refine WO.pn 6 rfl ?_
 obtain ⟨x13, hx13, h⟩ := Option.bind_eq_some_iff.mp h
 refine WO.call rfl rfl rfl rfl rfl rfl Tryd.call35 (s_l1Below_ok (κ := fun b => mp [(2, 2)] 0 (κ b)) (p0 := p0) (Sl.map g0_0 (mp [(2, 2)] 0) rfl rfl) (gb0.map (mp [(2, 2)] 0) rfl rfl) hx13) ?_
 rintro _ w1 ⟨k2, rfl, e3, f4⟩
 obtain ⟨K5, S6, m7⟩ := Ent.mixed (l := [(2, 2)]) (κ := κ) e3 3 rfl
 refine ⟨trivial, ?_⟩
 have f9 := f4.mx m7 rfl (rfl : 3 + 2 = 5)
 refine WO.pn 2 rfl ?_
 refine WO.fin ?_
 refine DN.seq ?_
 refine WC.ret ?_
 have f10 := hE.stp S6 rfl rfl
 refine DN.res (l := [.tmp 6]) Tryd.results82 (res_tmp rfl rfl) rfl ?_
 obtain rfl := Option.some.inj h
 exact ⟨(fun b => ren [(5, 2)] (K5 b)), rfl, (f10.map (ren [(5, 2)]) rfl rfl), (f9.map (ren [(5, 2)]) rfl rfl)⟩

/- loop.example/g00869/spec.l1Draw -/
theorem s_l1Draw_ok {w : World} {κ : Col} {a0_0 : Option Addr} {u0_0 : Nat} {p0 : l1Cur} {b0 : Nat} (g0_0 : Rd (Rp.int .u8) κ w 0 a0_0 u0_0 p0.b) (gb0 : Bc κ w 2 b0 96 [.slice a0_0 p0.b.length u0_0, .int .i64 p0.i, .int .i64 p0.h]) {r : Arena × Int × Int} (h : s_l1Draw p0 = some r) : Ret Tryd.prog 92 [.pointer (some ⟨b0, 0, none⟩)] w (fun v w' => ∃ (κ' : Col) (ra0 : Option Addr) (ru0 : Nat) (ra1 : Option Addr) (ru1 : Nat), v = .agg #[.slice ra0 r.1.Owner.length ru0, .slice ra1 r.1.Next.length ru1] ∧ Ent κ w κ' w' ∧ Oc (Ep.int .i64) 2 κ' w' 3 ra0 ru0 r.1.Owner ∧ Oc (Ep.own (Ep.int .i64) 2) 60 κ' w' 4 ra1 ru1 r.1.Next ∧ Bc κ' w' 2 b0 96 [.slice a0_0 p0.b.length u0_0, .int .i64 r.2.1, .int .i64 r.2.2]) := by
 unfold s_l1Draw at h
 refine Ret.enter Tryd.func92 rfl Tryd.ntmps92 rfl ?_
 dsimp only [envOf]
 have hE := Ent.refl κ w
 refine WC.seq ?_
 refine WC.rs [(0, 1)] rfl ?_
 refine WO.alloc (κ := κ) 3 rfl rfl rfl rfl rfl Tryd.zeroValue64 rfl fun b2 w1 K2 S3 f4 => ⟨trivial, ?_⟩
 refine WO.fin ?_
 refine DN.seq ?_
 refine WC.seq ?_
 refine WC.rs [(0, 2), (1, 1), (2, 2), (3, 2)] rfl ?_
 refine WO.pn 1 rfl ?_
 obtain ⟨x9, hx9, h⟩ := Option.bind_eq_some_iff.mp h
 have f5 := g0_0.stp S3 rfl rfl
 have f6 := gb0.stp S3 rfl rfl
 refine WO.call rfl rfl rfl rfl rfl rfl Tryd.call35 (s_l1Below_ok (κ := fun b => mp [(2, 2)] 0 (K2 b)) (p0 := p0) (Sl.map f5 (mp [(2, 2)] 0) rfl rfl) (f6.map (mp [(2, 2)] 0) rfl rfl) hx9) ?_
 rintro _ w7 ⟨k8, rfl, e9, f10⟩
 obtain ⟨K11, S12, m13⟩ := Ent.mixed (l := [(2, 2)]) (κ := K2) e9 4 rfl
 refine ⟨trivial, ?_⟩
 have f15 := f10.mx m13 rfl (rfl : 4 + 2 = 6)
 refine WO.pn 2 rfl ?_
 refine WO.fin ?_
 refine DN.seq ?_
 refine WC.seq ?_
 refine WC.rs [(0, 2), (1, 1), (2, 1)] rfl ?_
 refine WO.k2 rfl rfl rfl rfl (rn_build (parts := []) (cells := [.slice none 0 0, .slice none 0 0]) rfl rfl (by kernel_rfl)) ?_
 refine WO.alloc (κ := K11) 7 rfl rfl rfl rfl rfl Tryd.zeroValue64 rfl fun b4 w16 K17 S18 f19 => ⟨trivial, ?_⟩
 refine WO.stB0 (κ := K17) 7 (vc := [.slice none 0 0, .slice none 0 0]) rfl rfl rfl rfl rfl rfl rfl Tryd.sizeOf64 rfl rfl f19 rfl fun w20 S21 f22 => ⟨trivial, ?_⟩
 refine WO.fin ?_
 refine DN.seq ?_
 refine WC.seq ?_
 refine WC.seq ?_
 refine WC.rs [(0, 2)] rfl ?_
 refine WO.pn 1 rfl ?_
 refine WO.fin ?_
 refine DN.seq ?_
 obtain ⟨_, hr23, h⟩ := Option.bind_eq_some_iff.mp h
 have hN23 := rng_ok hr23
 obtain ⟨q2, hq25, hK24⟩ := Option.bind_eq_some_iff.mp h
 clear h
 refine WC.meet (fun L w' => ∃ (κ' : Col) (s3 : Int × Int × (List Int) × (List (List Int))) (las3_0 : Option Addr) (lus3_0 : Nat) (las3_1 : Option Addr) (lus3_1 : Nat), L = [(0, .pointer (some ⟨b0, 0, none⟩)), (2, .pointer (some ⟨b2, 0, none⟩)), (4, .pointer (some ⟨b4, 0, none⟩))] ∧ Stp [6, 7, 8, 9, 10, 13, 16, 18, 20] K17 w20 κ' w' ∧ Oc (Ep.int .i64) 2 κ' w' 8 las3_0 lus3_0 s3.2.2.1 ∧ Oc (Ep.own (Ep.int .i64) 2) 60 κ' w' 9 las3_1 lus3_1 s3.2.2.2 ∧ Bc κ' w' 6 b0 96 [.slice a0_0 p0.b.length u0_0, .int .i64 s3.1, .int .i64 s3.2.1] ∧ Bc κ' w' 7 b4 64 [.slice las3_0 s3.2.2.1.length lus3_0, .slice las3_1 s3.2.2.2.length lus3_1] ∧ q2 = Sum.inr s3) ?_ ?_
 ·
  refine WC.block ?_
  have f40 := f15.stp (S18.tr S21) rfl rfl
  refine WC.loop (fun k L w' => ∃ (κ' : Col) (v5 : Int) (s1 : Int × Int × (List Int) × (List (List Int))) (las1_0 : Option Addr) (lus1_0 : Nat) (las1_1 : Option Addr) (lus1_1 : Nat), L = [(0, .pointer (some ⟨b0, 0, none⟩)), (2, .pointer (some ⟨b2, 0, none⟩)), (3, .int .i64 (IntKind.i64.wrap (1 + x9.1))), (4, .pointer (some ⟨b4, 0, none⟩)), (5, .int .i64 v5)] ∧ Stp [6, 7, 8, 9, 10, 13, 16, 18, 20] K17 w20 κ' w' ∧ Oc (Ep.int .i64) 2 κ' w' 8 las1_0 lus1_0 s1.2.2.1 ∧ Oc (Ep.own (Ep.int .i64) 2) 60 κ' w' 9 las1_1 lus1_1 s1.2.2.2 ∧ Bc κ' w' 6 b0 96 [.slice a0_0 p0.b.length u0_0, .int .i64 s1.1, .int .i64 s1.2.1] ∧ Bc κ' w' 7 b4 64 [.slice las1_0 s1.2.2.1.length lus1_0, .slice las1_1 s1.2.2.2.length lus1_1] ∧ 0 ≤ v5 ∧ Int.toNat ((IntKind.i64.wrap (1 + x9.1)) - v5) = k ∧ cntM (s_l1Draw_b0 p0 x9) k v5 s1 = some q2) ⟨_, _, ⟨K17, 0, ((x9.2.1 : Int), (x9.2.2 : Int), (([] : List Int) : (List Int)), (([] : List (List Int)) : (List (List Int)))), none, 0, none, 0, rfl, (Stp.refl _ _).wk rfl, Ow.nil, Ow.nil, f40, f22, (by decide), (by simp), hq25⟩, fun a ha => (ha.more (ha.more (ha.more (ha.more (ha.more ha.nil rfl) rfl) rfl) rfl) rfl)⟩ ?_
  rintro k _ w33 ⟨K34, v5, s1, las1_0, lus1_0, las1_1, lus1_1, rfl, S35, f36, f37, f38, f39, hj23, hJ23, h⟩
  rcases k with _ | k
  ·
   have hk41 := h; obtain ⟨o23, h⟩ := ex_eq (Sum.inr (Sum.inl s1) : (Arena × Int × Int) ⊕ ((Int × Int × (List Int) × (List (List Int))) ⊕ (Int × Int × (List Int) × (List (List Int)))))
   have hc23 : decide (v5 < (IntKind.i64.wrap (1 + x9.1))) = false := decide_eq_false (by omega)
   refine WC.seq ?_
   refine WC.seq ?_
   refine WC.rs [(0, 2), (1, 2), (2, 2)] rfl ?_
   refine WO.pn 3 rfl ?_
   refine WO.fin ?_
   refine DN.seq ?_
   refine WC.cf' rfl hc23 ?_
   refine WC.exit ?_
   refine DN.exitThen ?_
   refine DN.exitThen ?_
   obtain rfl := Option.some.inj h
   have h := hk41
   refine DN.hit ?_
   obtain rfl := Option.some.inj h
   exact DN.meet _ ⟨K34, ((s1.1 : Int), (s1.2.1 : Int), (s1.2.2.1 : (List Int)), (s1.2.2.2 : (List (List Int)))), las1_0, lus1_0, las1_1, lus1_1, rfl, S35.wk rfl, f36, f37, f38, f39, rfl⟩ fun a ha => (ha.more (ha.more (ha.more ha.nil rfl) rfl) rfl)
  ·
   obtain ⟨o23, h, hk41⟩ := Option.bind_eq_some_iff.mp h; unfold s_l1Draw_b0 at h
   have hc23 : decide (v5 < (IntKind.i64.wrap (1 + x9.1))) = true := decide_eq_true (by omega)
   refine WC.seq ?_
   refine WC.seq ?_
   refine WC.rs [(0, 2), (1, 2), (2, 2)] rfl ?_
   refine WO.pn 3 rfl ?_
   refine WO.fin ?_
   refine DN.seq ?_
   refine WC.ct' rfl hc23 ?_
   refine WC.skip ?_
   refine DN.seq ?_
   refine WC.seq ?_
   refine WC.block ?_
   refine WC.seq ?_
   refine WC.rs [(0, 1), (1, 2)] rfl ?_
   refine WO.bl0 (κ := K34) (E := (Ep.int .i64)) 10 rfl rfl rfl rfl rfl Tryd.underlying60 Trydinfo2 rfl fun a17 u17 w42 K43 S44 f45 => ⟨trivial, ?_⟩
   refine WO.pn 1 rfl ?_
   refine WO.fin ?_
   refine DN.seq ?_
   refine WC.seq ?_
   refine WC.seq ?_
   refine WC.rs [(0, 2), (1, 1), (2, 2), (3, 2)] rfl ?_
   refine WO.pn 1 rfl ?_
   obtain ⟨x19, hx19, h⟩ := Option.bind_eq_some_iff.mp h
   have f46 := f5.stp (S12.tr (S18.tr (S21.tr (S35.tr S44)))) rfl rfl
   have f47 := f38.stp S44 rfl rfl
   refine WO.call rfl rfl rfl rfl rfl rfl Tryd.call35 (s_l1Below_ok (κ := fun b => mp [(6, 2)] 0 (K43 b)) (p0 := (⟨p0.b, s1.1, s1.2.1⟩ : l1Cur)) (Sl.map f46 (mp [(6, 2)] 0) rfl rfl) (f47.map (mp [(6, 2)] 0) rfl rfl) hx19) ?_
   rintro _ w48 ⟨k49, rfl, e50, f51⟩
   obtain ⟨K52, S53, m54⟩ := Ent.mixed (l := [(6, 2)]) (κ := K43) e50 11 rfl
   refine ⟨trivial, ?_⟩
   have f56 := f51.mx m54 rfl (rfl : 11 + 2 = 13)
   refine WO.pn 2 rfl ?_
   refine WO.fin ?_
   refine DN.seq ?_
   obtain ⟨q5, hq59, hK58⟩ := Option.bind_eq_some_iff.mp h
   clear h
   refine WC.meet (fun L w' => ∃ (κ' : Col) (s6 : (List Int) × Int × Int × Int) (las6_0 : Option Addr) (lus6_0 : Nat), L = [(0, .pointer (some ⟨b0, 0, none⟩)), (2, .pointer (some ⟨b2, 0, none⟩)), (3, .int .i64 (IntKind.i64.wrap (1 + x9.1))), (4, .pointer (some ⟨b4, 0, none⟩)), (5, .int .i64 v5), (6, .slice las6_0 s6.1.length lus6_0)] ∧ Stp [10, 13, 16, 20] K52 w48 κ' w' ∧ Oc (Ep.int .i64) 2 κ' w' 10 las6_0 lus6_0 s6.1 ∧ Bc κ' w' 13 b0 96 [.slice a0_0 p0.b.length u0_0, .int .i64 s6.2.2.1, .int .i64 s6.2.2.2] ∧ q5 = Sum.inr s6) ?_ ?_
   ·
    refine WC.block ?_
    have f70 := f45.stp S53 rfl rfl
    refine WC.loop (fun k L w' => ∃ (κ' : Col) (s4 : (List Int) × Int × Int × Int) (las4_0 : Option Addr) (lus4_0 : Nat), L = [(0, .pointer (some ⟨b0, 0, none⟩)), (2, .pointer (some ⟨b2, 0, none⟩)), (3, .int .i64 (IntKind.i64.wrap (1 + x9.1))), (4, .pointer (some ⟨b4, 0, none⟩)), (5, .int .i64 v5), (6, .slice las4_0 s4.1.length lus4_0), (7, .int .i64 s4.2.1)] ∧ Stp [10, 13, 16, 20] K52 w48 κ' w' ∧ Oc (Ep.int .i64) 2 κ' w' 10 las4_0 lus4_0 s4.1 ∧ Bc κ' w' 13 b0 96 [.slice a0_0 p0.b.length u0_0, .int .i64 s4.2.2.1, .int .i64 s4.2.2.2] ∧ whileM (s_l1Draw_b2 p0 x9) k s4 = some q5) ⟨_, _, ⟨K52, ((([] : List Int) : (List Int)), ((IntKind.i64.wrap (1 + x19.1)) : Int), (x19.2.1 : Int), (x19.2.2 : Int)), a17, u17, rfl, (Stp.refl _ _).wk rfl, f70, f56, hq59⟩, fun a ha => (ha.more (ha.more (ha.more (ha.more (ha.more (ha.more (ha.more ha.nil rfl) rfl) rfl) rfl) rfl) rfl) rfl)⟩ ?_
    rintro k _ w65 ⟨K66, s4, las4_0, lus4_0, rfl, S67, f68, f69, h⟩
    rcases k with _ | k
    ·
     cases h
    ·
     obtain ⟨o57, h, hk71⟩ := Option.bind_eq_some_iff.mp h; unfold s_l1Draw_b2 at h
     refine WC.seq ?_
     refine WC.seq ?_
     refine WC.rs [(0, 2), (1, 2)] rfl ?_
     refine WO.pn 2 rfl ?_
     refine WO.fin ?_
     refine DN.seq ?_
     revert h
     cases ht72 : decide (0 < s4.2.1) with
     | true =>
      intro h; replace h := cT h
      refine WC.ct rfl ?_
      refine WC.skip ?_
      refine DN.seq ?_
      refine WC.seq ?_
      refine WC.block ?_
      refine WC.rs [(0, 2), (1, 2), (2, 2), (3, 1), (4, 1), (5, 2)] rfl ?_
      refine WO.pn 3 rfl ?_
      obtain ⟨x28, hx28, h⟩ := Option.bind_eq_some_iff.mp h
      have f73 := f46.stp (S53.tr S67) rfl rfl
      refine WO.call rfl rfl rfl rfl rfl rfl Tryd.call35 (s_l1Below_ok (κ := fun b => mp [(13, 2)] 0 (K66 b)) (p0 := (⟨p0.b, s4.2.2.1, s4.2.2.2⟩ : l1Cur)) (Sl.map f73 (mp [(13, 2)] 0) rfl rfl) (f69.map (mp [(13, 2)] 0) rfl rfl) hx28) ?_
      rintro _ w74 ⟨k75, rfl, e76, f77⟩
      obtain ⟨K78, S79, m80⟩ := Ent.mixed (l := [(13, 2)]) (κ := K66) e76 14 rfl
      refine ⟨trivial, ?_⟩
      have f82 := f77.mx m80 rfl (rfl : 14 + 2 = 16)
      obtain ⟨x29, hx29, h⟩ := Option.bind_eq_some_iff.mp h
      have f83 := f68.stp S79 rfl rfl
      refine WO.call rfl rfl rfl rfl rfl rfl Tryd.call109 (s_l1Into_ok (κ := fun b => mp [(10, 2)] 0 (K78 b)) (f83.map (mp [(10, 2)] 0) rfl rfl) hx29) ?_
      rintro _ w84 ⟨k85, a29_0, u29_0, rfl, e86, f87⟩
      obtain ⟨K88, S89, m90⟩ := Ent.mixed (l := [(10, 2)]) (κ := K78) e86 17 rfl
      refine ⟨trivial, ?_⟩
      have f92 := f87.mx (no_int _) m90 rfl (rfl : 17 + 3 = 20)
      refine WO.pn 1 rfl ?_
      refine WO.fin ?_
      refine DN.block ?_
      refine DN.seq ?_
      refine WC.rs [(0, 2), (1, 2), (2, 2)] rfl ?_
      refine WO.pn 3 rfl ?_
      refine WO.fin ?_
      have f93 := f82.stp S89 rfl rfl
      obtain rfl := Option.some.inj h
      refine DN.round fun a ha => ?_
      exact ⟨k, _, Nat.lt_succ_self _, ⟨(fun b => ren [(20, 10), (16, 13)] (K88 b)), ((x29 : (List Int)), ((IntKind.i64.wrap (s4.2.1 - 1)) : Int), (x28.2.1 : Int), (x28.2.2 : Int)), a29_0, u29_0, rfl, (Stp.ren ((S67.tr (S79.tr S89)).wk rfl) [(20, 10), (16, 13)] rfl), (f92.map (ren [(20, 10), (16, 13)]) rfl rfl), (f93.map (ren [(20, 10), (16, 13)]) rfl rfl), hk71⟩, (ha.more (ha.more (ha.more (ha.more (ha.more (ha.more (ha.more ha.nil rfl) rfl) rfl) rfl) rfl) rfl) rfl)⟩
     | false =>
      intro h; replace h := cF h
      refine WC.cf rfl ?_
      refine WC.exit ?_
      refine DN.exitThen ?_
      refine DN.exitThen ?_
      obtain rfl := Option.some.inj h
      have h := hk71
      refine DN.hit ?_
      obtain rfl := Option.some.inj h
      exact DN.meet _ ⟨K66, ((s4.1 : (List Int)), (s4.2.1 : Int), (s4.2.2.1 : Int), (s4.2.2.2 : Int)), las4_0, lus4_0, rfl, S67.wk rfl, f68, f69, rfl⟩ fun a ha => (ha.more (ha.more (ha.more (ha.more (ha.more (ha.more ha.nil rfl) rfl) rfl) rfl) rfl) rfl)
   rintro _ w60 ⟨K61, s6, las6_0, lus6_0, rfl, S62, f63, f64, rfl⟩
   have h := hK58
   dsimp only [aft] at h
   refine DN.seq ?_
   refine WC.seq ?_
   refine WC.rx (κ := K61) [7] (some 7) [(0, 2), (2, 2), (1, 0), (3, 1), (4, 1), (5, 1), (6, 2)] [(7, 1)] (by kernel_rfl) (by kernel_rfl) fun w95 S94 => ?_
   refine WO.k2 rfl rfl rfl rfl (rn_fieldAddr Tryd.runUnderlying64 rfl Tryd.sizeOf60 rfl rfl) ?_
   refine WO.pn 1 rfl ?_
   have f96 := f39.stp (S44.tr (S53.tr (S62.tr S94))) rfl rfl
   refine WO.k0 rfl rfl rfl rfl (rn_ld Tryd.isAgg60 rfl rfl (hvC (f96.ld 0 rfl rfl) rfl)) ?_
   obtain ⟨x33, hx33, h⟩ := Option.bind_eq_some_iff.mp h
   have f97 := f46.stp (S53.tr (S62.tr S94)) rfl rfl
   have f98 := f64.stp S94 rfl rfl
   refine WO.call rfl rfl rfl rfl rfl rfl Tryd.call35 (s_l1Below_ok (κ := fun b => mp [(13, 2)] 0 (K61 b)) (p0 := (⟨p0.b, s6.2.2.1, s6.2.2.2⟩ : l1Cur)) (Sl.map f97 (mp [(13, 2)] 0) rfl rfl) (f98.map (mp [(13, 2)] 0) rfl rfl) hx33) ?_
   rintro _ w99 ⟨k100, rfl, e101, f102⟩
   obtain ⟨K103, S104, m105⟩ := Ent.mixed (l := [(13, 2)]) (κ := K61) e101 14 rfl
   refine ⟨(S104.cl rfl), ?_⟩
   have f107 := f102.mx m105 rfl (rfl : 14 + 2 = 16)
   refine WO.bl (κ := K103) (E := (Ep.int .i64)) 17 [] (parts := [(0, .tmp 33)]) (cells := [.int .i64 x33.1]) (xs := ([x33.1] : List Int)) rfl rfl rfl rfl rfl rfl Tryd.underlying60 Trydinfo2 rfl rfl rfl rfl rfl rfl rfl rfl rfl rfl ⟨[.int .i64 x33.1], [], Zl K103 w99 [], Zl K103 w99 [], rfl, Zl.sp (l1 := []) (l2 := []) rfl, Zl.sr (l1 := []) (l2 := []), rfl, rfl⟩ fun a34 u34 w108 K109 S110 f111 => ⟨((S104.tr S110).cl rfl), ?_⟩
   obtain ⟨x35, hx35, h⟩ := Option.bind_eq_some_iff.mp h
   have f112 := f36.stp (S44.tr (S53.tr (S62.tr (S94.tr (S104.tr S110))))) rfl rfl
   refine WO.app (κ := K109) (E := (Ep.int .i64)) 8 [] rfl rfl rfl rfl rfl rfl rfl rfl rfl Tryd.underlying60 Trydinfo2 rfl rfl rfl rfl f112 (Sl.srcP (pu_int _) f111.rdc) sy_false hx35 rfl fun a35 u35 w113 K114 S115 f116 => ⟨((S104.tr (S110.tr S115)).cl rfl), ?_⟩
   refine WO.k2 rfl rfl rfl rfl (rn_fieldAddr Tryd.runUnderlying64 rfl Tryd.sizeOf60 rfl rfl) ?_
   refine WO.nx ?_
   have f117 := f96.stp (S104.tr (S110.tr S115)) rfl rfl
   refine WO.stB (κ := K114) 7 (off := 0) (vc := [.slice a35 x35.length u35]) (cs' := [.slice a35 x35.length u35, .slice las1_1 s1.2.2.2.length lus1_1]) rfl rfl rfl rfl rfl rfl rfl Tryd.sizeOf60 rfl rfl f117 rfl rfl fun w118 S119 f120 => ⟨trivial, ?_⟩
   refine WO.fin ?_
   refine DN.seq ?_
   refine WC.rs [(0, 2), (1, 1), (2, 2), (3, 1), (4, 1), (5, 2), (6, 1)] rfl ?_
   refine WO.k2 rfl rfl rfl rfl (rn_fieldAddr Tryd.runUnderlying64 rfl Tryd.sizeOf35 rfl rfl) ?_
   refine WO.k1 trivial rfl rfl rfl rfl (rn_ld Tryd.isAgg35 rfl rfl (hvE (f120.ld 1 rfl rfl))) ?_
   refine WO.pn 1 rfl ?_
   have f121 := f63.stp (S94.tr (S104.tr (S110.tr (S115.tr S119)))) rfl rfl
   refine WO.bl (κ := K114) (E := (Ep.own (Ep.int .i64) 2)) 18 [10] (parts := [(0, .tmp 39)]) (cells := [.slice las6_0 s6.1.length lus6_0]) (xs := ([s6.1] : List (List Int))) rfl rfl rfl rfl rfl rfl Tryd.underlying35 Trydinfo60 rfl rfl rfl rfl rfl rfl rfl rfl rfl rfl ⟨[.slice las6_0 s6.1.length lus6_0], [], Zl K114 w118 [10], Zl K114 w118 [], rfl, Zl.sp (l1 := [10]) (l2 := []) rfl, Zl.sr (l1 := [10]) (l2 := []), ⟨_, _, rfl, f121⟩, rfl⟩ fun a40 u40 w122 K123 S124 f125 => ⟨trivial, ?_⟩
   obtain ⟨x41, hx41, h⟩ := Option.bind_eq_some_iff.mp h
   have f126 := f37.stp (S44.tr (S53.tr (S62.tr (S94.tr (S104.tr (S110.tr (S115.tr (S119.tr S124)))))))) rfl rfl
   refine WO.app (κ := K123) (E := (Ep.own (Ep.int .i64) 2)) 9 [18] rfl rfl rfl rfl rfl rfl rfl rfl rfl Tryd.underlying35 Trydinfo60 rfl rfl rfl rfl f126 f125.src (sy_one rfl) hx41 rfl fun a41 u41 w127 K128 S129 f130 => ⟨trivial, ?_⟩
   refine WO.k2 rfl rfl rfl rfl (rn_fieldAddr Tryd.runUnderlying64 rfl Tryd.sizeOf35 rfl rfl) ?_
   have f131 := f120.stp (S124.tr S129) rfl rfl
   refine WO.stB (κ := K128) 7 (off := 1) (vc := [.slice a41 x41.length u41]) (cs' := [.slice a35 x35.length u35, .slice a41 x41.length u41]) rfl rfl rfl rfl rfl rfl rfl Tryd.sizeOf35 rfl rfl f131 rfl rfl fun w132 S133 f134 => ⟨trivial, ?_⟩
   refine WO.fin ?_
   refine DN.block ?_
   refine DN.seq ?_
   refine WC.rs [(0, 2), (1, 2), (2, 2)] rfl ?_
   refine WO.pn 3 rfl ?_
   refine WO.fin ?_
   have hw23 : IntKind.wrap .i64 (v5 + 1) = v5 + 1 := wr1 hj23 (of_decide_eq_true hc23) hN23
   rw [hw23]
   have hc23 := of_decide_eq_true hc23
   have f135 := f116.stp (S119.tr (S124.tr (S129.tr S133))) rfl rfl
   have f136 := f130.stp S133 rfl rfl
   have f137 := f107.stp (S110.tr (S115.tr (S119.tr (S124.tr (S129.tr S133))))) rfl rfl
   obtain rfl := Option.some.inj h
   refine DN.round fun a ha => ?_
   exact ⟨k, _, Nat.lt_succ_self _, ⟨(fun b => ren [(16, 6)] (K128 b)), v5 + 1, ((x33.2.1 : Int), (x33.2.2 : Int), (x35 : (List Int)), (x41 : (List (List Int)))), a35, u35, a41, u41, rfl, (Stp.ren ((S35.tr (S44.tr (S53.tr (S62.tr (S94.tr (S104.tr (S110.tr (S115.tr (S119.tr (S124.tr (S129.tr S133))))))))))).wk rfl) [(16, 6)] rfl), (f135.map (ren [(16, 6)]) rfl rfl), (f136.map (ren [(16, 6)]) rfl rfl), (f137.map (ren [(16, 6)]) rfl rfl), (f134.map (ren [(16, 6)]) rfl rfl), by omega, by omega, hk41⟩, (ha.more (ha.more (ha.more (ha.more (ha.more ha.nil rfl) rfl) rfl) rfl) rfl)⟩
 rintro _ w26 ⟨K27, s3, las3_0, lus3_0, las3_1, lus3_1, rfl, S28, f29, f30, f31, f32, rfl⟩
 have h := hK24
 dsimp only [aft] at h
 refine DN.seq ?_
 refine WC.seq ?_
 refine WC.rs [(0, 1), (1, 1)] rfl ?_
 refine WO.k1 trivial rfl rfl rfl rfl (rn_la (cs := [.slice las3_0 s3.2.2.1.length lus3_0, .slice las3_1 s3.2.2.2.length lus3_1]) Tryd.isAgg64 Tryd.sizeOf64 rfl rfl rfl (haE f32.cells)) ?_
 have f138 := f4.stp (S12.tr (S18.tr (S21.tr S28))) rfl rfl
 refine WO.stB0 (κ := K27) 3 (vc := [.slice las3_0 s3.2.2.1.length lus3_0, .slice las3_1 s3.2.2.2.length lus3_1]) rfl rfl rfl rfl rfl rfl rfl Tryd.sizeOf64 rfl rfl f138 rfl fun w139 S140 f141 => ⟨trivial, ?_⟩
 refine WO.fin ?_
 refine DN.seq ?_
 refine WC.ret ?_
 have f142 := hE.stp (S3.tr (S12.tr (S18.tr (S21.tr (S28.tr S140))))) rfl rfl
 have f143 := f29.stp S140 rfl rfl
 have f144 := f30.stp S140 rfl rfl
 have f145 := f31.stp S140 rfl rfl
 refine DN.res (l := [.cell 2 64]) Tryd.results92 (res_cellA rfl f141 Tryd.isAgg64 Tryd.sizeOf64 rfl rfl) rfl ?_
 obtain rfl := Option.some.inj h
 exact ⟨(fun b => ren [(8, 3), (9, 4), (6, 2)] (K27 b)), las3_0, lus3_0, las3_1, lus3_1, rfl, (f142.map (ren [(8, 3), (9, 4), (6, 2)]) rfl rfl), (f143.map (ren [(8, 3), (9, 4), (6, 2)]) rfl rfl), (f144.map (ren [(8, 3), (9, 4), (6, 2)]) rfl rfl), (f145.map (ren [(8, 3), (9, 4), (6, 2)]) rfl rfl)⟩

/- loop.example/g00869/spec.l4Draw -/
theorem s_l4Draw_ok {w : World} {κ : Col} {a0_0 : Option Addr} {u0_0 : Nat} {p0 : l1Cur} {b0 : Nat} (g0_0 : Rd (Rp.int .u8) κ w 0 a0_0 u0_0 p0.b) (gb0 : Bc κ w 2 b0 96 [.slice a0_0 p0.b.length u0_0, .int .i64 p0.i, .int .i64 p0.h]) {r : Parity × Int × Int} (h : s_l4Draw p0 = some r) : Ret Tryd.prog 79 [.pointer (some ⟨b0, 0, none⟩)] w (fun v w' => ∃ (κ' : Col) (ra0 : Option Addr) (ru0 : Nat) (ra1 : Option Addr) (ru1 : Nat) (ra2 : Option Addr) (ru2 : Nat), v = .agg #[.slice ra0 r.1.Arena.Owner.length ru0, .slice ra1 r.1.Arena.Next.length ru1, .slice ra2 r.1.Prio.length ru2] ∧ Ent κ w κ' w' ∧ Oc (Ep.int .i64) 2 κ' w' 3 ra0 ru0 r.1.Arena.Owner ∧ Oc (Ep.own (Ep.int .i64) 2) 60 κ' w' 4 ra1 ru1 r.1.Arena.Next ∧ Oc (Ep.int .i64) 2 κ' w' 5 ra2 ru2 r.1.Prio ∧ Bc κ' w' 2 b0 96 [.slice a0_0 p0.b.length u0_0, .int .i64 r.2.1, .int .i64 r.2.2]) := by
 unfold s_l4Draw at h
 refine Ret.enter Tryd.func79 rfl Tryd.ntmps79 rfl ?_
 dsimp only [envOf]
 have hE := Ent.refl κ w
 refine WC.seq ?_
 refine WC.rs [(0, 1)] rfl ?_
 refine WO.alloc (κ := κ) 3 rfl rfl rfl rfl rfl Tryd.zeroValue66 rfl fun b2 w1 K2 S3 f4 => ⟨trivial, ?_⟩
 refine WO.fin ?_
 refine DN.seq ?_
 refine WC.seq ?_
 refine WC.rs [(0, 2), (1, 1), (2, 2), (3, 1), (4, 1)] rfl ?_
 refine WO.pn 1 rfl ?_
 obtain ⟨x7, hx7, h⟩ := Option.bind_eq_some_iff.mp h
 have f5 := g0_0.stp S3 rfl rfl
 have f6 := gb0.stp S3 rfl rfl
 refine WO.call rfl rfl rfl rfl rfl rfl Tryd.call92 (s_l1Draw_ok (κ := fun b => mp [(2, 2)] 0 (K2 b)) (p0 := p0) (Sl.map f5 (mp [(2, 2)] 0) rfl rfl) (f6.map (mp [(2, 2)] 0) rfl rfl) hx7) ?_
 rintro _ w7 ⟨k8, a7_0, u7_0, a7_1, u7_1, rfl, e9, f10, f11, f12⟩
 obtain ⟨K13, S14, m15⟩ := Ent.mixed (l := [(2, 2)]) (κ := K2) e9 4 rfl
 refine ⟨trivial, ?_⟩
 have f17 := f10.mx (no_int _) m15 rfl (rfl : 4 + 3 = 7)
 have f18 := f11.mx (no_own (no_int _) _) m15 rfl (rfl : 4 + 4 = 8)
 have f19 := f12.mx m15 rfl (rfl : 4 + 2 = 6)
 refine WO.k2 rfl rfl rfl rfl (rn_build (parts := [(0, .tmp 7)]) (cells := [.slice a7_0 x7.1.Owner.length u7_0, .slice a7_1 x7.1.Next.length u7_1, .slice none 0 0]) rfl rfl (by kernel_rfl)) ?_
 refine WO.alloc (κ := K13) 9 rfl rfl rfl rfl rfl Tryd.zeroValue66 rfl fun b3 w20 K21 S22 f23 => ⟨trivial, ?_⟩
 refine WO.stB0 (κ := K21) 9 (vc := [.slice a7_0 x7.1.Owner.length u7_0, .slice a7_1 x7.1.Next.length u7_1, .slice none 0 0]) rfl rfl rfl rfl rfl rfl rfl Tryd.sizeOf66 rfl rfl f23 rfl fun w24 S25 f26 => ⟨trivial, ?_⟩
 refine WO.fin ?_
 refine DN.seq ?_
 refine WC.seq ?_
 refine WC.rs [(0, 2), (1, 1), (2, 2), (3, 2)] rfl ?_
 refine WO.pn 1 rfl ?_
 obtain ⟨x10, hx10, h⟩ := Option.bind_eq_some_iff.mp h
 have f27 := f5.stp (S14.tr (S22.tr S25)) rfl rfl
 have f28 := f19.stp (S22.tr S25) rfl rfl
 refine WO.call rfl rfl rfl rfl rfl rfl Tryd.call35 (s_l1Below_ok (κ := fun b => mp [(6, 2)] 0 (K21 b)) (p0 := (⟨p0.b, x7.2.1, x7.2.2⟩ : l1Cur)) (Sl.map f27 (mp [(6, 2)] 0) rfl rfl) (f28.map (mp [(6, 2)] 0) rfl rfl) hx10) ?_
 rintro _ w29 ⟨k30, rfl, e31, f32⟩
 obtain ⟨K33, S34, m35⟩ := Ent.mixed (l := [(6, 2)]) (κ := K21) e31 10 rfl
 refine ⟨trivial, ?_⟩
 have f37 := f32.mx m35 rfl (rfl : 10 + 2 = 12)
 refine WO.pn 2 rfl ?_
 refine WO.fin ?_
 refine DN.seq ?_
 refine WC.seq ?_
 refine WC.seq ?_
 refine WC.rs [(0, 2)] rfl ?_
 refine WO.pn 1 rfl ?_
 refine WO.fin ?_
 refine DN.seq ?_
 have hN38 : (x7.1.Owner.length : Int) ≤ 9223372036854775807 := f17.len_le
 obtain ⟨q2, hq40, hK39⟩ := Option.bind_eq_some_iff.mp h
 clear h
 refine WC.meet (fun L w' => ∃ (κ' : Col) (s3 : Int × Int × (List Int)) (las3_0 : Option Addr) (lus3_0 : Nat), L = [(0, .pointer (some ⟨b0, 0, none⟩)), (2, .pointer (some ⟨b2, 0, none⟩)), (3, .pointer (some ⟨b3, 0, none⟩))] ∧ Stp [9, 12, 13, 16] K33 w29 κ' w' ∧ Oc (Ep.int .i64) 2 κ' w' 13 las3_0 lus3_0 s3.2.2 ∧ Bc κ' w' 12 b0 96 [.slice a0_0 p0.b.length u0_0, .int .i64 s3.1, .int .i64 s3.2.1] ∧ Bc κ' w' 9 b3 66 [.slice a7_0 x7.1.Owner.length u7_0, .slice a7_1 x7.1.Next.length u7_1, .slice las3_0 s3.2.2.length lus3_0] ∧ q2 = Sum.inr s3) ?_ ?_
 ·
  refine WC.block ?_
  have f53 := f26.stp S34 rfl rfl
  refine WC.loop (fun k L w' => ∃ (κ' : Col) (v5 : Int) (s1 : Int × Int × (List Int)) (las1_0 : Option Addr) (lus1_0 : Nat), L = [(0, .pointer (some ⟨b0, 0, none⟩)), (2, .pointer (some ⟨b2, 0, none⟩)), (3, .pointer (some ⟨b3, 0, none⟩)), (4, .int .i64 (IntKind.i64.wrap (3 + x10.1))), (5, .int .i64 v5)] ∧ Stp [9, 12, 13, 16] K33 w29 κ' w' ∧ Oc (Ep.int .i64) 2 κ' w' 13 las1_0 lus1_0 s1.2.2 ∧ Bc κ' w' 12 b0 96 [.slice a0_0 p0.b.length u0_0, .int .i64 s1.1, .int .i64 s1.2.1] ∧ Bc κ' w' 9 b3 66 [.slice a7_0 x7.1.Owner.length u7_0, .slice a7_1 x7.1.Next.length u7_1, .slice las1_0 s1.2.2.length lus1_0] ∧ 0 ≤ v5 ∧ Int.toNat ((x7.1.Owner.length : Int) - v5) = k ∧ cntM (s_l4Draw_b0 p0 x10) k v5 s1 = some q2) ⟨_, _, ⟨K33, 0, ((x10.2.1 : Int), (x10.2.2 : Int), (([] : List Int) : (List Int))), none, 0, rfl, (Stp.refl _ _).wk rfl, Ow.nil, f37, f53, (by decide), (by simp), hq40⟩, fun a ha => (ha.more (ha.more (ha.more (ha.more (ha.more ha.nil rfl) rfl) rfl) rfl) rfl)⟩ ?_
  rintro k _ w47 ⟨K48, v5, s1, las1_0, lus1_0, rfl, S49, f50, f51, f52, hj38, hJ38, h⟩
  rcases k with _ | k
  ·
   have hk54 := h; obtain ⟨o38, h⟩ := ex_eq (Sum.inr (Sum.inl s1) : (Parity × Int × Int) ⊕ ((Int × Int × (List Int)) ⊕ (Int × Int × (List Int))))
   have hc38 : decide (v5 < (x7.1.Owner.length : Int)) = false := decide_eq_false (by omega)
   refine WC.seq ?_
   refine WC.seq ?_
   refine WC.rs [(0, 2), (1, 2), (2, 2), (3, 1), (4, 2), (5, 2)] rfl ?_
   refine WO.pn 1 rfl ?_
   refine WO.k2 rfl rfl rfl rfl (rn_fieldAddr Tryd.runUnderlying66 rfl Tryd.sizeOf64 rfl rfl) ?_
   refine WO.k2 rfl rfl rfl rfl (rn_fieldAddr Tryd.runUnderlying64 rfl Tryd.sizeOf60 rfl rfl) ?_
   refine WO.k1 trivial rfl rfl rfl rfl (rn_ld Tryd.isAgg60 rfl rfl (hvE (f52.ld 0 rfl rfl))) ?_
   refine WO.k2 rfl rfl rfl rfl (rn_len Tryd.runUnderlying60 rfl rfl) ?_
   refine WO.pn 1 rfl ?_
   refine WO.fin ?_
   refine DN.seq ?_
   refine WC.cf' rfl hc38 ?_
   refine WC.exit ?_
   refine DN.exitThen ?_
   refine DN.exitThen ?_
   obtain rfl := Option.some.inj h
   have h := hk54
   refine DN.hit ?_
   obtain rfl := Option.some.inj h
   exact DN.meet _ ⟨K48, ((s1.1 : Int), (s1.2.1 : Int), (s1.2.2 : (List Int))), las1_0, lus1_0, rfl, S49.wk rfl, f50, f51, f52, rfl⟩ fun a ha => (ha.more (ha.more (ha.more ha.nil rfl) rfl) rfl)
  ·
   obtain ⟨o38, h, hk54⟩ := Option.bind_eq_some_iff.mp h; unfold s_l4Draw_b0 at h
   have hc38 : decide (v5 < (x7.1.Owner.length : Int)) = true := decide_eq_true (by omega)
   refine WC.seq ?_
   refine WC.seq ?_
   refine WC.rs [(0, 2), (1, 2), (2, 2), (3, 1), (4, 2), (5, 2)] rfl ?_
   refine WO.pn 1 rfl ?_
   refine WO.k2 rfl rfl rfl rfl (rn_fieldAddr Tryd.runUnderlying66 rfl Tryd.sizeOf64 rfl rfl) ?_
   refine WO.k2 rfl rfl rfl rfl (rn_fieldAddr Tryd.runUnderlying64 rfl Tryd.sizeOf60 rfl rfl) ?_
   refine WO.k1 trivial rfl rfl rfl rfl (rn_ld Tryd.isAgg60 rfl rfl (hvE (f52.ld 0 rfl rfl))) ?_
   refine WO.k2 rfl rfl rfl rfl (rn_len Tryd.runUnderlying60 rfl rfl) ?_
   refine WO.pn 1 rfl ?_
   refine WO.fin ?_
   refine DN.seq ?_
   refine WC.ct' rfl hc38 ?_
   refine WC.skip ?_
   refine DN.seq ?_
   refine WC.seq ?_
   refine WC.block ?_
   refine WC.rx (κ := K48) [9] (some 8) [(0, 2), (2, 2), (3, 2), (1, 0), (4, 1), (5, 1), (6, 1), (7, 2)] [(8, 1)] (by kernel_rfl) (by kernel_rfl) fun w56 S55 => ?_
   refine WO.k2 rfl rfl rfl rfl (rn_fieldAddr Tryd.runUnderlying66 rfl Tryd.sizeOf60 rfl rfl) ?_
   refine WO.pn 2 rfl ?_
   have f57 := f52.stp S55 rfl rfl
   refine WO.k0 rfl rfl rfl rfl (rn_ld Tryd.isAgg60 rfl rfl (hvC (f57.ld 2 rfl rfl) rfl)) ?_
   obtain ⟨x24, hx24, h⟩ := Option.bind_eq_some_iff.mp h
   have f58 := f27.stp (S34.tr (S49.tr S55)) rfl rfl
   have f59 := f51.stp S55 rfl rfl
   refine WO.call rfl rfl rfl rfl rfl rfl Tryd.call35 (s_l1Below_ok (κ := fun b => mp [(12, 2)] 0 (K48 b)) (p0 := (⟨p0.b, s1.1, s1.2.1⟩ : l1Cur)) (Sl.map f58 (mp [(12, 2)] 0) rfl rfl) (f59.map (mp [(12, 2)] 0) rfl rfl) hx24) ?_
   rintro _ w60 ⟨k61, rfl, e62, f63⟩
   obtain ⟨K64, S65, m66⟩ := Ent.mixed (l := [(12, 2)]) (κ := K48) e62 14 rfl
   refine ⟨(S65.cl rfl), ?_⟩
   have f68 := f63.mx m66 rfl (rfl : 14 + 2 = 16)
   refine WO.bl (κ := K64) (E := (Ep.int .i64)) 17 [] (parts := [(0, .tmp 24)]) (cells := [.int .i64 x24.1]) (xs := ([x24.1] : List Int)) rfl rfl rfl rfl rfl rfl Tryd.underlying60 Trydinfo2 rfl rfl rfl rfl rfl rfl rfl rfl rfl rfl ⟨[.int .i64 x24.1], [], Zl K64 w60 [], Zl K64 w60 [], rfl, Zl.sp (l1 := []) (l2 := []) rfl, Zl.sr (l1 := []) (l2 := []), rfl, rfl⟩ fun a25 u25 w69 K70 S71 f72 => ⟨((S65.tr S71).cl rfl), ?_⟩
   obtain ⟨x26, hx26, h⟩ := Option.bind_eq_some_iff.mp h
   have f73 := f50.stp (S55.tr (S65.tr S71)) rfl rfl
   refine WO.app (κ := K70) (E := (Ep.int .i64)) 13 [] rfl rfl rfl rfl rfl rfl rfl rfl rfl Tryd.underlying60 Trydinfo2 rfl rfl rfl rfl f73 (Sl.srcP (pu_int _) f72.rdc) sy_false hx26 rfl fun a26 u26 w74 K75 S76 f77 => ⟨((S65.tr (S71.tr S76)).cl rfl), ?_⟩
   refine WO.k2 rfl rfl rfl rfl (rn_fieldAddr Tryd.runUnderlying66 rfl Tryd.sizeOf60 rfl rfl) ?_
   refine WO.nx ?_
   have f78 := f57.stp (S65.tr (S71.tr S76)) rfl rfl
   refine WO.stB (κ := K75) 9 (off := 2) (vc := [.slice a26 x26.length u26]) (cs' := [.slice a7_0 x7.1.Owner.length u7_0, .slice a7_1 x7.1.Next.length u7_1, .slice a26 x26.length u26]) rfl rfl rfl rfl rfl rfl rfl Tryd.sizeOf60 rfl rfl f78 rfl rfl fun w79 S80 f81 => ⟨trivial, ?_⟩
   refine WO.fin ?_
   refine DN.block ?_
   refine DN.seq ?_
   refine WC.rs [(0, 2), (1, 2), (2, 2)] rfl ?_
   refine WO.pn 3 rfl ?_
   refine WO.fin ?_
   have hw38 : IntKind.wrap .i64 (v5 + 1) = v5 + 1 := wr1 hj38 (of_decide_eq_true hc38) hN38
   rw [hw38]
   have hc38 := of_decide_eq_true hc38
   have f82 := f77.stp S80 rfl rfl
   have f83 := f68.stp (S71.tr (S76.tr S80)) rfl rfl
   obtain rfl := Option.some.inj h
   refine DN.round fun a ha => ?_
   exact ⟨k, _, Nat.lt_succ_self _, ⟨(fun b => ren [(16, 12)] (K75 b)), v5 + 1, ((x24.2.1 : Int), (x24.2.2 : Int), (x26 : (List Int))), a26, u26, rfl, (Stp.ren ((S49.tr (S55.tr (S65.tr (S71.tr (S76.tr S80))))).wk rfl) [(16, 12)] rfl), (f82.map (ren [(16, 12)]) rfl rfl), (f83.map (ren [(16, 12)]) rfl rfl), (f81.map (ren [(16, 12)]) rfl rfl), by omega, by omega, hk54⟩, (ha.more (ha.more (ha.more (ha.more (ha.more ha.nil rfl) rfl) rfl) rfl) rfl)⟩
 rintro _ w41 ⟨K42, s3, las3_0, lus3_0, rfl, S43, f44, f45, f46, rfl⟩
 have h := hK39
 dsimp only [aft] at h
 refine DN.seq ?_
 refine WC.seq ?_
 refine WC.rs [(0, 1), (1, 1)] rfl ?_
 refine WO.k1 trivial rfl rfl rfl rfl (rn_la (cs := [.slice a7_0 x7.1.Owner.length u7_0, .slice a7_1 x7.1.Next.length u7_1, .slice las3_0 s3.2.2.length lus3_0]) Tryd.isAgg66 Tryd.sizeOf66 rfl rfl rfl (haE f46.cells)) ?_
 have f84 := f4.stp (S14.tr (S22.tr (S25.tr (S34.tr S43)))) rfl rfl
 refine WO.stB0 (κ := K42) 3 (vc := [.slice a7_0 x7.1.Owner.length u7_0, .slice a7_1 x7.1.Next.length u7_1, .slice las3_0 s3.2.2.length lus3_0]) rfl rfl rfl rfl rfl rfl rfl Tryd.sizeOf66 rfl rfl f84 rfl fun w85 S86 f87 => ⟨trivial, ?_⟩
 refine WO.fin ?_
 refine DN.seq ?_
 refine WC.ret ?_
 have f88 := hE.stp (S3.tr (S14.tr (S22.tr (S25.tr (S34.tr (S43.tr S86)))))) rfl rfl
 have f89 := f17.stp (S22.tr (S25.tr (S34.tr (S43.tr S86)))) rfl rfl
 have f90 := f18.stp (S22.tr (S25.tr (S34.tr (S43.tr S86)))) rfl rfl
 have f91 := f44.stp S86 rfl rfl
 have f92 := f45.stp S86 rfl rfl
 refine DN.res (l := [.cell 2 66]) Tryd.results79 (res_cellA rfl f87 Tryd.isAgg66 Tryd.sizeOf66 rfl rfl) rfl ?_
 obtain rfl := Option.some.inj h
 exact ⟨(fun b => ren [(7, 3), (8, 4), (13, 5), (12, 2)] (K42 b)), a7_0, u7_0, a7_1, u7_1, las3_0, lus3_0, rfl, (f88.map (ren [(7, 3), (8, 4), (13, 5), (12, 2)]) rfl rfl), (f89.map (ren [(7, 3), (8, 4), (13, 5), (12, 2)]) rfl rfl), (f90.map (ren [(7, 3), (8, 4), (13, 5), (12, 2)]) rfl rfl), (f91.map (ren [(7, 3), (8, 4), (13, 5), (12, 2)]) rfl rfl), (f92.map (ren [(7, 3), (8, 4), (13, 5), (12, 2)]) rfl rfl)⟩

/- loop.example/g00869/impl.EditText -/
theorem i_EditText_ok {w : World} {κ : Col} {p0 : Edit} (gGE0 : Rd Rp.str κ w 0 (some ⟨0, 0, none⟩) 4 namesE0) (gGT : Tb Tryd.prog "internal/strconv.uint64pow10" .u64 Lib.pow10Tab κ w) {r : ByteArray} (h : i_EditText p0 = some r) : Ret Tryd.prog 11 [.agg #[.int .i64 p0.Kind, .int .i64 p0.V, .int .i64 p0.N]] w (fun v w' => ∃ (κ' : Col), v = .string r ∧ Ent κ w κ' w') := by
 unfold i_EditText at h
 refine Ret.enter Tryd.func11 rfl Tryd.ntmps11 rfl ?_
 dsimp only [envOf]
 have hE := Ent.refl κ w
 refine WC.seq ?_
 refine WC.rs [(0, 1), (1, 2)] rfl ?_
 refine WO.box (κ := κ) 2 rfl rfl rfl rfl rfl rfl rfl fun b1 w1 K2 S3 f4 => ⟨trivial, ?_⟩
 refine WO.pn 1 rfl ?_
 refine WO.fin ?_
 refine DN.seq ?_
 refine WC.seq ?_
 refine WC.seq ?_
 refine WC.rs [(0, 2), (1, 1), (2, 2), (3, 2), (4, 2), (5, 1), (6, 2), (7, 2), (8, 2), (9, 2), (10, 1), (11, 2), (12, 2), (13, 2), (14, 2), (15, 1), (16, 2), (17, 2), (18, 2), (19, 2), (20, 1), (21, 2), (22, 2), (23, 2), (24, 2), (25, 1), (26, 2), (27, 2)] rfl ?_
 refine WO.k2 rfl rfl rfl rfl (rn_fieldAddr Tryd.runUnderlying25 rfl Tryd.sizeOf2 rfl rfl) ?_
 refine WO.k1 trivial rfl rfl rfl rfl (rn_ld Tryd.isAgg2 rfl rfl (hvE (f4.ld 0 rfl rfl))) ?_
 refine WO.pn 2 rfl ?_
 obtain ⟨p10, h, hK5⟩ := Option.bind_eq_some_iff.mp h
 refine WO.meet [(4, 2), (5, 1), (6, 2), (7, 2)] [(8, 2), (9, 2), (10, 1), (11, 2), (12, 2), (13, 2), (14, 2), (15, 1), (16, 2), (17, 2), (18, 2), (19, 2), (20, 1), (21, 2), (22, 2), (23, 2), (24, 2), (25, 1), (26, 2), (27, 2)] (fun L w' => L = [(1, .pointer (some ⟨b1, 0, none⟩)), (10, .bool p10)] ∧ ∃ κ', Stp [] K2 w1 κ' w') trivial ?_ ?_
 ·
  revert h
  cases ht6 : decide (p0.Kind < 1) with
  | true =>
   intro h; replace h := cT h
   refine WO.pn 1 rfl ?_
   refine WO.ls rfl rfl rfl rfl ?_
   refine WO.pn 2 rfl ?_
   obtain rfl := Option.some.inj h
   exact WO.met _ trivial ⟨rfl, _, (Stp.refl _ _).wk rfl⟩ fun a ha => (ha.more (ha.more ha.nil rfl) rfl)
  | false =>
   intro h; replace h := cF h
   refine WO.k2 rfl rfl rfl rfl (rn_fieldAddr Tryd.runUnderlying25 rfl Tryd.sizeOf2 rfl rfl) ?_
   refine WO.k1 trivial rfl rfl rfl rfl (rn_ld Tryd.isAgg2 rfl rfl (hvE (f4.ld 0 rfl rfl))) ?_
   refine WO.pn 2 rfl ?_
   obtain rfl := Option.some.inj h
   exact WO.met _ trivial ⟨rfl, _, (Stp.refl _ _).wk rfl⟩ fun a ha => (ha.more (ha.more ha.nil rfl) rfl)
 rintro _ w7 _ ⟨rfl, K8, S9⟩
 have h := hK5
 refine WO.pn 1 rfl ?_
 obtain ⟨p15, h, hK10⟩ := Option.bind_eq_some_iff.mp h
 refine WO.meet [(9, 2), (10, 1), (11, 2), (12, 2)] [(13, 2), (14, 2), (15, 1), (16, 2), (17, 2), (18, 2), (19, 2), (20, 1), (21, 2), (22, 2), (23, 2), (24, 2), (25, 1), (26, 2), (27, 2)] (fun L w' => L = [(1, .pointer (some ⟨b1, 0, none⟩)), (15, .bool p15)] ∧ ∃ κ', Stp [] K8 w7 κ' w') trivial ?_ ?_
 ·
  revert h
  cases ht11 : p10 with
  | true =>
   intro h; replace h := cT h
   refine WO.pn 1 rfl ?_
   refine WO.ls rfl rfl rfl rfl ?_
   refine WO.pn 2 rfl ?_
   obtain rfl := Option.some.inj h
   exact WO.met _ trivial ⟨rfl, _, (Stp.refl _ _).wk rfl⟩ fun a ha => (ha.more (ha.more ha.nil rfl) rfl)
  | false =>
   intro h; replace h := cF h
   refine WO.k2 rfl rfl rfl rfl (rn_fieldAddr Tryd.runUnderlying25 rfl Tryd.sizeOf2 rfl rfl) ?_
   have f12 := f4.stp S9 rfl rfl
   refine WO.k1 trivial rfl rfl rfl rfl (rn_ld Tryd.isAgg2 rfl rfl (hvE (f12.ld 1 rfl rfl))) ?_
   refine WO.pn 2 rfl ?_
   obtain rfl := Option.some.inj h
   exact WO.met _ trivial ⟨rfl, _, (Stp.refl _ _).wk rfl⟩ fun a ha => (ha.more (ha.more ha.nil rfl) rfl)
 rintro _ w13 _ ⟨rfl, K14, S15⟩
 have h := hK10
 refine WO.pn 1 rfl ?_
 obtain ⟨p20, h, hK16⟩ := Option.bind_eq_some_iff.mp h
 refine WO.meet [(14, 2), (15, 1), (16, 2), (17, 2)] [(18, 2), (19, 2), (20, 1), (21, 2), (22, 2), (23, 2), (24, 2), (25, 1), (26, 2), (27, 2)] (fun L w' => L = [(1, .pointer (some ⟨b1, 0, none⟩)), (20, .bool p20)] ∧ ∃ κ', Stp [] K14 w13 κ' w') trivial ?_ ?_
 ·
  revert h
  cases ht17 : p15 with
  | true =>
   intro h; replace h := cT h
   refine WO.pn 1 rfl ?_
   refine WO.ls rfl rfl rfl rfl ?_
   refine WO.pn 2 rfl ?_
   obtain rfl := Option.some.inj h
   exact WO.met _ trivial ⟨rfl, _, (Stp.refl _ _).wk rfl⟩ fun a ha => (ha.more (ha.more ha.nil rfl) rfl)
  | false =>
   intro h; replace h := cF h
   refine WO.k2 rfl rfl rfl rfl (rn_fieldAddr Tryd.runUnderlying25 rfl Tryd.sizeOf2 rfl rfl) ?_
   have f18 := f4.stp (S9.tr S15) rfl rfl
   refine WO.k1 trivial rfl rfl rfl rfl (rn_ld Tryd.isAgg2 rfl rfl (hvE (f18.ld 1 rfl rfl))) ?_
   refine WO.pn 2 rfl ?_
   obtain rfl := Option.some.inj h
   exact WO.met _ trivial ⟨rfl, _, (Stp.refl _ _).wk rfl⟩ fun a ha => (ha.more (ha.more ha.nil rfl) rfl)
 rintro _ w19 _ ⟨rfl, K20, S21⟩
 have h := hK16
 refine WO.pn 1 rfl ?_
 obtain ⟨p25, h, hK22⟩ := Option.bind_eq_some_iff.mp h
 refine WO.meet [(19, 2), (20, 1), (21, 2), (22, 2)] [(23, 2), (24, 2), (25, 1), (26, 2), (27, 2)] (fun L w' => L = [(1, .pointer (some ⟨b1, 0, none⟩)), (25, .bool p25)] ∧ ∃ κ', Stp [] K20 w19 κ' w') trivial ?_ ?_
 ·
  revert h
  cases ht23 : p20 with
  | true =>
   intro h; replace h := cT h
   refine WO.pn 1 rfl ?_
   refine WO.ls rfl rfl rfl rfl ?_
   refine WO.pn 2 rfl ?_
   obtain rfl := Option.some.inj h
   exact WO.met _ trivial ⟨rfl, _, (Stp.refl _ _).wk rfl⟩ fun a ha => (ha.more (ha.more ha.nil rfl) rfl)
  | false =>
   intro h; replace h := cF h
   refine WO.k2 rfl rfl rfl rfl (rn_fieldAddr Tryd.runUnderlying25 rfl Tryd.sizeOf2 rfl rfl) ?_
   have f24 := f4.stp (S9.tr (S15.tr S21)) rfl rfl
   refine WO.k1 trivial rfl rfl rfl rfl (rn_ld Tryd.isAgg2 rfl rfl (hvE (f24.ld 2 rfl rfl))) ?_
   refine WO.pn 2 rfl ?_
   obtain rfl := Option.some.inj h
   exact WO.met _ trivial ⟨rfl, _, (Stp.refl _ _).wk rfl⟩ fun a ha => (ha.more (ha.more ha.nil rfl) rfl)
 rintro _ w25 _ ⟨rfl, K26, S27⟩
 have h := hK22
 refine WO.pn 1 rfl ?_
 obtain ⟨p30, h, hK28⟩ := Option.bind_eq_some_iff.mp h
 refine WO.meet [(24, 2), (25, 1), (26, 2), (27, 2)] [] (fun L w' => L = [(1, .pointer (some ⟨b1, 0, none⟩)), (30, .bool p30)] ∧ ∃ κ', Stp [] K26 w25 κ' w') trivial ?_ ?_
 ·
  revert h
  cases ht29 : p25 with
  | true =>
   intro h; replace h := cT h
   refine WO.pn 1 rfl ?_
   refine WO.ls rfl rfl rfl rfl ?_
   refine WO.pn 2 rfl ?_
   obtain rfl := Option.some.inj h
   exact WO.met _ trivial ⟨rfl, _, (Stp.refl _ _).wk rfl⟩ fun a ha => (ha.more (ha.more ha.nil rfl) rfl)
  | false =>
   intro h; replace h := cF h
   refine WO.k2 rfl rfl rfl rfl (rn_fieldAddr Tryd.runUnderlying25 rfl Tryd.sizeOf2 rfl rfl) ?_
   have f30 := f4.stp (S9.tr (S15.tr (S21.tr S27))) rfl rfl
   refine WO.k1 trivial rfl rfl rfl rfl (rn_ld Tryd.isAgg2 rfl rfl (hvE (f30.ld 2 rfl rfl))) ?_
   refine WO.pn 2 rfl ?_
   obtain rfl := Option.some.inj h
   exact WO.met _ trivial ⟨rfl, _, (Stp.refl _ _).wk rfl⟩ fun a ha => (ha.more (ha.more ha.nil rfl) rfl)
 rintro _ w31 _ ⟨rfl, K32, S33⟩
 have h := hK28
 refine WO.fin ?_
 refine DN.seq ?_
 revert h
 cases ht34 : p30 with
 | true =>
  intro h; replace h := cT h
  refine WC.ct rfl ?_
  refine WC.seq ?_
  refine WC.rs [(0, 2)] rfl ?_
  refine WO.pn 1 rfl ?_
  refine WO.fin ?_
  refine DN.seq ?_
  refine WC.ret ?_
  refine DN.retThen ?_
  have f35 := hE.stp (S3.tr (S9.tr (S15.tr (S21.tr (S27.tr S33))))) rfl rfl
  refine DN.res (l := [.tmp 2]) Tryd.results11 (res_tmp rfl rfl) rfl ?_
  obtain rfl := Option.some.inj h
  exact ⟨K32, rfl, f35⟩
 | false =>
  intro h; replace h := cF h
  refine WC.cf rfl ?_
  refine WC.skip ?_
  refine DN.seq ?_
  refine WC.seq ?_
  refine WC.rx (κ := K32) [0, 2] none [(0, 2), (6, 2), (11, 2), (1, 0), (2, 2), (3, 2), (4, 0), (5, 2), (7, 0), (12, 0), (8, 1), (9, 2), (10, 2), (13, 1), (14, 2), (15, 2)] [] (by kernel_rfl) (by kernel_rfl) fun w37 S36 => ?_
  refine WO.k2 rfl rfl rfl rfl (rn_fieldAddr Tryd.runUnderlying25 rfl Tryd.sizeOf2 rfl rfl) ?_
  refine WO.k2 rfl rfl rfl rfl (rn_fieldAddr Tryd.runUnderlying25 rfl Tryd.sizeOf2 rfl rfl) ?_
  refine WO.k2 rfl rfl rfl rfl (rn_fieldAddr Tryd.runUnderlying25 rfl Tryd.sizeOf2 rfl rfl) ?_
  have f38 := f4.stp (S9.tr (S15.tr (S21.tr (S27.tr (S33.tr S36))))) rfl rfl
  refine WO.k0 rfl rfl rfl rfl (rn_ld Tryd.isAgg2 rfl rfl (hvC (f38.ld 0 rfl rfl) rfl)) ?_
  refine WO.pn 1 rfl ?_
  obtain ⟨x34, hx34, h⟩ := Option.bind_eq_some_iff.mp h
  refine WO.k2 rfl rfl rfl rfl (rn_indexG hx34 rfl Tryd.runUnderlying71 Tryd.sizeOf9 rfl rfl rfl) ?_
  have f39 := gGE0.stp (S3.tr (S9.tr (S15.tr (S21.tr (S27.tr (S33.tr S36)))))) rfl rfl
  refine WO.k0 rfl rfl rfl rfl (rn_ld Tryd.isAgg9 rfl rfl (hvC (f39.gStr hx34) rfl)) ?_
  obtain ⟨x36, hx36, h⟩ := Option.bind_eq_some_iff.mp h
  refine WO.k2 rfl rfl rfl rfl (rn_addS rfl rfl rfl hx36) ?_
  refine WO.k0 rfl rfl rfl rfl (rn_ld Tryd.isAgg2 rfl rfl (hvC (f38.ld 1 rfl rfl) rfl)) ?_
  refine WO.k0 rfl rfl rfl rfl (rn_ld Tryd.isAgg2 rfl rfl (hvC (f38.ld 2 rfl rfl) rfl)) ?_
  obtain ⟨x39, hx39, h⟩ := Option.bind_eq_some_iff.mp h
  have f40 := gGT.stp (S3.tr (S9.tr (S15.tr (S21.tr (S27.tr (S33.tr S36)))))) rfl rfl
  refine WO.call rfl rfl rfl rfl rfl rfl Tryd.call36 (i_decimal_ok (κ := fun b => mp [] 0 (K32 b)) (f40.map (mp [] 0) rfl rfl) hx39) ?_
  rintro _ w41 ⟨k42, rfl, e43⟩
  obtain ⟨K44, S45, m46⟩ := Ent.mixed (l := []) (κ := K32) e43 3 rfl
  refine ⟨(S45.cl rfl), ?_⟩
  obtain ⟨x40, hx40, h⟩ := Option.bind_eq_some_iff.mp h
  refine WO.k2 rfl rfl rfl rfl (rn_addS rfl rfl rfl hx40) ?_
  obtain ⟨x41, hx41, h⟩ := Option.bind_eq_some_iff.mp h
  refine WO.k2 rfl rfl rfl rfl (rn_addS rfl rfl rfl hx41) ?_
  obtain ⟨x44, hx44, h⟩ := Option.bind_eq_some_iff.mp h
  have f48 := f40.stp S45 rfl rfl
  refine WO.call rfl rfl rfl rfl rfl rfl Tryd.call36 (i_decimal_ok (κ := fun b => mp [] 0 (K44 b)) (f48.map (mp [] 0) rfl rfl) hx44) ?_
  rintro _ w49 ⟨k50, rfl, e51⟩
  obtain ⟨K52, S53, m54⟩ := Ent.mixed (l := []) (κ := K44) e51 5 rfl
  refine ⟨((S45.tr S53).cl rfl), ?_⟩
  obtain ⟨x45, hx45, h⟩ := Option.bind_eq_some_iff.mp h
  refine WO.k2 rfl rfl rfl rfl (rn_addS rfl rfl rfl hx45) ?_
  refine WO.pn 1 rfl ?_
  refine WO.nx ?_
  refine WO.fin ?_
  refine DN.seq ?_
  refine WC.ret ?_
  have f56 := hE.stp (S3.tr (S9.tr (S15.tr (S21.tr (S27.tr (S33.tr (S36.tr (S45.tr S53)))))))) rfl rfl
  refine DN.res (l := [.tmp 2]) Tryd.results11 (res_tmp rfl rfl) rfl ?_
  obtain rfl := Option.some.inj h
  exact ⟨K52, rfl, f56⟩

/- loop.example/g00869/spec.TextEdit -/
theorem s_TextEdit_ok {w : World} {κ : Col} {p0 : ByteArray}  {r : Edit × Bool} (h : s_TextEdit p0 = some r) : Ret Tryd.prog 21 [.string p0] w (fun v w' => ∃ (κ' : Col), v = .tuple #[.agg #[.int .i64 r.1.Kind, .int .i64 r.1.V, .int .i64 r.1.N], .bool r.2] ∧ Ent κ w κ' w') := by
 unfold s_TextEdit at h
 refine Ret.enter Tryd.func21 rfl Tryd.ntmps21 rfl ?_
 dsimp only [envOf]
 have hE := Ent.refl κ w
 refine WC.seq ?_
 refine WC.rs [(0, 1), (1, 2)] rfl ?_
 refine WO.alloc (κ := κ) 2 rfl rfl rfl rfl rfl Tryd.zeroValue25 rfl fun b2 w1 K2 S3 f4 => ⟨trivial, ?_⟩
 refine WO.pn 1 rfl ?_
 refine WO.fin ?_
 refine DN.seq ?_
 refine WC.seq ?_
 refine WC.seq ?_
 refine WC.rs [(0, 2), (1, 2), (2, 2)] rfl ?_
 refine WO.pn 1 rfl ?_
 refine WO.k2 rfl rfl rfl rfl (rn_lenS Tryd.runUnderlying9 rfl rfl) ?_
 refine WO.pn 1 rfl ?_
 refine WO.fin ?_
 refine DN.seq ?_
 revert h
 cases ht5 : decide (20 < (p0.size : Int)) with
 | true =>
  intro h; replace h := cT h
  refine WC.ct rfl ?_
  refine WC.seq ?_
  refine WC.rs [(0, 2), (1, 1), (2, 2)] rfl ?_
  refine WO.k2 rfl rfl rfl rfl (rn_build (parts := []) (cells := [.int .i64 0, .int .i64 0, .int .i64 0]) rfl rfl (by kernel_rfl)) ?_
  refine WO.stB0 (κ := K2) 2 (vc := [.int .i64 0, .int .i64 0, .int .i64 0]) rfl rfl rfl rfl rfl rfl rfl Tryd.sizeOf25 rfl rfl f4 rfl fun w6 S7 f8 => ⟨trivial, ?_⟩
  refine WO.pn 1 rfl ?_
  refine WO.fin ?_
  refine DN.seq ?_
  refine WC.ret ?_
  refine DN.retThen ?_
  have f9 := hE.stp (S3.tr S7) rfl rfl
  refine DN.res (l := [.cell 2 25, .tmp 3]) Tryd.results21 (res_cellA rfl f8 Tryd.isAgg25 Tryd.sizeOf25 rfl (res_tmp rfl rfl)) rfl ?_
  obtain rfl := Option.some.inj h
  exact ⟨K2, rfl, f9⟩
 | false =>
  intro h; replace h := cF h
  refine WC.cf rfl ?_
  refine WC.skip ?_
  refine DN.seq ?_
  refine WC.seq ?_
  refine WC.rs [(0, 2), (1, 1), (2, 2)] rfl ?_
  refine WO.pn 1 rfl ?_
  obtain ⟨x16, hx16, h⟩ := Option.bind_eq_some_iff.mp h
  refine WO.call rfl rfl rfl rfl rfl rfl Tryd.call51 (s_l1Split_ok (κ := fun b => mp [] 0 (K2 b)) hx16) ?_
  rintro _ w10 ⟨k11, a16_0, u16_0, rfl, e12, f13⟩
  obtain ⟨K14, S15, m16⟩ := Ent.mixed (l := []) (κ := K2) e12 3 rfl
  refine ⟨trivial, ?_⟩
  have f18 := f13.mx no_str m16 rfl (rfl : 3 + 2 = 5)
  refine WO.pn 1 rfl ?_
  refine WO.fin ?_
  refine DN.seq ?_
  refine WC.seq ?_
  refine WC.seq ?_
  refine WC.rs [(0, 2), (1, 2), (2, 2)] rfl ?_
  refine WO.pn 1 rfl ?_
  refine WO.k2 rfl rfl rfl rfl (rn_len Tryd.runUnderlying57 rfl rfl) ?_
  refine WO.pn 1 rfl ?_
  refine WO.fin ?_
  refine DN.seq ?_
  revert h
  cases ht19 : ((x16.length : Int) != 3) with
  | true =>
   intro h; replace h := cT h
   refine WC.ct rfl ?_
   refine WC.seq ?_
   refine WC.rs [(0, 2), (1, 1), (2, 2)] rfl ?_
   refine WO.k2 rfl rfl rfl rfl (rn_build (parts := []) (cells := [.int .i64 0, .int .i64 0, .int .i64 0]) rfl rfl (by kernel_rfl)) ?_
   have f20 := f4.stp S15 rfl rfl
   refine WO.stB0 (κ := K14) 2 (vc := [.int .i64 0, .int .i64 0, .int .i64 0]) rfl rfl rfl rfl rfl rfl rfl Tryd.sizeOf25 rfl rfl f20 rfl fun w21 S22 f23 => ⟨trivial, ?_⟩
   refine WO.pn 1 rfl ?_
   refine WO.fin ?_
   refine DN.seq ?_
   refine WC.ret ?_
   refine DN.retThen ?_
   have f24 := hE.stp (S3.tr (S15.tr S22)) rfl rfl
   refine DN.res (l := [.cell 2 25, .tmp 3]) Tryd.results21 (res_cellA rfl f23 Tryd.isAgg25 Tryd.sizeOf25 rfl (res_tmp rfl rfl)) rfl ?_
   obtain rfl := Option.some.inj h
   exact ⟨K14, rfl, f24⟩
  | false =>
   intro h; replace h := cF h
   refine WC.cf rfl ?_
   refine WC.skip ?_
   refine DN.seq ?_
   refine WC.seq ?_
   refine WC.rs [(0, 2), (1, 2), (2, 1), (3, 1), (4, 2), (5, 2), (6, 2), (7, 2), (8, 2)] rfl ?_
   refine WO.pn 1 rfl ?_
   obtain ⟨x23, hx23, h⟩ := Option.bind_eq_some_iff.mp h
   refine WO.k2 rfl rfl rfl rfl (rn_index f18.rdc hx23 Tryd.runUnderlying57 Tryd.sizeOf9 rfl rfl rfl rfl) ?_
   refine WO.k1 trivial rfl rfl rfl rfl (rn_ld Tryd.isAgg9 rfl rfl (hvE (f18.rdc.gStr hx23))) ?_
   obtain ⟨x25, hx25, h⟩ := Option.bind_eq_some_iff.mp h
   refine WO.call rfl rfl rfl rfl rfl rfl Tryd.call52 (s_l1Read_ok (κ := fun b => mp [] 0 (K14 b)) hx25) ?_
   rintro _ w25 ⟨k26, rfl, e27⟩
   obtain ⟨K28, S29, m30⟩ := Ent.mixed (l := []) (κ := K14) e27 6 rfl
   refine ⟨trivial, ?_⟩
   refine WO.pn 5 rfl ?_
   refine WO.fin ?_
   refine DN.seq ?_
   refine WC.seq ?_
   refine WC.rs [(0, 2), (1, 2), (2, 1), (3, 1), (4, 2), (5, 2), (6, 2), (7, 2), (8, 2)] rfl ?_
   refine WO.pn 1 rfl ?_
   obtain ⟨x30, hx30, h⟩ := Option.bind_eq_some_iff.mp h
   refine WO.k2 rfl rfl rfl rfl (rn_index f18.rdc hx30 Tryd.runUnderlying57 Tryd.sizeOf9 rfl rfl rfl rfl) ?_
   have f32 := f18.stp S29 rfl rfl
   refine WO.k1 trivial rfl rfl rfl rfl (rn_ld Tryd.isAgg9 rfl rfl (hvE (f32.rdc.gStr hx30))) ?_
   obtain ⟨x32, hx32, h⟩ := Option.bind_eq_some_iff.mp h
   refine WO.call rfl rfl rfl rfl rfl rfl Tryd.call52 (s_l1Read_ok (κ := fun b => mp [] 0 (K28 b)) hx32) ?_
   rintro _ w33 ⟨k34, rfl, e35⟩
   obtain ⟨K36, S37, m38⟩ := Ent.mixed (l := []) (κ := K28) e35 8 rfl
   refine ⟨trivial, ?_⟩
   refine WO.pn 5 rfl ?_
   refine WO.fin ?_
   refine DN.seq ?_
   refine WC.seq ?_
   refine WC.seq ?_
   refine WC.rs [(0, 2), (1, 2), (2, 2), (3, 2), (4, 2), (5, 2)] rfl ?_
   refine WO.pn 3 rfl ?_
   obtain ⟨p40, h, hK40⟩ := Option.bind_eq_some_iff.mp h
   refine WO.meet [(3, 2), (4, 2), (5, 2)] [] (fun L w' => L = [(0, .string p0), (2, .pointer (some ⟨b2, 0, none⟩)), (5, .int .i64 x25.1), (7, .int .i64 x32.1), (40, .bool p40)] ∧ ∃ κ', Stp [] K36 w33 κ' w') trivial ?_ ?_
   ·
    revert h
    cases ht41 : (!x25.2) with
    | true =>
     intro h; replace h := cT h
     refine WO.pn 3 rfl ?_
     obtain rfl := Option.some.inj h
     exact WO.met _ trivial ⟨rfl, _, (Stp.refl _ _).wk rfl⟩ fun a ha => (ha.more (ha.more (ha.more (ha.more (ha.more ha.nil rfl) rfl) rfl) rfl) rfl)
    | false =>
     intro h; replace h := cF h
     refine WO.pn 3 rfl ?_
     obtain rfl := Option.some.inj h
     exact WO.met _ trivial ⟨rfl, _, (Stp.refl _ _).wk rfl⟩ fun a ha => (ha.more (ha.more (ha.more (ha.more (ha.more ha.nil rfl) rfl) rfl) rfl) rfl)
   rintro _ w42 _ ⟨rfl, K43, S44⟩
   have h := hK40
   refine WO.fin ?_
   refine DN.seq ?_
   revert h
   cases ht45 : p40 with
   | true =>
    intro h; replace h := cT h
    refine WC.ct rfl ?_
    refine WC.seq ?_
    refine WC.rs [(0, 2), (1, 1), (2, 2)] rfl ?_
    refine WO.k2 rfl rfl rfl rfl (rn_build (parts := []) (cells := [.int .i64 0, .int .i64 0, .int .i64 0]) rfl rfl (by kernel_rfl)) ?_
    have f46 := f4.stp (S15.tr (S29.tr (S37.tr S44))) rfl rfl
    refine WO.stB0 (κ := K43) 2 (vc := [.int .i64 0, .int .i64 0, .int .i64 0]) rfl rfl rfl rfl rfl rfl rfl Tryd.sizeOf25 rfl rfl f46 rfl fun w47 S48 f49 => ⟨trivial, ?_⟩
    refine WO.pn 1 rfl ?_
    refine WO.fin ?_
    refine DN.seq ?_
    refine WC.ret ?_
    refine DN.retThen ?_
    have f50 := hE.stp (S3.tr (S15.tr (S29.tr (S37.tr (S44.tr S48))))) rfl rfl
    refine DN.res (l := [.cell 2 25, .tmp 3]) Tryd.results21 (res_cellA rfl f49 Tryd.isAgg25 Tryd.sizeOf25 rfl (res_tmp rfl rfl)) rfl ?_
    obtain rfl := Option.some.inj h
    exact ⟨K43, rfl, f50⟩
   | false =>
    intro h; replace h := cF h
    refine WC.cf rfl ?_
    refine WC.skip ?_
    refine DN.seq ?_
    refine WC.seq ?_
    refine WC.seq ?_
    refine WC.rs [(0, 2)] rfl ?_
    refine WO.pn 1 rfl ?_
    refine WO.fin ?_
    refine DN.seq ?_
    obtain ⟨q2, hq53, hK52⟩ := Option.bind_eq_some_iff.mp h
    clear h
    refine WC.meet (fun L w' => ∃ (κ' : Col) (s3 : Int), L = [(2, .pointer (some ⟨b2, 0, none⟩))] ∧ Stp [10] K43 w42 κ' w' ∧ q2 = Sum.inr s3) ?_ ?_
    ·
     refine WC.block ?_
     refine WC.loop (fun k L w' => ∃ (κ' : Col) (s1 : Int), L = [(0, .string p0), (2, .pointer (some ⟨b2, 0, none⟩)), (5, .int .i64 x25.1), (7, .int .i64 x32.1), (9, .int .i64 s1)] ∧ Stp [10] K43 w42 κ' w' ∧ whileM (s_TextEdit_b0 p0 x25 x32) k s1 = some q2) ⟨_, _, ⟨K43, (1 : Int), rfl, (Stp.refl _ _).wk rfl, hq53⟩, fun a ha => (ha.more (ha.more (ha.more (ha.more (ha.more ha.nil rfl) rfl) rfl) rfl) rfl)⟩ ?_
     rintro k _ w57 ⟨K58, s1, rfl, S59, h⟩
     rcases k with _ | k
     ·
      cases h
     ·
      obtain ⟨o51, h, hk60⟩ := Option.bind_eq_some_iff.mp h; unfold s_TextEdit_b0 at h
      refine WC.seq ?_
      refine WC.seq ?_
      refine WC.rs [(0, 2), (1, 2)] rfl ?_
      refine WO.pn 2 rfl ?_
      refine WO.fin ?_
      refine DN.seq ?_
      revert h
      cases ht61 : decide (s1 ≤ 4) with
      | true =>
       intro h; replace h := cT h
       refine WC.ct rfl ?_
       refine WC.skip ?_
       refine DN.seq ?_
       refine WC.seq ?_
       refine WC.block ?_
       refine WC.seq ?_
       refine WC.rs [(0, 2), (1, 2), (2, 2), (3, 2), (4, 1), (5, 1)] rfl ?_
       refine WO.pn 3 rfl ?_
       refine WO.k2 rfl rfl rfl rfl (rn_build (parts := [(0, .tmp 46), (1, .tmp 47), (2, .tmp 48)]) (cells := [.int .i64 s1, .int .i64 x25.1, .int .i64 x32.1]) rfl rfl (by kernel_rfl)) ?_
       refine WO.alloc (κ := K58) 10 rfl rfl rfl rfl rfl Tryd.zeroValue25 rfl fun b10 w62 K63 S64 f65 => ⟨trivial, ?_⟩
       refine WO.stB0 (κ := K63) 10 (vc := [.int .i64 s1, .int .i64 x25.1, .int .i64 x32.1]) rfl rfl rfl rfl rfl rfl rfl Tryd.sizeOf25 rfl rfl f65 rfl fun w66 S67 f68 => ⟨trivial, ?_⟩
       refine WO.fin ?_
       refine DN.seq ?_
       refine WC.seq ?_
       refine WC.rs [(0, 1), (1, 1), (2, 2), (3, 2), (4, 2), (5, 2), (6, 2), (7, 2)] rfl ?_
       refine WO.k1 trivial rfl rfl rfl rfl (rn_la (cs := [.int .i64 s1, .int .i64 x25.1, .int .i64 x32.1]) Tryd.isAgg25 Tryd.sizeOf25 rfl rfl rfl (haE f68.cells)) ?_
       obtain ⟨x51, hx51, h⟩ := Option.bind_eq_some_iff.mp h
       refine WO.call rfl rfl rfl rfl rfl rfl Tryd.call12 (s_EditText_ok (κ := fun b => mp [] 0 (K63 b)) (p0 := (⟨s1, x25.1, x32.1⟩ : Edit)) hx51) ?_
       rintro _ w69 ⟨k70, rfl, e71⟩
       obtain ⟨K72, S73, m74⟩ := Ent.mixed (l := []) (κ := K63) e71 11 rfl
       refine ⟨trivial, ?_⟩
       refine WO.pn 1 rfl ?_
       refine WO.k2 rfl rfl rfl rfl (rn_eqlSt rfl rfl rfl) ?_
       refine WO.pn 1 rfl ?_
       obtain ⟨p57, h, hK76⟩ := Option.bind_eq_some_iff.mp h
       refine WO.meet [(5, 2), (6, 2), (7, 2)] [] (fun L w' => L = [(0, .string p0), (2, .pointer (some ⟨b2, 0, none⟩)), (5, .int .i64 x25.1), (7, .int .i64 x32.1), (9, .int .i64 s1), (10, .pointer (some ⟨b10, 0, none⟩)), (57, .bool p57)] ∧ ∃ κ', Stp [] K72 w69 κ' w') trivial ?_ ?_
       ·
        revert h
        cases ht77 : (eqB x51 p0) with
        | true =>
         intro h; replace h := cT h
         refine WO.pn 1 rfl ?_
         refine WO.k2 rfl rfl rfl rfl (rn_neqSt rfl rfl rfl) ?_
         refine WO.pn 1 rfl ?_
         obtain rfl := Option.some.inj h
         exact WO.met _ trivial ⟨rfl, _, (Stp.refl _ _).wk rfl⟩ fun a ha => (ha.more (ha.more (ha.more (ha.more (ha.more (ha.more (ha.more ha.nil rfl) rfl) rfl) rfl) rfl) rfl) rfl)
        | false =>
         intro h; replace h := cF h
         refine WO.pn 3 rfl ?_
         obtain rfl := Option.some.inj h
         exact WO.met _ trivial ⟨rfl, _, (Stp.refl _ _).wk rfl⟩ fun a ha => (ha.more (ha.more (ha.more (ha.more (ha.more (ha.more (ha.more ha.nil rfl) rfl) rfl) rfl) rfl) rfl) rfl)
       rintro _ w78 _ ⟨rfl, K79, S80⟩
       have h := hK76
       refine WO.fin ?_
       refine DN.seq ?_
       revert h
       cases ht81 : p57 with
       | true =>
        intro h; replace h := cT h
        refine WC.ct rfl ?_
        refine WC.seq ?_
        refine WC.rs [(0, 1), (1, 1), (2, 2)] rfl ?_
        have f82 := f68.stp (S73.tr S80) rfl rfl
        refine WO.k1 trivial rfl rfl rfl rfl (rn_la (cs := [.int .i64 s1, .int .i64 x25.1, .int .i64 x32.1]) Tryd.isAgg25 Tryd.sizeOf25 rfl rfl rfl (haE f82.cells)) ?_
        have f83 := f4.stp (S15.tr (S29.tr (S37.tr (S44.tr (S59.tr (S64.tr (S67.tr (S73.tr S80)))))))) rfl rfl
        refine WO.stB0 (κ := K79) 2 (vc := [.int .i64 s1, .int .i64 x25.1, .int .i64 x32.1]) rfl rfl rfl rfl rfl rfl rfl Tryd.sizeOf25 rfl rfl f83 rfl fun w84 S85 f86 => ⟨trivial, ?_⟩
        refine WO.pn 1 rfl ?_
        refine WO.fin ?_
        refine DN.seq ?_
        refine WC.ret ?_
        refine DN.retBlock ?_
        refine DN.retThen ?_
        refine DN.retThen ?_
        obtain rfl := Option.some.inj h
        obtain rfl := Option.some.inj hk60
        have h := hK52
        dsimp only [aft] at h
        refine DN.retBlock ?_
        refine DN.retMeet ?_
        refine DN.retThen ?_
        have f87 := hE.stp (S3.tr (S15.tr (S29.tr (S37.tr (S44.tr (S59.tr (S64.tr (S67.tr (S73.tr (S80.tr S85)))))))))) rfl rfl
        refine DN.res (l := [.cell 2 25, .tmp 3]) Tryd.results21 (res_cellA rfl f86 Tryd.isAgg25 Tryd.sizeOf25 rfl (res_tmp rfl rfl)) rfl ?_
        obtain rfl := Option.some.inj h
        exact ⟨K79, rfl, f87⟩
       | false =>
        intro h; replace h := cF h
        refine WC.cf rfl ?_
        refine WC.skip ?_
        refine DN.block ?_
        refine DN.seq ?_
        refine WC.rs [(0, 2), (1, 2), (2, 2)] rfl ?_
        refine WO.pn 3 rfl ?_
        refine WO.fin ?_
        obtain rfl := Option.some.inj h
        refine DN.round fun a ha => ?_
        exact ⟨k, _, Nat.lt_succ_self _, ⟨K79, ((IntKind.i64.wrap (s1 + 1)) : Int), rfl, (S59.tr (S64.tr (S67.tr (S73.tr S80)))).wk rfl, hk60⟩, (ha.more (ha.more (ha.more (ha.more (ha.more ha.nil rfl) rfl) rfl) rfl) rfl)⟩
      | false =>
       intro h; replace h := cF h
       refine WC.cf rfl ?_
       refine WC.exit ?_
       refine DN.exitThen ?_
       refine DN.exitThen ?_
       obtain rfl := Option.some.inj h
       have h := hk60
       refine DN.hit ?_
       obtain rfl := Option.some.inj h
       exact DN.meet _ ⟨K58, (s1 : Int), rfl, S59.wk rfl, rfl⟩ fun a ha => (ha.more ha.nil rfl)
    rintro _ w54 ⟨K55, s3, rfl, S56, rfl⟩
    have h := hK52
    dsimp only [aft] at h
    refine DN.seq ?_
    refine WC.seq ?_
    refine WC.rs [(0, 2), (1, 1), (2, 2)] rfl ?_
    refine WO.k2 rfl rfl rfl rfl (rn_build (parts := []) (cells := [.int .i64 0, .int .i64 0, .int .i64 0]) rfl rfl (by kernel_rfl)) ?_
    have f88 := f4.stp (S15.tr (S29.tr (S37.tr (S44.tr S56)))) rfl rfl
    refine WO.stB0 (κ := K55) 2 (vc := [.int .i64 0, .int .i64 0, .int .i64 0]) rfl rfl rfl rfl rfl rfl rfl Tryd.sizeOf25 rfl rfl f88 rfl fun w89 S90 f91 => ⟨trivial, ?_⟩
    refine WO.pn 1 rfl ?_
    refine WO.fin ?_
    refine DN.seq ?_
    refine WC.ret ?_
    have f92 := hE.stp (S3.tr (S15.tr (S29.tr (S37.tr (S44.tr (S56.tr S90)))))) rfl rfl
    refine DN.res (l := [.cell 2 25, .tmp 3]) Tryd.results21 (res_cellA rfl f91 Tryd.isAgg25 Tryd.sizeOf25 rfl (res_tmp rfl rfl)) rfl ?_
    obtain rfl := Option.some.inj h
    exact ⟨K55, rfl, f92⟩

end Go.Proofs.YtnpmbkaoeihdmaaDoor
