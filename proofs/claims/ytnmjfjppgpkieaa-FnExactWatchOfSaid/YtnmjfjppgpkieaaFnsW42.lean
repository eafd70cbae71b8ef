/- The walks, part 2. By program. -/
import Derived.Test.YtnmjfjppgpkieaaFnsW41
set_option linter.unusedVariables false
set_option linter.unusedSimpArgs false
namespace Go.Proofs.Ytnmjfjppgpkieaa
open Go Go.Wk Go.Proofs
set_option maxRecDepth 100000
set_option maxHeartbeats 1000000

/- loop.example/g00869/laws.toMachine -/
theorem l_toMachine_ok {w : World} {κ : Col} {a0_0 : Option Addr} {u0_0 : Nat} {a0_1 : Option Addr} {u0_1 : Nat} {p0 : Machine} (g0_0 : Rd (Rp.sl (Rp.int .i64)) κ w 0 a0_0 u0_0 p0.Next) (g0_1 : Rd (Rp.sl (Rp.int .i64)) κ w 0 a0_1 u0_1 p0.Out) {r : Machine} (h : l_toMachine p0 = some r) : Ret Try.prog 12 [.agg #[.slice a0_0 p0.Next.length u0_0, .slice a0_1 p0.Out.length u0_1]] w (fun v w' => ∃ (κ' : Col) (ra0 : Option Addr) (ru0 : Nat) (ra1 : Option Addr) (ru1 : Nat), v = .agg #[.slice ra0 r.Next.length ru0, .slice ra1 r.Out.length ru1] ∧ Ent κ w κ' w' ∧ Oc (Ep.own (Ep.int .i64) 2) 28 κ' w' 2 ra0 ru0 r.Next ∧ Oc (Ep.own (Ep.int .i64) 2) 28 κ' w' 3 ra1 ru1 r.Out) := by
 unfold l_toMachine at h
 refine Ret.enter Try.func12 rfl Try.ntmps12 rfl ?_
 dsimp only [envOf]
 have hE := Ent.refl κ w
 refine WC.seq ?_
 refine WC.rs [(0, 1), (1, 1)] rfl ?_
 refine WO.box (κ := κ) 2 rfl rfl rfl rfl rfl rfl rfl fun b1 w1 K2 S3 f4 => ⟨trivial, ?_⟩
 refine WO.alloc (κ := K2) 3 rfl rfl rfl rfl rfl Try.zeroValue37 rfl fun b2 w5 K6 S7 f8 => ⟨trivial, ?_⟩
 refine WO.fin ?_
 refine DN.seq ?_
 refine WC.seq ?_
 refine WC.rs [(0, 1)] rfl ?_
 refine WO.alloc (κ := K6) 4 rfl rfl rfl rfl rfl Try.zeroValue37 rfl fun b3 w9 K10 S11 f12 => ⟨trivial, ?_⟩
 refine WO.fin ?_
 refine DN.seq ?_
 refine WC.seq ?_
 refine WC.rs [(0, 2), (1, 1), (2, 1), (3, 2), (4, 1)] rfl ?_
 refine WO.k2 rfl rfl rfl rfl (rn_fieldAddr Try.runUnderlying26 rfl Try.sizeOf24 rfl rfl) ?_
 have f13 := f4.stp (S7.tr S11) rfl rfl
 refine WO.k1 trivial rfl rfl rfl rfl (rn_ld Try.isAgg24 rfl rfl (hvE (f13.ld 0 rfl rfl))) ?_
 obtain ⟨x6, hx6, h⟩ := Option.bind_eq_some_iff.mp h
 have f14 := g0_0.stp (S3.tr (S7.tr S11)) rfl rfl
 refine WO.call rfl rfl rfl rfl rfl rfl Try.call51 (l_toInt64SS_ok (κ := fun b => mp [] 0 (K10 b)) (Sl.map f14 (mp [] 0) rfl rfl) hx6) ?_
 rintro _ w15 ⟨k16, a6_0, u6_0, rfl, e17, f18⟩
 obtain ⟨K19, S20, m21⟩ := Ent.mixed (l := []) (κ := K10) e17 5 rfl
 refine ⟨trivial, ?_⟩
 have f23 := f18.mx (no_own (no_int _) _) m21 rfl (rfl : 5 + 2 = 7)
 refine WO.k2 rfl rfl rfl rfl (rn_fieldAddr Try.runUnderlying37 rfl Try.sizeOf24 rfl rfl) ?_
 have f24 := f12.stp S20 rfl rfl
 refine WO.stB (κ := K19) 4 (off := 0) (vc := [.slice a6_0 x6.length u6_0]) (cs' := [.slice a6_0 x6.length u6_0, .slice none 0 0]) rfl rfl rfl rfl rfl rfl rfl Try.sizeOf24 rfl rfl f24 rfl rfl fun w25 S26 f27 => ⟨trivial, ?_⟩
 refine WO.fin ?_
 refine DN.seq ?_
 refine WC.seq ?_
 refine WC.rs [(0, 2), (1, 1), (2, 1), (3, 2), (4, 1)] rfl ?_
 refine WO.k2 rfl rfl rfl rfl (rn_fieldAddr Try.runUnderlying26 rfl Try.sizeOf24 rfl rfl) ?_
 have f28 := f13.stp (S20.tr S26) rfl rfl
 refine WO.k1 trivial rfl rfl rfl rfl (rn_ld Try.isAgg24 rfl rfl (hvE (f28.ld 1 rfl rfl))) ?_
 obtain ⟨x10, hx10, h⟩ := Option.bind_eq_some_iff.mp h
 have f29 := g0_1.stp (S3.tr (S7.tr (S11.tr (S20.tr S26)))) rfl rfl
 refine WO.call rfl rfl rfl rfl rfl rfl Try.call51 (l_toInt64SS_ok (κ := fun b => mp [] 0 (K19 b)) (Sl.map f29 (mp [] 0) rfl rfl) hx10) ?_
 rintro _ w30 ⟨k31, a10_0, u10_0, rfl, e32, f33⟩
 obtain ⟨K34, S35, m36⟩ := Ent.mixed (l := []) (κ := K19) e32 8 rfl
 refine ⟨trivial, ?_⟩
 have f38 := f33.mx (no_own (no_int _) _) m36 rfl (rfl : 8 + 2 = 10)
 refine WO.k2 rfl rfl rfl rfl (rn_fieldAddr Try.runUnderlying37 rfl Try.sizeOf24 rfl rfl) ?_
 have f39 := f27.stp S35 rfl rfl
 refine WO.stB (κ := K34) 4 (off := 1) (vc := [.slice a10_0 x10.length u10_0]) (cs' := [.slice a6_0 x6.length u6_0, .slice a10_0 x10.length u10_0]) rfl rfl rfl rfl rfl rfl rfl Try.sizeOf24 rfl rfl f39 rfl rfl fun w40 S41 f42 => ⟨trivial, ?_⟩
 refine WO.fin ?_
 refine DN.seq ?_
 refine WC.seq ?_
 refine WC.rs [(0, 1), (1, 1)] rfl ?_
 refine WO.k1 trivial rfl rfl rfl rfl (rn_la (cs := [.slice a6_0 x6.length u6_0, .slice a10_0 x10.length u10_0]) Try.isAgg37 Try.sizeOf37 rfl rfl rfl (haE f42.cells)) ?_
 have f43 := f8.stp (S11.tr (S20.tr (S26.tr (S35.tr S41)))) rfl rfl
 refine WO.stB0 (κ := K34) 3 (vc := [.slice a6_0 x6.length u6_0, .slice a10_0 x10.length u10_0]) rfl rfl rfl rfl rfl rfl rfl Try.sizeOf37 rfl rfl f43 rfl fun w44 S45 f46 => ⟨trivial, ?_⟩
 refine WO.fin ?_
 refine DN.seq ?_
 refine WC.ret ?_
 have f47 := hE.stp (S3.tr (S7.tr (S11.tr (S20.tr (S26.tr (S35.tr (S41.tr S45))))))) rfl rfl
 have f48 := f23.stp (S26.tr (S35.tr (S41.tr S45))) rfl rfl
 have f49 := f38.stp (S41.tr S45) rfl rfl
 refine DN.res (l := [.cell 2 37]) Try.results12 (res_cellA rfl f46 Try.isAgg37 Try.sizeOf37 rfl rfl) rfl ?_
 obtain rfl := Option.some.inj h
 exact ⟨(fun b => ren [(7, 2), (10, 3)] (K34 b)), a6_0, u6_0, a10_0, u10_0, rfl, (f47.map (ren [(7, 2), (10, 3)]) rfl rfl), (f48.map (ren [(7, 2), (10, 3)]) rfl rfl), (f49.map (ren [(7, 2), (10, 3)]) rfl rfl)⟩

/- loop.example/g00869/spec.LettersOf -/
theorem s_LettersOf_ok {w : World} {κ : Col} {p0 : Sig}  {r : Int} (h : s_LettersOf p0 = some r) : Ret Try.prog 100 [.agg #[.int .i64 p0.In, .int .i64 p0.Out]] w (fun v w' => ∃ (κ' : Col), v = .int .i64 r ∧ Ent κ w κ' w') := by
 unfold s_LettersOf at h
 refine Ret.enter Try.func100 rfl Try.ntmps100 rfl ?_
 dsimp only [envOf]
 have hE := Ent.refl κ w
 refine WC.seq ?_
 refine WC.rs [(0, 1), (1, 2)] rfl ?_
 refine WO.box (κ := κ) 2 rfl rfl rfl rfl rfl rfl rfl fun b1 w1 K2 S3 f4 => ⟨trivial, ?_⟩
 refine WO.pn 1 rfl ?_
 refine WO.fin ?_
 refine DN.seq ?_
 refine WC.seq ?_
 refine WC.seq ?_
 refine WC.rs [(0, 1), (1, 1), (2, 2)] rfl ?_
 refine WO.k1 trivial rfl rfl rfl rfl (rn_la (cs := [.int .i64 p0.In, .int .i64 p0.Out]) Try.isAgg35 Try.sizeOf35 rfl rfl rfl (haE f4.cells)) ?_
 obtain ⟨x4, hx4, h⟩ := Option.bind_eq_some_iff.mp h
 refine WO.call rfl rfl rfl rfl rfl rfl Try.call95 (s_SigOk_ok (κ := fun b => mp [] 0 (K2 b)) (p0 := p0) hx4) ?_
 rintro _ w5 ⟨k6, rfl, e7⟩
 obtain ⟨K8, S9, m10⟩ := Ent.mixed (l := []) (κ := K2) e7 3 rfl
 refine ⟨trivial, ?_⟩
 refine WO.pn 1 rfl ?_
 refine WO.fin ?_
 refine DN.seq ?_
 revert h
 cases ht12 : (!x4) with
 | true =>
  intro h; replace h := cT h
  refine WC.ct rfl ?_
  refine WC.seq ?_
  refine WC.rs [(0, 2)] rfl ?_
  refine WO.pn 1 rfl ?_
  refine WO.fin ?_
  refine DN.seq ?_
  refine WC.ret ?_
  refine DN.retThen ?_
  have f13 := hE.stp (S3.tr S9) rfl rfl
  refine DN.res (l := [.tmp 2]) Try.results100 (res_tmp rfl rfl) rfl ?_
  obtain rfl := Option.some.inj h
  exact ⟨K8, rfl, f13⟩
 | false =>
  intro h; replace h := cF h
  refine WC.cf rfl ?_
  refine WC.skip ?_
  refine DN.seq ?_
  refine WC.seq ?_
  refine WC.rs [(0, 2), (1, 1), (2, 2), (3, 1), (4, 2), (5, 1), (6, 2)] rfl ?_
  refine WO.k2 rfl rfl rfl rfl (rn_fieldAddr Try.runUnderlying35 rfl Try.sizeOf2 rfl rfl) ?_
  have f14 := f4.stp S9 rfl rfl
  refine WO.k1 trivial rfl rfl rfl rfl (rn_ld Try.isAgg2 rfl rfl (hvE (f14.ld 0 rfl rfl))) ?_
  refine WO.k2 rfl rfl rfl rfl (rn_fieldAddr Try.runUnderlying35 rfl Try.sizeOf2 rfl rfl) ?_
  refine WO.k1 trivial rfl rfl rfl rfl (rn_ld Try.isAgg2 rfl rfl (hvE (f14.ld 1 rfl rfl))) ?_
  refine WO.pn 1 rfl ?_
  obtain ⟨x11, hx11, h⟩ := Option.bind_eq_some_iff.mp h
  refine WO.call rfl rfl rfl rfl rfl rfl Try.call99 (s_l23Power_ok (κ := fun b => mp [] 0 (K8 b)) hx11) ?_
  rintro _ w15 ⟨k16, rfl, e17⟩
  obtain ⟨K18, S19, m20⟩ := Ent.mixed (l := []) (κ := K8) e17 5 rfl
  refine ⟨trivial, ?_⟩
  refine WO.pn 1 rfl ?_
  refine WO.fin ?_
  refine DN.seq ?_
  refine WC.ret ?_
  have f22 := hE.stp (S3.tr (S9.tr S19)) rfl rfl
  refine DN.res (l := [.tmp 2]) Try.results100 (res_tmp rfl rfl) rfl ?_
  obtain rfl := Option.some.inj h
  exact ⟨K18, rfl, f22⟩

/- loop.example/g00869/impl.watchOf -/
theorem i_watchOf_ok {w : World} {κ : Col} {p0 : Sig} {a1_0 : Option Addr} {u1_0 : Nat} {a1_1 : Option Addr} {u1_1 : Nat} {p1 : Machine} {a2_0 : Option Addr} {u2_0 : Nat} {a2_1 : Option Addr} {u2_1 : Nat} {p2 : Det} (g1_0 : Rd (Rp.sl (Rp.int .i64)) κ w 0 a1_0 u1_0 p1.Next) (g1_1 : Rd (Rp.sl (Rp.int .i64)) κ w 0 a1_1 u1_1 p1.Out) (g2_0 : Rd (Rp.sl (Rp.int .i64)) κ w 0 a2_0 u2_0 p2.Next) (g2_1 : Rd Pair.rp κ w 0 a2_1 u2_1 p2.Pairs) {r : (Option watch) × Bool} (h : i_watchOf p0 p1 p2 = some r) : Ret Try.prog 67 [.agg #[.int .i64 p0.In, .int .i64 p0.Out], .agg #[.slice a1_0 p1.Next.length u1_0, .slice a1_1 p1.Out.length u1_1], .agg #[.slice a2_0 p2.Next.length u2_0, .slice a2_1 p2.Pairs.length u2_1]] w (fun v w' => ∃ (κ' : Col) (ra0 : Option Addr) (ru0 : Nat) (ra1 : Option Addr) (ru1 : Nat) (ra2 : Option Addr) (ru2 : Nat) (rb3 : Nat), v = .tuple #[.pointer (bif r.1.isSome then some ⟨rb3, 0, none⟩ else none), .bool r.2] ∧ Ent κ w κ' w' ∧ Oc (Ep.own (Ep.int .i64) 2) 28 κ' w' 2 ra0 ru0 ((r.1.getD (⟨([] : List (List Int)), ([] : List (List Int)), ([] : List Pair)⟩ : watch)).next) ∧ Oc (Ep.own (Ep.int .i64) 2) 28 κ' w' 3 ra1 ru1 ((r.1.getD (⟨([] : List (List Int)), ([] : List (List Int)), ([] : List Pair)⟩ : watch)).letters) ∧ Oc Pair.ep113 113 κ' w' 4 ra2 ru2 ((r.1.getD (⟨([] : List (List Int)), ([] : List (List Int)), ([] : List Pair)⟩ : watch)).pairs) ∧ (r.1.isSome = true → Bc κ' w' 5 rb3 120 [.slice ra0 ((r.1.getD (⟨([] : List (List Int)), ([] : List (List Int)), ([] : List Pair)⟩ : watch)).next).length ru0, .slice ra1 ((r.1.getD (⟨([] : List (List Int)), ([] : List (List Int)), ([] : List Pair)⟩ : watch)).letters).length ru1, .slice ra2 ((r.1.getD (⟨([] : List (List Int)), ([] : List (List Int)), ([] : List Pair)⟩ : watch)).pairs).length ru2])) := by
 unfold i_watchOf at h
 refine Ret.enter Try.func67 rfl Try.ntmps67 rfl ?_
 dsimp only [envOf]
 have hE := Ent.refl κ w
 refine WC.seq ?_
 refine WC.rs [(0, 1), (1, 1), (2, 1), (3, 2), (4, 2)] rfl ?_
 refine WO.box (κ := κ) 2 rfl rfl rfl rfl rfl rfl rfl fun b3 w1 K2 S3 f4 => ⟨trivial, ?_⟩
 refine WO.box (κ := K2) 3 rfl rfl rfl rfl rfl rfl rfl fun b4 w5 K6 S7 f8 => ⟨trivial, ?_⟩
 refine WO.box (κ := K6) 4 rfl rfl rfl rfl rfl rfl rfl fun b5 w9 K10 S11 f12 => ⟨trivial, ?_⟩
 refine WO.pn 2 rfl ?_
 refine WO.fin ?_
 refine DN.seq ?_
 refine WC.seq ?_
 refine WC.rs [(0, 2), (1, 1), (2, 2)] rfl ?_
 refine WO.k2 rfl rfl rfl rfl (rn_build (parts := [(0, .const (.int .i64 0)), (1, .const (.int .i64 0))]) (cells := [.int .i64 0, .int .i64 0]) rfl rfl (by kernel_rfl)) ?_
 refine WO.bl (κ := K10) (E := (Ep.pair (Ep.int .i64) (Ep.int .i64))) 5 [] (parts := [(0, .tmp 27)]) (cells := [.int .i64 0, .int .i64 0]) (xs := ([(0, 0)] : List (Int × Int))) rfl rfl rfl rfl rfl rfl Try.underlying150 Tryinfo149 rfl rfl rfl rfl rfl rfl rfl rfl rfl rfl ⟨[.int .i64 0, .int .i64 0], [], Zl K10 w9 [], Zl K10 w9 [], rfl, Zl.sp (l1 := []) (l2 := []) rfl, Zl.sr (l1 := []) (l2 := []), ⟨[.int .i64 0], [.int .i64 0], Zl K10 w9 [], Zl K10 w9 [], rfl, Zl.sp (l1 := []) (l2 := []) rfl, Zl.sr (l1 := []) (l2 := []), rfl, rfl⟩, rfl⟩ fun a28 u28 w13 K14 S15 f16 => ⟨trivial, ?_⟩
 refine WO.pn 1 rfl ?_
 refine WO.fin ?_
 refine DN.seq ?_
 refine WC.seq ?_
 refine WC.rs [(0, 1), (1, 2), (2, 1), (3, 2), (4, 2)] rfl ?_
 refine WO.mkmap (κ := K14) 6 rfl rfl rfl rfl rfl kwI2 kvI2 (fun v : Int => .int .i64 v) fun mb29 w17 K18 S19 f20 => ⟨trivial, ?_⟩
 refine WO.k2 rfl rfl rfl rfl (rn_build (parts := [(0, .const (.int .i64 0)), (1, .const (.int .i64 0))]) (cells := [.int .i64 0, .int .i64 0]) rfl rfl (by kernel_rfl)) ?_
 obtain ⟨y23, hy23, h⟩ := Option.bind_eq_some_iff.mp h
 refine WO.mapin (κ := K18) (kf := kvI2) (vf := (fun v : Int => .int .i64 v)) (v := 0) 6 rfl rfl rfl rfl rfl rfl rfl keyEI2 Try.runUnderlying151 f20 hy23 fun w21 S22 f23 => ⟨trivial, ?_⟩
 refine WO.pn 2 rfl ?_
 refine WO.fin ?_
 refine DN.seq ?_
 refine WC.seq ?_
 refine WC.rs [(0, 2), (1, 1), (2, 2)] rfl ?_
 refine WO.k2 rfl rfl rfl rfl (rn_build (parts := []) (cells := [.slice none 0 0, .slice none 0 0, .slice none 0 0]) rfl rfl (by kernel_rfl)) ?_
 refine WO.box (κ := K18) 7 rfl rfl rfl rfl rfl rfl rfl fun b33 w24 K25 S26 f27 => ⟨trivial, ?_⟩
 refine WO.pn 1 rfl ?_
 refine WO.fin ?_
 refine DN.seq ?_
 refine WC.seq ?_
 refine WC.seq ?_
 refine WC.rs [(0, 2)] rfl ?_
 refine WO.pn 1 rfl ?_
 refine WO.fin ?_
 refine DN.seq ?_
 obtain ⟨q2, hq30, hK29⟩ := Option.bind_eq_some_iff.mp h
 clear h
 refine WC.meet (fun L w' => ∃ (κ' : Col) (s3 : (List (Int × Int)) × Int × (List (List Int)) × (List (List Int)) × (List ((Int × Int) × Int))) (las3_0 : Option Addr) (lus3_0 : Nat) (las3_1 : Option Addr) (lus3_1 : Nat) (las3_2 : Option Addr) (lus3_2 : Nat), L = [(5, .pointer (some ⟨b5, 0, none⟩)), (8, .slice las3_0 s3.1.length lus3_0), (10, .pointer (some ⟨b33, 0, none⟩))] ∧ Stp [5, 6, 7, 8, 9, 10, 11, 12, 13, 14] K25 w24 κ' w' ∧ Oc (Ep.pair (Ep.int .i64) (Ep.int .i64)) 149 κ' w' 5 las3_0 lus3_0 s3.1 ∧ Oc (Ep.own (Ep.int .i64) 2) 28 κ' w' 8 las3_1 lus3_1 s3.2.2.1 ∧ Oc (Ep.own (Ep.int .i64) 2) 28 κ' w' 9 las3_2 lus3_2 s3.2.2.2.1 ∧ Mc kwI2 kvI2 (fun v : Int => .int .i64 v) κ' w' 6 mb29 s3.2.2.2.2 ∧ Bc κ' w' 7 b33 120 [.slice las3_1 s3.2.2.1.length lus3_1, .slice las3_2 s3.2.2.2.1.length lus3_2, .slice none 0 0] ∧ q2 = Sum.inr s3) ?_ ?_
 ·
  refine WC.block ?_
  have f49 := f16.stp (S19.tr (S22.tr S26)) rfl rfl
  have f50 := f23.stp S26 rfl rfl
  refine WC.loop (fun k L w' => ∃ (κ' : Col) (s1 : (List (Int × Int)) × Int × (List (List Int)) × (List (List Int)) × (List ((Int × Int) × Int))) (las1_0 : Option Addr) (lus1_0 : Nat) (las1_1 : Option Addr) (lus1_1 : Nat) (las1_2 : Option Addr) (lus1_2 : Nat), L = [(3, .pointer (some ⟨b3, 0, none⟩)), (4, .pointer (some ⟨b4, 0, none⟩)), (5, .pointer (some ⟨b5, 0, none⟩)), (8, .slice las1_0 s1.1.length lus1_0), (9, .map (some mb29)), (10, .pointer (some ⟨b33, 0, none⟩)), (11, .int .i64 s1.2.1)] ∧ Stp [5, 6, 7, 8, 9, 10, 11, 12, 13, 14] K25 w24 κ' w' ∧ Oc (Ep.pair (Ep.int .i64) (Ep.int .i64)) 149 κ' w' 5 las1_0 lus1_0 s1.1 ∧ Oc (Ep.own (Ep.int .i64) 2) 28 κ' w' 8 las1_1 lus1_1 s1.2.2.1 ∧ Oc (Ep.own (Ep.int .i64) 2) 28 κ' w' 9 las1_2 lus1_2 s1.2.2.2.1 ∧ Mc kwI2 kvI2 (fun v : Int => .int .i64 v) κ' w' 6 mb29 s1.2.2.2.2 ∧ Bc κ' w' 7 b33 120 [.slice las1_1 s1.2.2.1.length lus1_1, .slice las1_2 s1.2.2.2.1.length lus1_2, .slice none 0 0] ∧ whileM (i_watchOf_b0 p0 p1 p2) k s1 = some q2) ⟨_, _, ⟨K25, ((([(0, 0)] : List (Int × Int)) : (List (Int × Int))), (0 : Int), (([] : List (List Int)) : (List (List Int))), (([] : List (List Int)) : (List (List Int))), (y23 : (List ((Int × Int) × Int)))), a28, u28, none, 0, none, 0, rfl, (Stp.refl _ _).wk rfl, f49, Ow.nil, Ow.nil, f50, f27, hq30⟩, fun a ha => (ha.more (ha.more (ha.more (ha.more (ha.more (ha.more (ha.more ha.nil rfl) rfl) rfl) rfl) rfl) rfl) rfl)⟩ ?_
  rintro k _ w40 ⟨K41, s1, las1_0, lus1_0, las1_1, lus1_1, las1_2, lus1_2, rfl, S42, f43, f44, f45, f46, f48, h⟩
  rcases k with _ | k
  ·
   cases h
  ·
   obtain ⟨o28, h, hk51⟩ := Option.bind_eq_some_iff.mp h; unfold i_watchOf_b0 at h
   refine WC.seq ?_
   refine WC.seq ?_
   refine WC.rs [(0, 2), (1, 2), (2, 2), (3, 2)] rfl ?_
   refine WO.pn 2 rfl ?_
   refine WO.k2 rfl rfl rfl rfl (rn_len Try.runUnderlying150 rfl rfl) ?_
   refine WO.pn 1 rfl ?_
   refine WO.fin ?_
   refine DN.seq ?_
   revert h
   cases ht52 : decide (s1.2.1 < (s1.1.length : Int)) with
   | true =>
    intro h; replace h := cT h
    refine WC.ct rfl ?_
    refine WC.skip ?_
    refine DN.seq ?_
    refine WC.seq ?_
    refine WC.block ?_
    refine WC.seq ?_
    refine WC.rx (κ := K41) [0, 5] none [(0, 2), (1, 2), (2, 2), (3, 2), (5, 2), (6, 2), (7, 2), (8, 2), (4, 0), (10, 2), (9, 0), (11, 2)] [] (by kernel_rfl) (by kernel_rfl) fun w54 S53 => ?_
    refine WO.pn 2 rfl ?_
    obtain ⟨x42, hx42, h⟩ := Option.bind_eq_some_iff.mp h
    refine WO.k2 rfl rfl rfl rfl (rn_index f43.rdc hx42 Try.runUnderlying150 Try.sizeOf149 rfl rfl rfl rfl) ?_
    refine WO.k2 rfl rfl rfl rfl (rn_indexA Try.runUnderlying149 Try.sizeOf2 rfl rfl rfl rfl) ?_
    refine WO.pn 2 rfl ?_
    obtain ⟨x47, hx47, h⟩ := Option.bind_eq_some_iff.mp h
    refine WO.k2 rfl rfl rfl rfl (rn_index f43.rdc hx47 Try.runUnderlying150 Try.sizeOf149 rfl rfl rfl rfl) ?_
    refine WO.k2 rfl rfl rfl rfl (rn_indexA Try.runUnderlying149 Try.sizeOf2 rfl rfl rfl rfl) ?_
    have f55 := f43.stp S53 rfl rfl
    obtain ⟨cse56, hre56, hle56⟩ := (f55.rdc).gSt hx42
    obtain ⟨_, _, rfl, rfl, rfl⟩ := hre56
    refine WO.k0 rfl rfl rfl rfl (rn_ld Try.isAgg2 rfl rfl (hvC (fun w' hw' => hle56 w' hw' 0 _ rfl) rfl)) ?_
    refine WO.pn 1 rfl ?_
    obtain ⟨cse57, hre57, hle57⟩ := (f55.rdc).gSt hx47
    obtain ⟨_, _, rfl, rfl, rfl⟩ := hre57
    refine WO.k0 rfl rfl rfl rfl (rn_ld Try.isAgg2 rfl rfl (hvC (fun w' hw' => hle57 w' hw' 1 _ rfl) rfl)) ?_
    refine WO.pn 1 rfl ?_
    refine WO.nx ?_
    refine WO.fin ?_
    refine DN.seq ?_
    refine WC.seq ?_
    refine WC.rs [(0, 1), (1, 1), (2, 2), (3, 2)] rfl ?_
    refine WO.bl0 (κ := K41) (E := (Ep.int .i64)) 10 rfl rfl rfl rfl rfl Try.underlying28 Tryinfo2 rfl fun a50 u50 w58 K59 S60 f61 => ⟨trivial, ?_⟩
    refine WO.bl0 (κ := K59) (E := (Ep.int .i64)) 11 rfl rfl rfl rfl rfl Try.underlying28 Tryinfo2 rfl fun a51 u51 w62 K63 S64 f65 => ⟨trivial, ?_⟩
    refine WO.pn 2 rfl ?_
    refine WO.fin ?_
    refine DN.seq ?_
    refine WC.seq ?_
    refine WC.seq ?_
    refine WC.rs [(0, 2), (1, 1), (2, 2), (3, 2), (4, 1), (5, 2), (6, 2)] rfl ?_
    refine WO.k2 rfl rfl rfl rfl (rn_fieldAddr Try.runUnderlying37 rfl Try.sizeOf24 rfl rfl) ?_
    have f66 := f8.stp (S11.tr (S15.tr (S19.tr (S22.tr (S26.tr (S42.tr (S53.tr (S60.tr S64)))))))) rfl rfl
    refine WO.k1 trivial rfl rfl rfl rfl (rn_ld Try.isAgg24 rfl rfl (hvE (f66.ld 0 rfl rfl))) ?_
    refine WO.pn 1 rfl ?_
    obtain ⟨x55, hx55, h⟩ := Option.bind_eq_some_iff.mp h
    refine WO.k2 rfl rfl rfl rfl (rn_index g1_0 hx55 Try.runUnderlying24 Try.sizeOf28 rfl rfl rfl rfl) ?_
    have f67 := g1_0.stp (S3.tr (S7.tr (S11.tr (S15.tr (S19.tr (S22.tr (S26.tr (S42.tr (S53.tr (S60.tr S64)))))))))) rfl rfl
    obtain ⟨ax55, ux55, f68, hl69⟩ := f67.gSl hx55
    refine WO.k1 trivial rfl rfl rfl rfl (rn_ld Try.isAgg28 rfl rfl (hvE hl69)) ?_
    refine WO.k2 rfl rfl rfl rfl (rn_len Try.runUnderlying28 rfl rfl) ?_
    refine WO.pn 1 rfl ?_
    refine WO.fin ?_
    refine DN.seq ?_
    have hN70 : (x55.length : Int) ≤ 9223372036854775807 := f68.len_le
    obtain ⟨q5, hq72, hK71⟩ := Option.bind_eq_some_iff.mp h
    clear h
    refine WC.meet (fun L w' => ∃ (κ' : Col) (s6 : (List (Int × Int)) × (List Int) × (List Int) × (List ((Int × Int) × Int))) (las6_0 : Option Addr) (lus6_0 : Nat) (las6_1 : Option Addr) (lus6_1 : Nat) (las6_2 : Option Addr) (lus6_2 : Nat), L = [(3, .pointer (some ⟨b3, 0, none⟩)), (4, .pointer (some ⟨b4, 0, none⟩)), (5, .pointer (some ⟨b5, 0, none⟩)), (8, .slice las6_0 s6.1.length lus6_0), (9, .map (some mb29)), (10, .pointer (some ⟨b33, 0, none⟩)), (11, .int .i64 s1.2.1), (14, .slice las6_1 s6.2.1.length lus6_1), (15, .slice las6_2 s6.2.2.1.length lus6_2)] ∧ Stp [5, 6, 10, 11, 14] K63 w62 κ' w' ∧ Oc (Ep.pair (Ep.int .i64) (Ep.int .i64)) 149 κ' w' 5 las6_0 lus6_0 s6.1 ∧ Oc (Ep.int .i64) 2 κ' w' 10 las6_1 lus6_1 s6.2.1 ∧ Oc (Ep.int .i64) 2 κ' w' 11 las6_2 lus6_2 s6.2.2.1 ∧ Mc kwI2 kvI2 (fun v : Int => .int .i64 v) κ' w' 6 mb29 s6.2.2.2 ∧ q5 = Sum.inr s6) ?_ ?_
    ·
     refine WC.block ?_
     have f89 := f55.stp (S60.tr S64) rfl rfl
     have f90 := f61.stp S64 rfl rfl
     have f91 := f46.stp (S53.tr (S60.tr S64)) rfl rfl
     refine WC.loop (fun k L w' => ∃ (κ' : Col) (v58 : Int) (s4 : (List (Int × Int)) × (List Int) × (List Int) × (List ((Int × Int) × Int))) (las4_0 : Option Addr) (lus4_0 : Nat) (las4_1 : Option Addr) (lus4_1 : Nat) (las4_2 : Option Addr) (lus4_2 : Nat), L = [(3, .pointer (some ⟨b3, 0, none⟩)), (4, .pointer (some ⟨b4, 0, none⟩)), (5, .pointer (some ⟨b5, 0, none⟩)), (8, .slice las4_0 s4.1.length lus4_0), (9, .map (some mb29)), (10, .pointer (some ⟨b33, 0, none⟩)), (11, .int .i64 s1.2.1), (12, .int .i64 x42.1), (13, .int .i64 x47.2), (14, .slice las4_1 s4.2.1.length lus4_1), (15, .slice las4_2 s4.2.2.1.length lus4_2), (56, .slice ax55 x55.length ux55), (57, .int .i64 (x55.length : Int)), (58, .int .i64 v58)] ∧ Stp [5, 6, 10, 11, 14] K63 w62 κ' w' ∧ Oc (Ep.pair (Ep.int .i64) (Ep.int .i64)) 149 κ' w' 5 las4_0 lus4_0 s4.1 ∧ Oc (Ep.int .i64) 2 κ' w' 10 las4_1 lus4_1 s4.2.1 ∧ Oc (Ep.int .i64) 2 κ' w' 11 las4_2 lus4_2 s4.2.2.1 ∧ Mc kwI2 kvI2 (fun v : Int => .int .i64 v) κ' w' 6 mb29 s4.2.2.2 ∧ 0 ≤ v58 ∧ Int.toNat ((x55.length : Int) - v58) = k ∧ cntM (i_watchOf_b2 p0 p1 p2 x42 x47 x55) k v58 s4 = some q5) ⟨_, _, ⟨K63, 0, ((s1.1 : (List (Int × Int))), (([] : List Int) : (List Int)), (([] : List Int) : (List Int)), (s1.2.2.2.2 : (List ((Int × Int) × Int)))), las1_0, lus1_0, a50, u50, a51, u51, rfl, (Stp.refl _ _).wk rfl, f89, f90, f65, f91, (by decide), (by simp), hq72⟩, fun a ha => (ha.more (ha.more (ha.more (ha.more (ha.more (ha.more (ha.more (ha.more (ha.more (ha.more (ha.more (ha.more (ha.more (ha.more ha.nil rfl) rfl) rfl) rfl) rfl) rfl) rfl) rfl) rfl) rfl) rfl) rfl) rfl) rfl)⟩ ?_
     rintro k _ w81 ⟨K82, v58, s4, las4_0, lus4_0, las4_1, lus4_1, las4_2, lus4_2, rfl, S83, f84, f85, f86, f87, hj70, hJ70, h⟩
     rcases k with _ | k
     ·
      have hk92 := h; obtain ⟨o70, h⟩ := ex_eq (Sum.inr (Sum.inl s4) : ((Option watch) × Bool) ⊕ (((List (Int × Int)) × (List Int) × (List Int) × (List ((Int × Int) × Int))) ⊕ ((List (Int × Int)) × (List Int) × (List Int) × (List ((Int × Int) × Int)))))
      have hc70 : decide (v58 < (x55.length : Int)) = false := decide_eq_false (by omega)
      refine WC.seq ?_
      refine WC.rs [(0, 2)] rfl ?_
      refine WO.pn 1 rfl ?_
      refine WO.fin ?_
      refine DN.seq ?_
      refine WC.seq ?_
      refine WC.cf' rfl hc70 ?_
      refine WC.exit ?_
      refine DN.exitThen ?_
      refine DN.exitThen ?_
      obtain rfl := Option.some.inj h
      have h := hk92
      refine DN.hit ?_
      obtain rfl := Option.some.inj h
      exact DN.meet _ ⟨K82, ((s4.1 : (List (Int × Int))), (s4.2.1 : (List Int)), (s4.2.2.1 : (List Int)), (s4.2.2.2 : (List ((Int × Int) × Int)))), las4_0, lus4_0, las4_1, lus4_1, las4_2, lus4_2, rfl, S83.wk rfl, f84, f85, f86, f87, rfl⟩ fun a ha => (ha.more (ha.more (ha.more (ha.more (ha.more (ha.more (ha.more (ha.more (ha.more ha.nil rfl) rfl) rfl) rfl) rfl) rfl) rfl) rfl) rfl)
     ·
      obtain ⟨o70, h, hk92⟩ := Option.bind_eq_some_iff.mp h; unfold i_watchOf_b2 at h
      have hc70 : decide (v58 < (x55.length : Int)) = true := decide_eq_true (by omega)
      refine WC.seq ?_
      refine WC.rs [(0, 2)] rfl ?_
      refine WO.pn 1 rfl ?_
      refine WO.fin ?_
      refine DN.seq ?_
      refine WC.seq ?_
      refine WC.ct' rfl hc70 ?_
      refine WC.skip ?_
      refine DN.seq ?_
      refine WC.seq ?_
      refine WC.block ?_
      refine WC.seq ?_
      refine WC.rs [(0, 2), (1, 2), (2, 1), (3, 2), (4, 2)] rfl ?_
      refine WO.pn 1 rfl ?_
      obtain ⟨x61, hx61, h⟩ := Option.bind_eq_some_iff.mp h
      refine WO.k2 rfl rfl rfl rfl (rn_index f68 hx61 Try.runUnderlying28 Try.sizeOf2 rfl rfl rfl rfl) ?_
      have f93 := f68.stp S83 rfl rfl
      refine WO.k1 trivial rfl rfl rfl rfl (rn_ld Try.isAgg2 rfl rfl (hvE (f93.gInt hx61))) ?_
      refine WO.pn 2 rfl ?_
      refine WO.fin ?_
      refine DN.seq ?_
      refine WC.seq ?_
      refine WC.rx (κ := K82) [0, 2, 3] none [(0, 2), (2, 2), (5, 2), (11, 2), (1, 0), (3, 2), (4, 0), (6, 2), (7, 0), (8, 0), (9, 1), (10, 2), (12, 2), (13, 2)] [] (by kernel_rfl) (by kernel_rfl) fun w95 S94 => ?_
      refine WO.k2 rfl rfl rfl rfl (rn_fieldAddr Try.runUnderlying37 rfl Try.sizeOf24 rfl rfl) ?_
      refine WO.pn 3 rfl ?_
      have f96 := f66.stp (S83.tr S94) rfl rfl
      refine WO.k0 rfl rfl rfl rfl (rn_ld Try.isAgg24 rfl rfl (hvC (f96.ld 1 rfl rfl) rfl)) ?_
      obtain ⟨x66, hx66, h⟩ := Option.bind_eq_some_iff.mp h
      refine WO.k2 rfl rfl rfl rfl (rn_index g1_1 hx66 Try.runUnderlying24 Try.sizeOf28 rfl rfl rfl rfl) ?_
      have f97 := g1_1.stp (S3.tr (S7.tr (S11.tr (S15.tr (S19.tr (S22.tr (S26.tr (S42.tr (S53.tr (S60.tr (S64.tr (S83.tr S94)))))))))))) rfl rfl
      obtain ⟨ax66, ux66, f98, hl99⟩ := f97.gSl hx66
      refine WO.k0 rfl rfl rfl rfl (rn_ld Try.isAgg28 rfl rfl (hvC hl99 rfl)) ?_
      obtain ⟨x69, hx69, h⟩ := Option.bind_eq_some_iff.mp h
      refine WO.k2 rfl rfl rfl rfl (rn_index f98 hx69 Try.runUnderlying28 Try.sizeOf2 rfl rfl rfl rfl) ?_
      refine WO.k0 rfl rfl rfl rfl (rn_ld Try.isAgg2 rfl rfl (hvC (f98.gInt hx69) rfl)) ?_
      have f100 := f4.stp (S7.tr (S11.tr (S15.tr (S19.tr (S22.tr (S26.tr (S42.tr (S53.tr (S60.tr (S64.tr (S83.tr S94))))))))))) rfl rfl
      refine WO.k0 rfl rfl rfl rfl (rn_la (cs := [.int .i64 p0.In, .int .i64 p0.Out]) Try.isAgg35 Try.sizeOf35 rfl rfl rfl (haC f100.cells rfl)) ?_
      obtain ⟨x72, hx72, h⟩ := Option.bind_eq_some_iff.mp h
      refine WO.call rfl rfl rfl rfl rfl rfl Try.call91 (i_inputsOf_ok (κ := fun b => mp [] 0 (K82 b)) (p0 := p0) hx72) ?_
      rintro _ w101 ⟨k102, rfl, e103⟩
      obtain ⟨K104, S105, m106⟩ := Ent.mixed (l := []) (κ := K82) e103 12 rfl
      refine ⟨(S105.cl rfl), ?_⟩
      refine WO.pn 3 rfl ?_
      refine WO.nx ?_
      refine WO.fin ?_
      refine DN.seq ?_
      refine WC.seq ?_
      refine WC.rs [(0, 2), (1, 2), (2, 1), (3, 2), (4, 2), (5, 1), (6, 2), (7, 2), (8, 1), (9, 2), (10, 1), (11, 1)] rfl ?_
      refine WO.pn 1 rfl ?_
      refine WO.k2 rfl rfl rfl rfl (rn_fieldAddr Try.runUnderlying55 rfl Try.sizeOf24 rfl rfl) ?_
      have f108 := f12.stp (S15.tr (S19.tr (S22.tr (S26.tr (S42.tr (S53.tr (S60.tr (S64.tr (S83.tr (S94.tr S105)))))))))) rfl rfl
      refine WO.k1 trivial rfl rfl rfl rfl (rn_ld Try.isAgg24 rfl rfl (hvE (f108.ld 0 rfl rfl))) ?_
      refine WO.pn 1 rfl ?_
      obtain ⟨x80, hx80, h⟩ := Option.bind_eq_some_iff.mp h
      refine WO.k2 rfl rfl rfl rfl (rn_index g2_0 hx80 Try.runUnderlying24 Try.sizeOf28 rfl rfl rfl rfl) ?_
      have f109 := g2_0.stp (S3.tr (S7.tr (S11.tr (S15.tr (S19.tr (S22.tr (S26.tr (S42.tr (S53.tr (S60.tr (S64.tr (S83.tr (S94.tr S105))))))))))))) rfl rfl
      obtain ⟨ax80, ux80, f110, hl111⟩ := f109.gSl hx80
      refine WO.k1 trivial rfl rfl rfl rfl (rn_ld Try.isAgg28 rfl rfl (hvE hl111)) ?_
      refine WO.pn 1 rfl ?_
      obtain ⟨x83, hx83, h⟩ := Option.bind_eq_some_iff.mp h
      refine WO.k2 rfl rfl rfl rfl (rn_index f110 hx83 Try.runUnderlying28 Try.sizeOf2 rfl rfl rfl rfl) ?_
      refine WO.k1 trivial rfl rfl rfl rfl (rn_ld Try.isAgg2 rfl rfl (hvE (f110.gInt hx83))) ?_
      refine WO.k2 rfl rfl rfl rfl (rn_build (parts := [(0, .tmp 76), (1, .tmp 84)]) (cells := [.int .i64 x61, .int .i64 x83]) rfl rfl (by kernel_rfl)) ?_
      refine WO.alloc (κ := K104) 14 rfl rfl rfl rfl rfl Try.zeroValue149 rfl fun b19 w112 K113 S114 f115 => ⟨trivial, ?_⟩
      refine WO.stB0 (κ := K113) 14 (vc := [.int .i64 x61, .int .i64 x83]) rfl rfl rfl rfl rfl rfl rfl Try.sizeOf149 rfl rfl f115 rfl fun w116 S117 f118 => ⟨trivial, ?_⟩
      refine WO.fin ?_
      refine DN.seq ?_
      refine WC.seq ?_
      refine WC.rs [(0, 2), (1, 1), (2, 1), (3, 2), (4, 2), (5, 2), (6, 2), (7, 2)] rfl ?_
      refine WO.pn 1 rfl ?_
      refine WO.k1 trivial rfl rfl rfl rfl (rn_la (cs := [.int .i64 x61, .int .i64 x83]) Try.isAgg149 Try.sizeOf149 rfl rfl rfl (haE f118.cells)) ?_
      have f119 := f87.stp (S94.tr (S105.tr (S114.tr S117))) rfl rfl
      obtain ⟨x89, hx89, h⟩ := Option.bind_eq_some_iff.mp h
      refine WO.k1 trivial rfl rfl rfl rfl (rn_lookup (kf := kvI2) (vf := (fun v : Int => .int .i64 v)) keyEI2 Try.runUnderlying151 Try.zeroValue2 rfl rfl rfl (mvE f119) hx89) ?_
      refine WO.pn 5 rfl ?_
      refine WO.fin ?_
      refine DN.seq ?_
      refine WC.seq ?_
      refine WC.seq ?_
      refine WC.rs [(0, 2), (1, 2)] rfl ?_
      refine WO.pn 2 rfl ?_
      refine WO.fin ?_
      refine DN.seq ?_
      obtain ⟨q7, h, hK120⟩ := Option.bind_eq_some_iff.mp h
      refine WC.meet (fun L w' => ∃ (κ' : Col) (laq7_0 : Option Addr) (luq7_0 : Nat), L = [(3, .pointer (some ⟨b3, 0, none⟩)), (4, .pointer (some ⟨b4, 0, none⟩)), (5, .pointer (some ⟨b5, 0, none⟩)), (8, .slice laq7_0 q7.1.length luq7_0), (9, .map (some mb29)), (10, .pointer (some ⟨b33, 0, none⟩)), (11, .int .i64 s1.2.1), (12, .int .i64 x42.1), (13, .int .i64 x47.2), (14, .slice las4_1 s4.2.1.length lus4_1), (15, .slice las4_2 s4.2.2.1.length lus4_2), (18, .int .i64 (IntKind.i64.wrap ((IntKind.i64.wrap (x69 * x72)) + v58))), (20, .int .i64 q7.2.1), (56, .slice ax55 x55.length ux55), (57, .int .i64 (x55.length : Int)), (58, .int .i64 v58)] ∧ Stp [5, 6] K113 w116 κ' w' ∧ Oc (Ep.pair (Ep.int .i64) (Ep.int .i64)) 149 κ' w' 5 laq7_0 luq7_0 q7.1 ∧ Mc kwI2 kvI2 (fun v : Int => .int .i64 v) κ' w' 6 mb29 q7.2.2) ?_ ?_
      ·
       revert h
       cases ht127 : (!x89.2) with
       | true =>
        intro h; replace h := cT h
        refine WC.ct rfl ?_
        refine WC.seq ?_
        refine WC.rs [(0, 2), (1, 2), (2, 2)] rfl ?_
        refine WO.pn 1 rfl ?_
        refine WO.k2 rfl rfl rfl rfl (rn_len Try.runUnderlying150 rfl rfl) ?_
        refine WO.pn 1 rfl ?_
        refine WO.fin ?_
        refine DN.seq ?_
        refine WC.seq ?_
        refine WC.rs [(0, 2), (1, 1), (2, 2), (3, 1)] rfl ?_
        refine WO.pn 1 rfl ?_
        refine WO.k1 trivial rfl rfl rfl rfl (rn_la (cs := [.int .i64 x61, .int .i64 x83]) Try.isAgg149 Try.sizeOf149 rfl rfl rfl (haE f118.cells)) ?_
        refine WO.pn 1 rfl ?_
        obtain ⟨y26, hy26, h⟩ := Option.bind_eq_some_iff.mp h
        refine WO.mapup (κ := K113) (kf := kvI2) (vf := (fun v : Int => .int .i64 v)) (v := (s4.1.length : Int)) 6 rfl rfl rfl rfl rfl rfl rfl keyEI2 Try.runUnderlying151 f119 hy26 fun w128 S129 f130 => ⟨trivial, ?_⟩
        refine WO.fin ?_
        refine DN.seq ?_
        refine WC.rs [(0, 2), (1, 1), (2, 1), (3, 1), (4, 2)] rfl ?_
        refine WO.pn 1 rfl ?_
        have f131 := f118.stp S129 rfl rfl
        refine WO.k1 trivial rfl rfl rfl rfl (rn_la (cs := [.int .i64 x61, .int .i64 x83]) Try.isAgg149 Try.sizeOf149 rfl rfl rfl (haE f131.cells)) ?_
        refine WO.bl (κ := K113) (E := (Ep.pair (Ep.int .i64) (Ep.int .i64))) 15 [] (parts := [(0, .tmp 100)]) (cells := [.int .i64 x61, .int .i64 x83]) (xs := ([(x61, x83)] : List (Int × Int))) rfl rfl rfl rfl rfl rfl Try.underlying150 Tryinfo149 rfl rfl rfl rfl rfl rfl rfl rfl rfl rfl ⟨[.int .i64 x61, .int .i64 x83], [], Zl K113 w128 [], Zl K113 w128 [], rfl, Zl.sp (l1 := []) (l2 := []) rfl, Zl.sr (l1 := []) (l2 := []), ⟨[.int .i64 x61], [.int .i64 x83], Zl K113 w128 [], Zl K113 w128 [], rfl, Zl.sp (l1 := []) (l2 := []) rfl, Zl.sr (l1 := []) (l2 := []), rfl, rfl⟩, rfl⟩ fun a101 u101 w132 K133 S134 f135 => ⟨trivial, ?_⟩
        obtain ⟨x102, hx102, h⟩ := Option.bind_eq_some_iff.mp h
        have f136 := f84.stp (S94.tr (S105.tr (S114.tr (S117.tr (S129.tr S134))))) rfl rfl
        refine WO.app (κ := K133) (E := (Ep.pair (Ep.int .i64) (Ep.int .i64))) 5 [] rfl rfl rfl rfl rfl rfl rfl rfl rfl Try.underlying150 Tryinfo149 rfl rfl rfl rfl f136 (Sl.srcP (pu_pair (pu_int _) (pu_int _)) f135.rdc) sy_false hx102 rfl fun a102 u102 w137 K138 S139 f140 => ⟨trivial, ?_⟩
        refine WO.pn 1 rfl ?_
        refine WO.fin ?_
        have f141 := f130.stp (S134.tr S139) rfl rfl
        obtain rfl := Option.some.inj h
        exact DN.meet _ ⟨K138, a102, u102, rfl, (S129.tr (S134.tr S139)).wk rfl, f140, f141⟩ fun a ha => (ha.more (ha.more (ha.more (ha.more (ha.more (ha.more (ha.more (ha.more (ha.more (ha.more (ha.more (ha.more (ha.more (ha.more (ha.more (ha.more ha.nil rfl) rfl) rfl) rfl) rfl) rfl) rfl) rfl) rfl) rfl) rfl) rfl) rfl) rfl) rfl) rfl)
       | false =>
        intro h; replace h := cF h
        refine WC.cf rfl ?_
        refine WC.skip ?_
        have f142 := f84.stp (S94.tr (S105.tr (S114.tr S117))) rfl rfl
        obtain rfl := Option.some.inj h
        exact DN.meet _ ⟨K113, las4_0, lus4_0, rfl, (Stp.refl _ _).wk rfl, f142, f119⟩ fun a ha => (ha.more (ha.more (ha.more (ha.more (ha.more (ha.more (ha.more (ha.more (ha.more (ha.more (ha.more (ha.more (ha.more (ha.more (ha.more (ha.more ha.nil rfl) rfl) rfl) rfl) rfl) rfl) rfl) rfl) rfl) rfl) rfl) rfl) rfl) rfl) rfl) rfl)
      rintro _ w121 ⟨K122, laq7_0, luq7_0, rfl, S123, f124, f125⟩
      have h := hK120
      refine DN.seq ?_
      refine WC.rs [(0, 2), (1, 2), (2, 1), (3, 1), (4, 2), (5, 2), (6, 1), (7, 1), (8, 2), (9, 2)] rfl ?_
      refine WO.pn 2 rfl ?_
      refine WO.bl (κ := K122) (E := (Ep.int .i64)) 15 [] (parts := [(0, .tmp 104)]) (cells := [.int .i64 q7.2.1]) (xs := ([q7.2.1] : List Int)) rfl rfl rfl rfl rfl rfl Try.underlying28 Tryinfo2 rfl rfl rfl rfl rfl rfl rfl rfl rfl rfl ⟨[.int .i64 q7.2.1], [], Zl K122 w121 [], Zl K122 w121 [], rfl, Zl.sp (l1 := []) (l2 := []) rfl, Zl.sr (l1 := []) (l2 := []), rfl, rfl⟩ fun a105 u105 w143 K144 S145 f146 => ⟨trivial, ?_⟩
      obtain ⟨x106, hx106, h⟩ := Option.bind_eq_some_iff.mp h
      have f147 := f85.stp (S94.tr (S105.tr (S114.tr (S117.tr (S123.tr S145))))) rfl rfl
      refine WO.app (κ := K144) (E := (Ep.int .i64)) 10 [] rfl rfl rfl rfl rfl rfl rfl rfl rfl Try.underlying28 Tryinfo2 rfl rfl rfl rfl f147 (Sl.srcP (pu_int _) f146.rdc) sy_false hx106 rfl fun a106 u106 w148 K149 S150 f151 => ⟨trivial, ?_⟩
      refine WO.pn 2 rfl ?_
      refine WO.bl (κ := K149) (E := (Ep.int .i64)) 16 [] (parts := [(0, .tmp 108)]) (cells := [.int .i64 (IntKind.i64.wrap ((IntKind.i64.wrap (x69 * x72)) + v58))]) (xs := ([(IntKind.i64.wrap ((IntKind.i64.wrap (x69 * x72)) + v58))] : List Int)) rfl rfl rfl rfl rfl rfl Try.underlying28 Tryinfo2 rfl rfl rfl rfl rfl rfl rfl rfl rfl rfl ⟨[.int .i64 (IntKind.i64.wrap ((IntKind.i64.wrap (x69 * x72)) + v58))], [], Zl K149 w148 [], Zl K149 w148 [], rfl, Zl.sp (l1 := []) (l2 := []) rfl, Zl.sr (l1 := []) (l2 := []), rfl, rfl⟩ fun a109 u109 w152 K153 S154 f155 => ⟨trivial, ?_⟩
      obtain ⟨x110, hx110, h⟩ := Option.bind_eq_some_iff.mp h
      have f156 := f86.stp (S94.tr (S105.tr (S114.tr (S117.tr (S123.tr (S145.tr (S150.tr S154))))))) rfl rfl
      refine WO.app (κ := K153) (E := (Ep.int .i64)) 11 [] rfl rfl rfl rfl rfl rfl rfl rfl rfl Try.underlying28 Tryinfo2 rfl rfl rfl rfl f156 (Sl.srcP (pu_int _) f155.rdc) sy_false hx110 rfl fun a110 u110 w157 K158 S159 f160 => ⟨trivial, ?_⟩
      refine WO.pn 2 rfl ?_
      refine WO.fin ?_
      refine DN.block ?_
      refine DN.seq ?_
      refine WC.rs [(0, 2), (1, 2)] rfl ?_
      refine WO.pn 2 rfl ?_
      refine WO.fin ?_
      have hw70 : IntKind.wrap .i64 (v58 + 1) = v58 + 1 := wr1 hj70 (of_decide_eq_true hc70) hN70
      rw [hw70]
      have hc70 := of_decide_eq_true hc70
      have f161 := f124.stp (S145.tr (S150.tr (S154.tr S159))) rfl rfl
      have f162 := f151.stp (S154.tr S159) rfl rfl
      have f163 := f125.stp (S145.tr (S150.tr (S154.tr S159))) rfl rfl
      obtain rfl := Option.some.inj h
      refine DN.round fun a ha => ?_
      exact ⟨k, _, Nat.lt_succ_self _, ⟨K158, v58 + 1, ((q7.1 : (List (Int × Int))), (x106 : (List Int)), (x110 : (List Int)), (q7.2.2 : (List ((Int × Int) × Int)))), laq7_0, luq7_0, a106, u106, a110, u110, rfl, (S83.tr (S94.tr (S105.tr (S114.tr (S117.tr (S123.tr (S145.tr (S150.tr (S154.tr S159))))))))).wk rfl, f161, f162, f160, f163, by omega, by omega, hk92⟩, (ha.more (ha.more (ha.more (ha.more (ha.more (ha.more (ha.more (ha.more (ha.more (ha.more (ha.more (ha.more (ha.more (ha.more ha.nil rfl) rfl) rfl) rfl) rfl) rfl) rfl) rfl) rfl) rfl) rfl) rfl) rfl) rfl)⟩
    rintro _ w73 ⟨K74, s6, las6_0, lus6_0, las6_1, lus6_1, las6_2, lus6_2, rfl, S75, f76, f77, f78, f79, rfl⟩
    have h := hK71
    dsimp only [aft] at h
    refine DN.seq ?_
    refine WC.seq ?_
    refine WC.seq ?_
    refine WC.rs [(0, 2), (1, 2), (2, 2)] rfl ?_
    refine WO.pn 1 rfl ?_
    refine WO.k2 rfl rfl rfl rfl (rn_len Try.runUnderlying150 rfl rfl) ?_
    refine WO.pn 1 rfl ?_
    refine WO.fin ?_
    refine DN.seq ?_
    revert h
    cases ht164 : decide (256 < (s6.1.length : Int)) with
    | true =>
     intro h; replace h := cT h
     refine WC.ct rfl ?_
     refine WC.seq ?_
     refine WC.rs [(0, 2), (1, 2)] rfl ?_
     refine WO.pn 2 rfl ?_
     refine WO.fin ?_
     refine DN.seq ?_
     refine WC.ret ?_
     refine DN.retThen ?_
     refine DN.retBlock ?_
     refine DN.retThen ?_
     refine DN.retThen ?_
     obtain rfl := Option.some.inj h
     obtain rfl := Option.some.inj hk51
     have h := hK29
     dsimp only [aft] at h
     refine DN.retBlock ?_
     refine DN.retMeet ?_
     refine DN.retThen ?_
     have f165 := hE.stp (S3.tr (S7.tr (S11.tr (S15.tr (S19.tr (S22.tr (S26.tr (S42.tr (S53.tr (S60.tr (S64.tr S75))))))))))) rfl rfl
     refine DN.res (l := [.tmp 6, .tmp 7]) Try.results67 (res_tmp rfl (res_tmp rfl rfl)) rfl ?_
     obtain rfl := Option.some.inj h
     exact ⟨K74, none, 0, none, 0, none, 0, 0, rfl, f165, Ow.nil, Ow.nil, Ow.nil, (fun h => absurd h Bool.false_ne_true)⟩
    | false =>
     intro h; replace h := cF h
     refine WC.cf rfl ?_
     refine WC.skip ?_
     refine DN.seq ?_
     obtain ⟨x123, hx123, h⟩ := Option.bind_eq_some_iff.mp h
     obtain ⟨x130, hx130, h⟩ := Option.bind_eq_some_iff.mp h
     refine WC.meet (fun L w' => ∃ (κ' : Col) (lar169_0 : Option Addr) (lur169_0 : Nat) (lar169_1 : Option Addr) (lur169_1 : Nat), L = [(3, .pointer (some ⟨b3, 0, none⟩)), (4, .pointer (some ⟨b4, 0, none⟩)), (5, .pointer (some ⟨b5, 0, none⟩)), (8, .slice las6_0 s6.1.length lus6_0), (9, .map (some mb29)), (10, .pointer (some ⟨b33, 0, none⟩)), (11, .int .i64 s1.2.1)] ∧ Stp [7, 8, 9, 10, 11, 12, 13] K74 w73 κ' w' ∧ Oc (Ep.own (Ep.int .i64) 2) 28 κ' w' 12 lar169_0 lur169_0 x123 ∧ Oc (Ep.own (Ep.int .i64) 2) 28 κ' w' 13 lar169_1 lur169_1 x130 ∧ Bc κ' w' 7 b33 120 [.slice lar169_0 x123.length lur169_0, .slice lar169_1 x130.length lur169_1, .slice none 0 0]) ?_ ?_
     ·
      refine WC.rxt (κ := K74) [7] (some 18) (by kernel_rfl) fun w173 S174 => ?_
      refine WA.seg (fuel := 10) [(0, 2), (1, 2), (2, 2), (3, 2), (4, 2), (6, 2), (9, 2), (10, 2), (11, 2), (13, 2), (5, 0), (12, 0)] (by kernel_rfl) (by kernel_rfl) rfl ?_
      refine WO.pn 3 rfl ?_
      refine WO.k2 rfl rfl rfl rfl (rn_nilCheck rfl rfl) ?_
      refine WO.k2 rfl rfl rfl rfl (rn_fieldAddr Try.runUnderlying120 rfl Try.sizeOf24 rfl rfl) ?_
      refine WO.pn 2 rfl ?_
      refine WO.k2 rfl rfl rfl rfl (rn_nilCheck rfl rfl) ?_
      refine WO.k2 rfl rfl rfl rfl (rn_fieldAddr Try.runUnderlying120 rfl Try.sizeOf24 rfl rfl) ?_
      refine WO.pn 1 rfl ?_
      have f175 := f48.stp (S53.tr (S60.tr (S64.tr (S75.tr S174)))) rfl rfl
      refine WO.k0 rfl rfl rfl rfl (rn_ld Try.isAgg24 rfl rfl (hvC (f175.ld 0 rfl rfl) rfl)) ?_
      refine WO.k0 rfl rfl rfl rfl (rn_ld Try.isAgg24 rfl rfl (hvC (f175.ld 1 rfl rfl) rfl)) ?_
      refine WO.wa ?_
      refine WA.fork2 (fuel := 9) 7 14 (by kernel_rfl) rfl ?_ ?_
      ·
       have f176 := f77.stp S174 rfl rfl
       refine WO.bl (κ := K74) (E := (Ep.own (Ep.int .i64) 2)) 12 [10] (parts := [(0, .tmp 121)]) (cells := [.slice las6_1 s6.2.1.length lus6_1]) (xs := ([s6.2.1] : List (List Int))) rfl rfl rfl rfl rfl rfl Try.underlying24 Tryinfo28 rfl rfl rfl rfl rfl rfl rfl rfl rfl rfl ⟨[.slice las6_1 s6.2.1.length lus6_1], [], Zl K74 w173 [10], Zl K74 w173 [], rfl, Zl.sp (l1 := [10]) (l2 := []) rfl, Zl.sr (l1 := [10]) (l2 := []), ⟨_, _, rfl, f176⟩, rfl⟩ fun a122 u122 w177 K178 S179 f180 => ⟨(S179.cl rfl), ?_⟩
       refine WO.wa ?_
       refine WA.fork2 (fuel := 8) 8 14 (by kernel_rfl) rfl ?_ ?_
       ·
        have f181 := f44.stp (S53.tr (S60.tr (S64.tr (S75.tr (S174.tr S179))))) rfl rfl
        refine WO.app (κ := K178) (E := (Ep.own (Ep.int .i64) 2)) 8 [12] rfl rfl rfl rfl rfl rfl rfl rfl rfl Try.underlying24 Tryinfo28 rfl rfl rfl rfl f181 f180.src (sy_one rfl) hx123 rfl fun a123 u123 w182 K183 S184 f185 => ⟨((S179.tr S184).cl rfl), ?_⟩
        refine WO.wa ?_
        refine WA.seg (fuel := 4) [(14, 1), (15, 1), (16, 2), (17, 2)] (by kernel_rfl) (by kernel_rfl) rfl ?_
        have f186 := f78.stp (S174.tr (S179.tr S184)) rfl rfl
        refine WO.bl (κ := K183) (E := (Ep.own (Ep.int .i64) 2)) 13 [11] (parts := [(0, .tmp 128)]) (cells := [.slice las6_2 s6.2.2.1.length lus6_2]) (xs := ([s6.2.2.1] : List (List Int))) rfl rfl rfl rfl rfl rfl Try.underlying24 Tryinfo28 rfl rfl rfl rfl rfl rfl rfl rfl rfl rfl ⟨[.slice las6_2 s6.2.2.1.length lus6_2], [], Zl K183 w182 [11], Zl K183 w182 [], rfl, Zl.sp (l1 := [11]) (l2 := []) rfl, Zl.sr (l1 := [11]) (l2 := []), ⟨_, _, rfl, f186⟩, rfl⟩ fun a129 u129 w187 K188 S189 f190 => ⟨((S179.tr (S184.tr S189)).cl rfl), ?_⟩
        have f191 := f45.stp (S53.tr (S60.tr (S64.tr (S75.tr (S174.tr (S179.tr (S184.tr S189))))))) rfl rfl
        refine WO.app (κ := K188) (E := (Ep.own (Ep.int .i64) 2)) 9 [13] rfl rfl rfl rfl rfl rfl rfl rfl rfl Try.underlying24 Tryinfo28 rfl rfl rfl rfl f191 f190.src (sy_one rfl) hx130 rfl fun a130 u130 w192 K193 S194 f195 => ⟨((S179.tr (S184.tr (S189.tr S194))).cl rfl), ?_⟩
        refine WO.k2 rfl rfl rfl rfl (rn_nilCheck rfl rfl) ?_
        refine WO.k2 rfl rfl rfl rfl (rn_fieldAddr Try.runUnderlying120 rfl Try.sizeOf24 rfl rfl) ?_
        refine WO.wa ?_
        refine WA.brk (fuel := 3) 18 (by kernel_rfl) rfl (by kernel_rfl) ?_
        have f196 := f175.stp (S179.tr (S184.tr (S189.tr S194))) rfl rfl
        refine WO.stB (κ := K193) 7 (off := 0) (vc := [.slice a123 x123.length u123]) (cs' := [.slice a123 x123.length u123, .slice las1_2 s1.2.2.2.1.length lus1_2, .slice none 0 0]) rfl rfl rfl rfl rfl rfl rfl Try.sizeOf24 rfl rfl f196 rfl rfl fun w197 S198 f199 => ⟨trivial, ?_⟩
        refine WO.wa ?_
        refine WA.seg (fuel := 0) [(19, 2), (20, 2), (21, 1)] (by kernel_rfl) (by kernel_rfl) rfl ?_
        refine WO.k2 rfl rfl rfl rfl (rn_nilCheck rfl rfl) ?_
        refine WO.k2 rfl rfl rfl rfl (rn_fieldAddr Try.runUnderlying120 rfl Try.sizeOf24 rfl rfl) ?_
        refine WO.stB (κ := K193) 7 (off := 1) (vc := [.slice a130 x130.length u130]) (cs' := [.slice a123 x123.length u123, .slice a130 x130.length u130, .slice none 0 0]) rfl rfl rfl rfl rfl rfl rfl Try.sizeOf24 rfl rfl f199 rfl rfl fun w200 S201 f202 => ⟨trivial, ?_⟩
        refine WO.wa ?_
        refine WA.last [] (by kernel_rfl) (by kernel_rfl) rfl ?_
        refine WO.fin ?_
        have f203 := f185.stp (S189.tr (S194.tr (S198.tr S201))) rfl rfl
        have f204 := f195.stp (S198.tr S201) rfl rfl
        exact DN.meet _ ⟨(fun b => ren [(8, 12), (9, 13)] (K193 b)), a123, u123, a130, u130, rfl, (Stp.ren ((S174.tr (S179.tr (S184.tr (S189.tr (S194.tr (S198.tr S201)))))).wk rfl) [(8, 12), (9, 13)] rfl), (f203.map (ren [(8, 12), (9, 13)]) rfl rfl), (f204.map (ren [(8, 12), (9, 13)]) rfl rfl), (f202.map (ren [(8, 12), (9, 13)]) rfl rfl)⟩ fun a ha => (ha.more (ha.more (ha.more (ha.more (ha.more (ha.more (ha.more ha.nil rfl) rfl) rfl) rfl) rfl) rfl) rfl)
       ·
        have f205 := f78.stp (S174.tr S179) rfl rfl
        refine WO.bl (κ := K178) (E := (Ep.own (Ep.int .i64) 2)) 13 [11] (parts := [(0, .tmp 128)]) (cells := [.slice las6_2 s6.2.2.1.length lus6_2]) (xs := ([s6.2.2.1] : List (List Int))) rfl rfl rfl rfl rfl rfl Try.underlying24 Tryinfo28 rfl rfl rfl rfl rfl rfl rfl rfl rfl rfl ⟨[.slice las6_2 s6.2.2.1.length lus6_2], [], Zl K178 w177 [11], Zl K178 w177 [], rfl, Zl.sp (l1 := [11]) (l2 := []) rfl, Zl.sr (l1 := [11]) (l2 := []), ⟨_, _, rfl, f205⟩, rfl⟩ fun a129 u129 w206 K207 S208 f209 => ⟨((S179.tr S208).cl rfl), ?_⟩
        refine WO.wa ?_
        refine WA.seg (fuel := 4) [(8, 1), (15, 1), (16, 2), (17, 2)] (by kernel_rfl) (by kernel_rfl) rfl ?_
        have f210 := f180.stp S208 rfl rfl
        have f211 := f44.stp (S53.tr (S60.tr (S64.tr (S75.tr (S174.tr (S179.tr S208)))))) rfl rfl
        refine WO.app (κ := K207) (E := (Ep.own (Ep.int .i64) 2)) 8 [12] rfl rfl rfl rfl rfl rfl rfl rfl rfl Try.underlying24 Tryinfo28 rfl rfl rfl rfl f211 f210.src (sy_one rfl) hx123 rfl fun a123 u123 w212 K213 S214 f215 => ⟨((S179.tr (S208.tr S214)).cl rfl), ?_⟩
        have f216 := f209.stp S214 rfl rfl
        have f217 := f45.stp (S53.tr (S60.tr (S64.tr (S75.tr (S174.tr (S179.tr (S208.tr S214))))))) rfl rfl
        refine WO.app (κ := K213) (E := (Ep.own (Ep.int .i64) 2)) 9 [13] rfl rfl rfl rfl rfl rfl rfl rfl rfl Try.underlying24 Tryinfo28 rfl rfl rfl rfl f217 f216.src (sy_one rfl) hx130 rfl fun a130 u130 w218 K219 S220 f221 => ⟨((S179.tr (S208.tr (S214.tr S220))).cl rfl), ?_⟩
        refine WO.k2 rfl rfl rfl rfl (rn_nilCheck rfl rfl) ?_
        refine WO.k2 rfl rfl rfl rfl (rn_fieldAddr Try.runUnderlying120 rfl Try.sizeOf24 rfl rfl) ?_
        refine WO.wa ?_
        refine WA.brk (fuel := 3) 18 (by kernel_rfl) rfl (by kernel_rfl) ?_
        have f222 := f175.stp (S179.tr (S208.tr (S214.tr S220))) rfl rfl
        refine WO.stB (κ := K219) 7 (off := 0) (vc := [.slice a123 x123.length u123]) (cs' := [.slice a123 x123.length u123, .slice las1_2 s1.2.2.2.1.length lus1_2, .slice none 0 0]) rfl rfl rfl rfl rfl rfl rfl Try.sizeOf24 rfl rfl f222 rfl rfl fun w223 S224 f225 => ⟨trivial, ?_⟩
        refine WO.wa ?_
        refine WA.seg (fuel := 0) [(19, 2), (20, 2), (21, 1)] (by kernel_rfl) (by kernel_rfl) rfl ?_
        refine WO.k2 rfl rfl rfl rfl (rn_nilCheck rfl rfl) ?_
        refine WO.k2 rfl rfl rfl rfl (rn_fieldAddr Try.runUnderlying120 rfl Try.sizeOf24 rfl rfl) ?_
        refine WO.stB (κ := K219) 7 (off := 1) (vc := [.slice a130 x130.length u130]) (cs' := [.slice a123 x123.length u123, .slice a130 x130.length u130, .slice none 0 0]) rfl rfl rfl rfl rfl rfl rfl Try.sizeOf24 rfl rfl f225 rfl rfl fun w226 S227 f228 => ⟨trivial, ?_⟩
        refine WO.wa ?_
        refine WA.last [] (by kernel_rfl) (by kernel_rfl) rfl ?_
        refine WO.fin ?_
        have f229 := f215.stp (S220.tr (S224.tr S227)) rfl rfl
        have f230 := f221.stp (S224.tr S227) rfl rfl
        exact DN.meet _ ⟨(fun b => ren [(8, 12), (9, 13)] (K219 b)), a123, u123, a130, u130, rfl, (Stp.ren ((S174.tr (S179.tr (S208.tr (S214.tr (S220.tr (S224.tr S227)))))).wk rfl) [(8, 12), (9, 13)] rfl), (f229.map (ren [(8, 12), (9, 13)]) rfl rfl), (f230.map (ren [(8, 12), (9, 13)]) rfl rfl), (f228.map (ren [(8, 12), (9, 13)]) rfl rfl)⟩ fun a ha => (ha.more (ha.more (ha.more (ha.more (ha.more (ha.more (ha.more ha.nil rfl) rfl) rfl) rfl) rfl) rfl) rfl)
      ·
       have f231 := f78.stp S174 rfl rfl
       refine WO.bl (κ := K74) (E := (Ep.own (Ep.int .i64) 2)) 12 [11] (parts := [(0, .tmp 128)]) (cells := [.slice las6_2 s6.2.2.1.length lus6_2]) (xs := ([s6.2.2.1] : List (List Int))) rfl rfl rfl rfl rfl rfl Try.underlying24 Tryinfo28 rfl rfl rfl rfl rfl rfl rfl rfl rfl rfl ⟨[.slice las6_2 s6.2.2.1.length lus6_2], [], Zl K74 w173 [11], Zl K74 w173 [], rfl, Zl.sp (l1 := [11]) (l2 := []) rfl, Zl.sr (l1 := [11]) (l2 := []), ⟨_, _, rfl, f231⟩, rfl⟩ fun a129 u129 w232 K233 S234 f235 => ⟨(S234.cl rfl), ?_⟩
       refine WO.wa ?_
       refine WA.seg (fuel := 4) [(7, 1), (8, 1), (15, 1), (16, 2), (17, 2)] (by kernel_rfl) (by kernel_rfl) rfl ?_
       have f236 := f77.stp (S174.tr S234) rfl rfl
       refine WO.bl (κ := K233) (E := (Ep.own (Ep.int .i64) 2)) 13 [10] (parts := [(0, .tmp 121)]) (cells := [.slice las6_1 s6.2.1.length lus6_1]) (xs := ([s6.2.1] : List (List Int))) rfl rfl rfl rfl rfl rfl Try.underlying24 Tryinfo28 rfl rfl rfl rfl rfl rfl rfl rfl rfl rfl ⟨[.slice las6_1 s6.2.1.length lus6_1], [], Zl K233 w232 [10], Zl K233 w232 [], rfl, Zl.sp (l1 := [10]) (l2 := []) rfl, Zl.sr (l1 := [10]) (l2 := []), ⟨_, _, rfl, f236⟩, rfl⟩ fun a122 u122 w237 K238 S239 f240 => ⟨((S234.tr S239).cl rfl), ?_⟩
       have f241 := f44.stp (S53.tr (S60.tr (S64.tr (S75.tr (S174.tr (S234.tr S239)))))) rfl rfl
       refine WO.app (κ := K238) (E := (Ep.own (Ep.int .i64) 2)) 8 [13] rfl rfl rfl rfl rfl rfl rfl rfl rfl Try.underlying24 Tryinfo28 rfl rfl rfl rfl f241 f240.src (sy_one rfl) hx123 rfl fun a123 u123 w242 K243 S244 f245 => ⟨((S234.tr (S239.tr S244)).cl rfl), ?_⟩
       have f246 := f235.stp (S239.tr S244) rfl rfl
       have f247 := f45.stp (S53.tr (S60.tr (S64.tr (S75.tr (S174.tr (S234.tr (S239.tr S244))))))) rfl rfl
       refine WO.app (κ := K243) (E := (Ep.own (Ep.int .i64) 2)) 9 [12] rfl rfl rfl rfl rfl rfl rfl rfl rfl Try.underlying24 Tryinfo28 rfl rfl rfl rfl f247 f246.src (sy_one rfl) hx130 rfl fun a130 u130 w248 K249 S250 f251 => ⟨((S234.tr (S239.tr (S244.tr S250))).cl rfl), ?_⟩
       refine WO.k2 rfl rfl rfl rfl (rn_nilCheck rfl rfl) ?_
       refine WO.k2 rfl rfl rfl rfl (rn_fieldAddr Try.runUnderlying120 rfl Try.sizeOf24 rfl rfl) ?_
       refine WO.wa ?_
       refine WA.brk (fuel := 3) 18 (by kernel_rfl) rfl (by kernel_rfl) ?_
       have f252 := f175.stp (S234.tr (S239.tr (S244.tr S250))) rfl rfl
       refine WO.stB (κ := K249) 7 (off := 0) (vc := [.slice a123 x123.length u123]) (cs' := [.slice a123 x123.length u123, .slice las1_2 s1.2.2.2.1.length lus1_2, .slice none 0 0]) rfl rfl rfl rfl rfl rfl rfl Try.sizeOf24 rfl rfl f252 rfl rfl fun w253 S254 f255 => ⟨trivial, ?_⟩
       refine WO.wa ?_
       refine WA.seg (fuel := 0) [(19, 2), (20, 2), (21, 1)] (by kernel_rfl) (by kernel_rfl) rfl ?_
       refine WO.k2 rfl rfl rfl rfl (rn_nilCheck rfl rfl) ?_
       refine WO.k2 rfl rfl rfl rfl (rn_fieldAddr Try.runUnderlying120 rfl Try.sizeOf24 rfl rfl) ?_
       refine WO.stB (κ := K249) 7 (off := 1) (vc := [.slice a130 x130.length u130]) (cs' := [.slice a123 x123.length u123, .slice a130 x130.length u130, .slice none 0 0]) rfl rfl rfl rfl rfl rfl rfl Try.sizeOf24 rfl rfl f255 rfl rfl fun w256 S257 f258 => ⟨trivial, ?_⟩
       refine WO.wa ?_
       refine WA.last [] (by kernel_rfl) (by kernel_rfl) rfl ?_
       refine WO.fin ?_
       have f259 := f245.stp (S250.tr (S254.tr S257)) rfl rfl
       have f260 := f251.stp (S254.tr S257) rfl rfl
       exact DN.meet _ ⟨(fun b => ren [(8, 12), (9, 13)] (K249 b)), a123, u123, a130, u130, rfl, (Stp.ren ((S174.tr (S234.tr (S239.tr (S244.tr (S250.tr (S254.tr S257)))))).wk rfl) [(8, 12), (9, 13)] rfl), (f259.map (ren [(8, 12), (9, 13)]) rfl rfl), (f260.map (ren [(8, 12), (9, 13)]) rfl rfl), (f258.map (ren [(8, 12), (9, 13)]) rfl rfl)⟩ fun a ha => (ha.more (ha.more (ha.more (ha.more (ha.more (ha.more (ha.more ha.nil rfl) rfl) rfl) rfl) rfl) rfl) rfl)
     rintro _ w166 ⟨K167, lar169_0, lur169_0, lar169_1, lur169_1, rfl, S168, f170, f171, f172⟩
     refine DN.block ?_
     refine DN.seq ?_
     refine WC.rs [(0, 2), (1, 2), (2, 2)] rfl ?_
     refine WO.pn 3 rfl ?_
     refine WO.fin ?_
     have f261 := f76.stp S168 rfl rfl
     have f262 := f79.stp S168 rfl rfl
     obtain rfl := Option.some.inj h
     refine DN.round fun a ha => ?_
     exact ⟨k, _, Nat.lt_succ_self _, ⟨(fun b => ren [(12, 8), (13, 9)] (K167 b)), ((s6.1 : (List (Int × Int))), ((IntKind.i64.wrap (s1.2.1 + 1)) : Int), (x123 : (List (List Int))), (x130 : (List (List Int))), (s6.2.2.2 : (List ((Int × Int) × Int)))), las6_0, lus6_0, lar169_0, lur169_0, lar169_1, lur169_1, rfl, (Stp.ren ((S42.tr (S53.tr (S60.tr (S64.tr (S75.tr S168))))).wk rfl) [(12, 8), (13, 9)] rfl), (f261.map (ren [(12, 8), (13, 9)]) rfl rfl), (f170.map (ren [(12, 8), (13, 9)]) rfl rfl), (f171.map (ren [(12, 8), (13, 9)]) rfl rfl), (f262.map (ren [(12, 8), (13, 9)]) rfl rfl), (f172.map (ren [(12, 8), (13, 9)]) rfl rfl), hk51⟩, (ha.more (ha.more (ha.more (ha.more (ha.more (ha.more (ha.more ha.nil rfl) rfl) rfl) rfl) rfl) rfl) rfl)⟩
   | false =>
    intro h; replace h := cF h
    refine WC.cf rfl ?_
    refine WC.exit ?_
    refine DN.exitThen ?_
    refine DN.exitThen ?_
    obtain rfl := Option.some.inj h
    have h := hk51
    refine DN.hit ?_
    obtain rfl := Option.some.inj h
    exact DN.meet _ ⟨K41, ((s1.1 : (List (Int × Int))), (s1.2.1 : Int), (s1.2.2.1 : (List (List Int))), (s1.2.2.2.1 : (List (List Int))), (s1.2.2.2.2 : (List ((Int × Int) × Int)))), las1_0, lus1_0, las1_1, lus1_1, las1_2, lus1_2, rfl, S42.wk rfl, f43, f44, f45, f46, f48, rfl⟩ fun a ha => (ha.more (ha.more (ha.more ha.nil rfl) rfl) rfl)
 rintro _ w31 ⟨K32, s3, las3_0, lus3_0, las3_1, lus3_1, las3_2, lus3_2, rfl, S33, f34, f35, f36, f37, f39, rfl⟩
 have h := hK29
 dsimp only [aft] at h
 refine DN.seq ?_
 refine WC.seq ?_
 refine WC.seq ?_
 refine WC.rs [(0, 2), (1, 1), (2, 2), (3, 2)] rfl ?_
 refine WO.k2 rfl rfl rfl rfl (rn_fieldAddr Try.runUnderlying55 rfl Try.sizeOf51 rfl rfl) ?_
 have f263 := f12.stp (S15.tr (S19.tr (S22.tr (S26.tr S33)))) rfl rfl
 refine WO.k1 trivial rfl rfl rfl rfl (rn_ld Try.isAgg51 rfl rfl (hvE (f263.ld 1 rfl rfl))) ?_
 refine WO.k2 rfl rfl rfl rfl (rn_len Try.runUnderlying51 rfl rfl) ?_
 refine WO.pn 1 rfl ?_
 refine WO.fin ?_
 refine DN.seq ?_
 have hN264 : (p2.Pairs.length : Int) ≤ 9223372036854775807 := g2_1.len_le
 obtain ⟨q9, hq266, hK265⟩ := Option.bind_eq_some_iff.mp h
 clear h
 refine WC.meet (fun L w' => ∃ (κ' : Col) (s10 : (List Pair)) (las10_0 : Option Addr) (lus10_0 : Nat), L = [(10, .pointer (some ⟨b33, 0, none⟩))] ∧ Stp [7, 10, 11, 12, 13, 14, 15] K32 w31 κ' w' ∧ Oc Pair.ep113 113 κ' w' 10 las10_0 lus10_0 s10 ∧ Bc κ' w' 7 b33 120 [.slice las3_1 s3.2.2.1.length lus3_1, .slice las3_2 s3.2.2.2.1.length lus3_2, .slice las10_0 s10.length lus10_0] ∧ q9 = Sum.inr s10) ?_ ?_
 ·
  refine WC.block ?_
  refine WC.loop (fun k L w' => ∃ (κ' : Col) (v138 : Int) (s8 : (List Pair)) (las8_0 : Option Addr) (lus8_0 : Nat), L = [(8, .slice las3_0 s3.1.length lus3_0), (10, .pointer (some ⟨b33, 0, none⟩)), (136, .slice a2_1 p2.Pairs.length u2_1), (137, .int .i64 (p2.Pairs.length : Int)), (138, .int .i64 v138)] ∧ Stp [7, 10, 11, 12, 13, 14, 15] K32 w31 κ' w' ∧ Oc Pair.ep113 113 κ' w' 10 las8_0 lus8_0 s8 ∧ Bc κ' w' 7 b33 120 [.slice las3_1 s3.2.2.1.length lus3_1, .slice las3_2 s3.2.2.2.1.length lus3_2, .slice las8_0 s8.length lus8_0] ∧ 0 ≤ v138 ∧ Int.toNat ((p2.Pairs.length : Int) - v138) = k ∧ cntM (i_watchOf_b4 p2 s3) k v138 s8 = some q9) ⟨_, _, ⟨K32, 0, (([] : List Pair) : (List Pair)), none, 0, rfl, (Stp.refl _ _).wk rfl, Ow.nil, f39, (by decide), (by simp), hq266⟩, fun a ha => (ha.more (ha.more (ha.more (ha.more (ha.more ha.nil rfl) rfl) rfl) rfl) rfl)⟩ ?_
  rintro k _ w272 ⟨K273, v138, s8, las8_0, lus8_0, rfl, S274, f275, f276, hj264, hJ264, h⟩
  rcases k with _ | k
  ·
   have hk277 := h; obtain ⟨o264, h⟩ := ex_eq (Sum.inr (Sum.inl s8) : ((Option watch) × Bool) ⊕ (((List Pair)) ⊕ ((List Pair))))
   have hc264 : decide (v138 < (p2.Pairs.length : Int)) = false := decide_eq_false (by omega)
   refine WC.seq ?_
   refine WC.rs [(0, 2)] rfl ?_
   refine WO.pn 1 rfl ?_
   refine WO.fin ?_
   refine DN.seq ?_
   refine WC.seq ?_
   refine WC.cf' rfl hc264 ?_
   refine WC.exit ?_
   refine DN.exitThen ?_
   refine DN.exitThen ?_
   obtain rfl := Option.some.inj h
   have h := hk277
   refine DN.hit ?_
   obtain rfl := Option.some.inj h
   exact DN.meet _ ⟨K273, (s8 : (List Pair)), las8_0, lus8_0, rfl, S274.wk rfl, f275, f276, rfl⟩ fun a ha => (ha.more ha.nil rfl)
  ·
   obtain ⟨o264, h, hk277⟩ := Option.bind_eq_some_iff.mp h; unfold i_watchOf_b4 at h
   have hc264 : decide (v138 < (p2.Pairs.length : Int)) = true := decide_eq_true (by omega)
   refine WC.seq ?_
   refine WC.rs [(0, 2)] rfl ?_
   refine WO.pn 1 rfl ?_
   refine WO.fin ?_
   refine DN.seq ?_
   refine WC.seq ?_
   refine WC.ct' rfl hc264 ?_
   refine WC.skip ?_
   refine DN.seq ?_
   refine WC.seq ?_
   refine WC.block ?_
   refine WC.seq ?_
   refine WC.rs [(0, 2), (1, 1), (2, 1), (3, 1)] rfl ?_
   obtain ⟨x140, hx140, h⟩ := Option.bind_eq_some_iff.mp h
   refine WO.k2 rfl rfl rfl rfl (rn_index g2_1 hx140 Try.runUnderlying51 Try.sizeOf113 rfl rfl rfl rfl) ?_
   have f278 := g2_1.stp (S3.tr (S7.tr (S11.tr (S15.tr (S19.tr (S22.tr (S26.tr (S33.tr S274)))))))) rfl rfl
   obtain ⟨cse279, hre279, hle279⟩ := (f278).gSt hx140
   obtain ⟨ae279_0, ue279_0, ae279_1, ue279_1, rfl, fe279_0, fe279_1⟩ := Pair.un hre279
   refine WO.k1 trivial rfl rfl rfl rfl (rn_la (cs := [.slice ae279_0 x140.Ask.length ue279_0, .slice ae279_1 x140.Give.length ue279_1]) Try.isAgg113 Try.sizeOf113 rfl rfl rfl (haE hle279)) ?_
   refine WO.alloc (κ := K273) 11 rfl rfl rfl rfl rfl Try.zeroValue113 rfl fun b23 w280 K281 S282 f283 => ⟨trivial, ?_⟩
   refine WO.stB0 (κ := K281) 11 (vc := [.slice ae279_0 x140.Ask.length ue279_0, .slice ae279_1 x140.Give.length ue279_1]) rfl rfl rfl rfl rfl rfl rfl Try.sizeOf113 rfl rfl f283 rfl fun w284 S285 f286 => ⟨trivial, ?_⟩
   refine WO.fin ?_
   refine DN.seq ?_
   refine WC.seq ?_
   refine WC.rs [(0, 2), (1, 1), (2, 1)] rfl ?_
   refine WO.k2 rfl rfl rfl rfl (rn_build (parts := []) (cells := [.slice none 0 0, .slice none 0 0]) rfl rfl (by kernel_rfl)) ?_
   refine WO.alloc (κ := K281) 12 rfl rfl rfl rfl rfl Try.zeroValue113 rfl fun b24 w287 K288 S289 f290 => ⟨trivial, ?_⟩
   refine WO.stB0 (κ := K288) 12 (vc := [.slice none 0 0, .slice none 0 0]) rfl rfl rfl rfl rfl rfl rfl Try.sizeOf113 rfl rfl f290 rfl fun w291 S292 f293 => ⟨trivial, ?_⟩
   refine WO.fin ?_
   refine DN.seq ?_
   refine WC.seq ?_
   refine WC.seq ?_
   refine WC.rs [(0, 2), (1, 2), (2, 2)] rfl ?_
   refine WO.pn 1 rfl ?_
   refine WO.k2 rfl rfl rfl rfl (rn_len Try.runUnderlying150 rfl rfl) ?_
   refine WO.pn 1 rfl ?_
   refine WO.fin ?_
   refine DN.seq ?_
   have hN294 : (s3.1.length : Int) ≤ 9223372036854775807 := f34.len_le
   obtain ⟨q12, hq296, hK295⟩ := Option.bind_eq_some_iff.mp h
   clear h
   refine WC.meet (fun L w' => ∃ (κ' : Col) (s13 : (List Int) × (List Int)) (las13_0 : Option Addr) (lus13_0 : Nat) (las13_1 : Option Addr) (lus13_1 : Nat), L = [(8, .slice las3_0 s3.1.length lus3_0), (10, .pointer (some ⟨b33, 0, none⟩)), (24, .pointer (some ⟨b24, 0, none⟩)), (136, .slice a2_1 p2.Pairs.length u2_1), (137, .int .i64 (p2.Pairs.length : Int)), (138, .int .i64 v138)] ∧ Stp [12, 13, 14, 15] K288 w291 κ' w' ∧ Oc (Ep.int .i64) 2 κ' w' 13 las13_0 lus13_0 s13.1 ∧ Oc (Ep.int .i64) 2 κ' w' 14 las13_1 lus13_1 s13.2 ∧ Bc κ' w' 12 b24 113 [.slice las13_0 s13.1.length lus13_0, .slice las13_1 s13.2.length lus13_1] ∧ q12 = Sum.inr s13) ?_ ?_
   ·
    refine WC.block ?_
    refine WC.loop (fun k L w' => ∃ (κ' : Col) (v145 : Int) (s11 : (List Int) × (List Int)) (las11_0 : Option Addr) (lus11_0 : Nat) (las11_1 : Option Addr) (lus11_1 : Nat), L = [(8, .slice las3_0 s3.1.length lus3_0), (10, .pointer (some ⟨b33, 0, none⟩)), (23, .pointer (some ⟨b23, 0, none⟩)), (24, .pointer (some ⟨b24, 0, none⟩)), (136, .slice a2_1 p2.Pairs.length u2_1), (137, .int .i64 (p2.Pairs.length : Int)), (138, .int .i64 v138), (143, .slice las3_0 s3.1.length lus3_0), (144, .int .i64 (s3.1.length : Int)), (145, .int .i64 v145)] ∧ Stp [12, 13, 14, 15] K288 w291 κ' w' ∧ Oc (Ep.int .i64) 2 κ' w' 13 las11_0 lus11_0 s11.1 ∧ Oc (Ep.int .i64) 2 κ' w' 14 las11_1 lus11_1 s11.2 ∧ Bc κ' w' 12 b24 113 [.slice las11_0 s11.1.length lus11_0, .slice las11_1 s11.2.length lus11_1] ∧ 0 ≤ v145 ∧ Int.toNat ((s3.1.length : Int) - v145) = k ∧ cntM (i_watchOf_b6 s3 x140) k v145 s11 = some q12) ⟨_, _, ⟨K288, 0, ((([] : List Int) : (List Int)), (([] : List Int) : (List Int))), none, 0, none, 0, rfl, (Stp.refl _ _).wk rfl, Ow.nil, Ow.nil, f293, (by decide), (by simp), hq296⟩, fun a ha => (ha.more (ha.more (ha.more (ha.more (ha.more (ha.more (ha.more (ha.more (ha.more (ha.more ha.nil rfl) rfl) rfl) rfl) rfl) rfl) rfl) rfl) rfl) rfl)⟩ ?_
    rintro k _ w303 ⟨K304, v145, s11, las11_0, lus11_0, las11_1, lus11_1, rfl, S305, f306, f307, f308, hj294, hJ294, h⟩
    rcases k with _ | k
    ·
     have hk309 := h; obtain ⟨o294, h⟩ := ex_eq (Sum.inr (Sum.inl s11) : ((Option watch) × Bool) ⊕ (((List Int) × (List Int)) ⊕ ((List Int) × (List Int))))
     have hc294 : decide (v145 < (s3.1.length : Int)) = false := decide_eq_false (by omega)
     refine WC.seq ?_
     refine WC.rs [(0, 2)] rfl ?_
     refine WO.pn 1 rfl ?_
     refine WO.fin ?_
     refine DN.seq ?_
     refine WC.seq ?_
     refine WC.cf' rfl hc294 ?_
     refine WC.exit ?_
     refine DN.exitThen ?_
     refine DN.exitThen ?_
     obtain rfl := Option.some.inj h
     have h := hk309
     refine DN.hit ?_
     obtain rfl := Option.some.inj h
     exact DN.meet _ ⟨K304, ((s11.1 : (List Int)), (s11.2 : (List Int))), las11_0, lus11_0, las11_1, lus11_1, rfl, S305.wk rfl, f306, f307, f308, rfl⟩ fun a ha => (ha.more (ha.more (ha.more (ha.more (ha.more (ha.more ha.nil rfl) rfl) rfl) rfl) rfl) rfl)
    ·
     obtain ⟨o294, h, hk309⟩ := Option.bind_eq_some_iff.mp h; unfold i_watchOf_b6 at h
     have hc294 : decide (v145 < (s3.1.length : Int)) = true := decide_eq_true (by omega)
     refine WC.seq ?_
     refine WC.rs [(0, 2)] rfl ?_
     refine WO.pn 1 rfl ?_
     refine WO.fin ?_
     refine DN.seq ?_
     refine WC.seq ?_
     refine WC.ct' rfl hc294 ?_
     refine WC.skip ?_
     refine DN.seq ?_
     refine WC.seq ?_
     refine WC.block ?_
     refine WC.seq ?_
     refine WC.rs [(0, 2), (1, 2), (2, 1), (3, 1), (4, 2), (5, 1)] rfl ?_
     refine WO.pn 1 rfl ?_
     obtain ⟨x148, hx148, h⟩ := Option.bind_eq_some_iff.mp h
     refine WO.k2 rfl rfl rfl rfl (rn_index f34.rdc hx148 Try.runUnderlying150 Try.sizeOf149 rfl rfl rfl rfl) ?_
     have f310 := f34.stp (S274.tr (S282.tr (S285.tr (S289.tr (S292.tr S305))))) rfl rfl
     obtain ⟨cse311, hre311, hle311⟩ := (f310.rdc).gSt hx148
     obtain ⟨_, _, rfl, rfl, rfl⟩ := hre311
     refine WO.k1 trivial rfl rfl rfl rfl (rn_la (cs := [.int .i64 x148.1, .int .i64 x148.2]) Try.isAgg149 Try.sizeOf149 rfl rfl rfl (haE hle311)) ?_
     refine WO.alloc (κ := K304) 15 rfl rfl rfl rfl rfl Try.zeroValue149 rfl fun b26 w312 K313 S314 f315 => ⟨trivial, ?_⟩
     refine WO.pn 1 rfl ?_
     refine WO.stB0 (κ := K313) 15 (vc := [.int .i64 x148.1, .int .i64 x148.2]) rfl rfl rfl rfl rfl rfl rfl Try.sizeOf149 rfl rfl f315 rfl fun w316 S317 f318 => ⟨trivial, ?_⟩
     refine WO.fin ?_
     refine DN.seq ?_
     refine WC.seq ?_
     refine WC.seq ?_
     refine WC.rs [(0, 2), (1, 1), (2, 2), (3, 1), (4, 1)] rfl ?_
     refine WO.k2 rfl rfl rfl rfl (rn_fieldAddr Try.runUnderlying113 rfl Try.sizeOf28 rfl rfl) ?_
     have f319 := f286.stp (S289.tr (S292.tr (S305.tr (S314.tr S317)))) rfl rfl
     refine WO.k1 trivial rfl rfl rfl rfl (rn_ld Try.isAgg28 rfl rfl (hvE (f319.ld 0 rfl rfl))) ?_
     refine WO.k2 rfl rfl rfl rfl (rn_indexA Try.runUnderlying149 Try.sizeOf2 rfl rfl rfl rfl) ?_
     refine WO.k1 trivial rfl rfl rfl rfl (rn_ld Try.isAgg2 rfl rfl (hvE (f318.ld 1 rfl rfl))) ?_
     obtain ⟨x154, hx154, h⟩ := Option.bind_eq_some_iff.mp h
     have f320 := fe279_0.stp (S282.tr (S285.tr (S289.tr (S292.tr (S305.tr (S314.tr S317)))))) rfl rfl
     refine WO.call rfl rfl rfl rfl rfl rfl Try.call108 (slices_Contains_I_int64_ok (κ := fun b => mp [] 0 (K313 b)) (Sl.map f320 (mp [] 0) rfl rfl) hx154) ?_
     rintro _ w321 ⟨k322, rfl, e323⟩
     obtain ⟨K324, S325, m326⟩ := Ent.mixed (l := []) (κ := K313) e323 16 rfl
     refine ⟨trivial, ?_⟩
     refine WO.fin ?_
     refine DN.seq ?_
     obtain ⟨q14, h, hK328⟩ := Option.bind_eq_some_iff.mp h
     refine WC.meet (fun L w' => ∃ (κ' : Col) (laq14_0 : Option Addr) (luq14_0 : Nat), L = [(8, .slice las3_0 s3.1.length lus3_0), (10, .pointer (some ⟨b33, 0, none⟩)), (23, .pointer (some ⟨b23, 0, none⟩)), (24, .pointer (some ⟨b24, 0, none⟩)), (25, .int .i64 v145), (26, .pointer (some ⟨b26, 0, none⟩)), (136, .slice a2_1 p2.Pairs.length u2_1), (137, .int .i64 (p2.Pairs.length : Int)), (138, .int .i64 v138), (143, .slice las3_0 s3.1.length lus3_0), (144, .int .i64 (s3.1.length : Int)), (145, .int .i64 v145)] ∧ Stp [12, 13] K324 w321 κ' w' ∧ Oc (Ep.int .i64) 2 κ' w' 13 laq14_0 luq14_0 q14 ∧ Bc κ' w' 12 b24 113 [.slice laq14_0 q14.length luq14_0, .slice las11_1 s11.2.length lus11_1]) ?_ ?_
     ·
      revert h
      cases ht334 : x154 with
      | true =>
       intro h; replace h := cT h
       refine WC.ct rfl ?_
       refine WC.rs [(0, 2), (1, 1), (2, 2), (3, 1), (4, 1), (5, 2), (6, 1)] rfl ?_
       refine WO.k2 rfl rfl rfl rfl (rn_fieldAddr Try.runUnderlying113 rfl Try.sizeOf28 rfl rfl) ?_
       have f335 := f308.stp (S314.tr (S317.tr S325)) rfl rfl
       refine WO.k1 trivial rfl rfl rfl rfl (rn_ld Try.isAgg28 rfl rfl (hvE (f335.ld 0 rfl rfl))) ?_
       refine WO.pn 1 rfl ?_
       refine WO.bl (κ := K324) (E := (Ep.int .i64)) 18 [] (parts := [(0, .tmp 157)]) (cells := [.int .i64 v145]) (xs := ([v145] : List Int)) rfl rfl rfl rfl rfl rfl Try.underlying28 Tryinfo2 rfl rfl rfl rfl rfl rfl rfl rfl rfl rfl ⟨[.int .i64 v145], [], Zl K324 w321 [], Zl K324 w321 [], rfl, Zl.sp (l1 := []) (l2 := []) rfl, Zl.sr (l1 := []) (l2 := []), rfl, rfl⟩ fun a158 u158 w336 K337 S338 f339 => ⟨trivial, ?_⟩
       obtain ⟨x159, hx159, h⟩ := Option.bind_eq_some_iff.mp h
       have f340 := f306.stp (S314.tr (S317.tr (S325.tr S338))) rfl rfl
       refine WO.app (κ := K337) (E := (Ep.int .i64)) 13 [] rfl rfl rfl rfl rfl rfl rfl rfl rfl Try.underlying28 Tryinfo2 rfl rfl rfl rfl f340 (Sl.srcP (pu_int _) f339.rdc) sy_false hx159 rfl fun a159 u159 w341 K342 S343 f344 => ⟨trivial, ?_⟩
       refine WO.k2 rfl rfl rfl rfl (rn_fieldAddr Try.runUnderlying113 rfl Try.sizeOf28 rfl rfl) ?_
       have f345 := f335.stp (S338.tr S343) rfl rfl
       refine WO.stB (κ := K342) 12 (off := 0) (vc := [.slice a159 x159.length u159]) (cs' := [.slice a159 x159.length u159, .slice las11_1 s11.2.length lus11_1]) rfl rfl rfl rfl rfl rfl rfl Try.sizeOf28 rfl rfl f345 rfl rfl fun w346 S347 f348 => ⟨trivial, ?_⟩
       refine WO.fin ?_
       have f349 := f344.stp S347 rfl rfl
       obtain rfl := Option.some.inj h
       exact DN.meet _ ⟨K342, a159, u159, rfl, (S338.tr (S343.tr S347)).wk rfl, f349, f348⟩ fun a ha => (ha.more (ha.more (ha.more (ha.more (ha.more (ha.more (ha.more (ha.more (ha.more (ha.more (ha.more (ha.more ha.nil rfl) rfl) rfl) rfl) rfl) rfl) rfl) rfl) rfl) rfl) rfl) rfl)
      | false =>
       intro h; replace h := cF h
       refine WC.cf rfl ?_
       refine WC.skip ?_
       have f350 := f306.stp (S314.tr (S317.tr S325)) rfl rfl
       have f351 := f308.stp (S314.tr (S317.tr S325)) rfl rfl
       obtain rfl := Option.some.inj h
       exact DN.meet _ ⟨K324, las11_0, lus11_0, rfl, (Stp.refl _ _).wk rfl, f350, f351⟩ fun a ha => (ha.more (ha.more (ha.more (ha.more (ha.more (ha.more (ha.more (ha.more (ha.more (ha.more (ha.more (ha.more ha.nil rfl) rfl) rfl) rfl) rfl) rfl) rfl) rfl) rfl) rfl) rfl) rfl)
     rintro _ w329 ⟨K330, laq14_0, luq14_0, rfl, S331, f332, f333⟩
     have h := hK328
     refine DN.seq ?_
     refine WC.seq ?_
     refine WC.rs [(0, 2), (1, 1), (2, 2), (3, 1), (4, 1)] rfl ?_
     refine WO.k2 rfl rfl rfl rfl (rn_fieldAddr Try.runUnderlying113 rfl Try.sizeOf28 rfl rfl) ?_
     have f352 := f319.stp (S325.tr S331) rfl rfl
     refine WO.k1 trivial rfl rfl rfl rfl (rn_ld Try.isAgg28 rfl rfl (hvE (f352.ld 1 rfl rfl))) ?_
     refine WO.k2 rfl rfl rfl rfl (rn_indexA Try.runUnderlying149 Try.sizeOf2 rfl rfl rfl rfl) ?_
     have f353 := f318.stp (S325.tr S331) rfl rfl
     refine WO.k1 trivial rfl rfl rfl rfl (rn_ld Try.isAgg2 rfl rfl (hvE (f353.ld 1 rfl rfl))) ?_
     obtain ⟨x165, hx165, h⟩ := Option.bind_eq_some_iff.mp h
     have f354 := fe279_1.stp (S282.tr (S285.tr (S289.tr (S292.tr (S305.tr (S314.tr (S317.tr (S325.tr S331)))))))) rfl rfl
     refine WO.call rfl rfl rfl rfl rfl rfl Try.call108 (slices_Contains_I_int64_ok (κ := fun b => mp [] 0 (K330 b)) (Sl.map f354 (mp [] 0) rfl rfl) hx165) ?_
     rintro _ w355 ⟨k356, rfl, e357⟩
     obtain ⟨K358, S359, m360⟩ := Ent.mixed (l := []) (κ := K330) e357 18 rfl
     refine ⟨trivial, ?_⟩
     refine WO.fin ?_
     refine DN.seq ?_
     obtain ⟨q15, h, hK362⟩ := Option.bind_eq_some_iff.mp h
     refine WC.meet (fun L w' => ∃ (κ' : Col) (laq15_0 : Option Addr) (luq15_0 : Nat), L = [(8, .slice las3_0 s3.1.length lus3_0), (10, .pointer (some ⟨b33, 0, none⟩)), (23, .pointer (some ⟨b23, 0, none⟩)), (24, .pointer (some ⟨b24, 0, none⟩)), (136, .slice a2_1 p2.Pairs.length u2_1), (137, .int .i64 (p2.Pairs.length : Int)), (138, .int .i64 v138), (143, .slice las3_0 s3.1.length lus3_0), (144, .int .i64 (s3.1.length : Int)), (145, .int .i64 v145)] ∧ Stp [12, 14] K358 w355 κ' w' ∧ Oc (Ep.int .i64) 2 κ' w' 14 laq15_0 luq15_0 q15 ∧ Bc κ' w' 12 b24 113 [.slice laq14_0 q14.length luq14_0, .slice laq15_0 q15.length luq15_0]) ?_ ?_
     ·
      revert h
      cases ht368 : x165 with
      | true =>
       intro h; replace h := cT h
       refine WC.ct rfl ?_
       refine WC.rs [(0, 2), (1, 1), (2, 2), (3, 1), (4, 1), (5, 2), (6, 1)] rfl ?_
       refine WO.k2 rfl rfl rfl rfl (rn_fieldAddr Try.runUnderlying113 rfl Try.sizeOf28 rfl rfl) ?_
       have f369 := f333.stp S359 rfl rfl
       refine WO.k1 trivial rfl rfl rfl rfl (rn_ld Try.isAgg28 rfl rfl (hvE (f369.ld 1 rfl rfl))) ?_
       refine WO.pn 1 rfl ?_
       refine WO.bl (κ := K358) (E := (Ep.int .i64)) 20 [] (parts := [(0, .tmp 168)]) (cells := [.int .i64 v145]) (xs := ([v145] : List Int)) rfl rfl rfl rfl rfl rfl Try.underlying28 Tryinfo2 rfl rfl rfl rfl rfl rfl rfl rfl rfl rfl ⟨[.int .i64 v145], [], Zl K358 w355 [], Zl K358 w355 [], rfl, Zl.sp (l1 := []) (l2 := []) rfl, Zl.sr (l1 := []) (l2 := []), rfl, rfl⟩ fun a169 u169 w370 K371 S372 f373 => ⟨trivial, ?_⟩
       obtain ⟨x170, hx170, h⟩ := Option.bind_eq_some_iff.mp h
       have f374 := f307.stp (S314.tr (S317.tr (S325.tr (S331.tr (S359.tr S372))))) rfl rfl
       refine WO.app (κ := K371) (E := (Ep.int .i64)) 14 [] rfl rfl rfl rfl rfl rfl rfl rfl rfl Try.underlying28 Tryinfo2 rfl rfl rfl rfl f374 (Sl.srcP (pu_int _) f373.rdc) sy_false hx170 rfl fun a170 u170 w375 K376 S377 f378 => ⟨trivial, ?_⟩
       refine WO.k2 rfl rfl rfl rfl (rn_fieldAddr Try.runUnderlying113 rfl Try.sizeOf28 rfl rfl) ?_
       have f379 := f369.stp (S372.tr S377) rfl rfl
       refine WO.stB (κ := K376) 12 (off := 1) (vc := [.slice a170 x170.length u170]) (cs' := [.slice laq14_0 q14.length luq14_0, .slice a170 x170.length u170]) rfl rfl rfl rfl rfl rfl rfl Try.sizeOf28 rfl rfl f379 rfl rfl fun w380 S381 f382 => ⟨trivial, ?_⟩
       refine WO.fin ?_
       have f383 := f378.stp S381 rfl rfl
       obtain rfl := Option.some.inj h
       exact DN.meet _ ⟨K376, a170, u170, rfl, (S372.tr (S377.tr S381)).wk rfl, f383, f382⟩ fun a ha => (ha.more (ha.more (ha.more (ha.more (ha.more (ha.more (ha.more (ha.more (ha.more (ha.more ha.nil rfl) rfl) rfl) rfl) rfl) rfl) rfl) rfl) rfl) rfl)
      | false =>
       intro h; replace h := cF h
       refine WC.cf rfl ?_
       refine WC.skip ?_
       have f384 := f307.stp (S314.tr (S317.tr (S325.tr (S331.tr S359)))) rfl rfl
       have f385 := f333.stp S359 rfl rfl
       obtain rfl := Option.some.inj h
       exact DN.meet _ ⟨K358, las11_1, lus11_1, rfl, (Stp.refl _ _).wk rfl, f384, f385⟩ fun a ha => (ha.more (ha.more (ha.more (ha.more (ha.more (ha.more (ha.more (ha.more (ha.more (ha.more ha.nil rfl) rfl) rfl) rfl) rfl) rfl) rfl) rfl) rfl) rfl)
     rintro _ w363 ⟨K364, laq15_0, luq15_0, rfl, S365, f366, f367⟩
     have h := hK362
     refine DN.block ?_
     refine DN.seq ?_
     refine WC.rs [(0, 2), (1, 2)] rfl ?_
     refine WO.pn 2 rfl ?_
     refine WO.fin ?_
     have hw294 : IntKind.wrap .i64 (v145 + 1) = v145 + 1 := wr1 hj294 (of_decide_eq_true hc294) hN294
     rw [hw294]
     have hc294 := of_decide_eq_true hc294
     have f386 := f332.stp (S359.tr S365) rfl rfl
     obtain rfl := Option.some.inj h
     refine DN.round fun a ha => ?_
     exact ⟨k, _, Nat.lt_succ_self _, ⟨K364, v145 + 1, ((q14 : (List Int)), (q15 : (List Int))), laq14_0, luq14_0, laq15_0, luq15_0, rfl, (S305.tr (S314.tr (S317.tr (S325.tr (S331.tr (S359.tr S365)))))).wk rfl, f386, f366, f367, by omega, by omega, hk309⟩, (ha.more (ha.more (ha.more (ha.more (ha.more (ha.more (ha.more (ha.more (ha.more (ha.more ha.nil rfl) rfl) rfl) rfl) rfl) rfl) rfl) rfl) rfl) rfl)⟩
   rintro _ w297 ⟨K298, s13, las13_0, lus13_0, las13_1, lus13_1, rfl, S299, f300, f301, f302, rfl⟩
   have h := hK295
   dsimp only [aft] at h
   refine DN.seq ?_
   refine WC.rx (κ := K298) [7, 12] (some 10) [(0, 2), (1, 2), (2, 2), (3, 2), (4, 0), (5, 0), (6, 1), (7, 1), (8, 2), (9, 2)] [(10, 1)] (by kernel_rfl) (by kernel_rfl) fun w388 S387 => ?_
   refine WO.pn 2 rfl ?_
   refine WO.k2 rfl rfl rfl rfl (rn_nilCheck rfl rfl) ?_
   refine WO.k2 rfl rfl rfl rfl (rn_fieldAddr Try.runUnderlying120 rfl Try.sizeOf51 rfl rfl) ?_
   have f389 := f276.stp (S282.tr (S285.tr (S289.tr (S292.tr (S299.tr S387))))) rfl rfl
   refine WO.k0 rfl rfl rfl rfl (rn_ld Try.isAgg51 rfl rfl (hvC (f389.ld 2 rfl rfl) rfl)) ?_
   have f390 := f302.stp S387 rfl rfl
   refine WO.k0 rfl rfl rfl rfl (rn_la (cs := [.slice las13_0 s13.1.length lus13_0, .slice las13_1 s13.2.length lus13_1]) Try.isAgg113 Try.sizeOf113 rfl rfl rfl (haC f390.cells rfl)) ?_
   have f391 := f300.stp S387 rfl rfl
   have f392 := f301.stp S387 rfl rfl
   refine WO.bl (κ := K298) (E := Pair.ep113) 15 [13, 14] (parts := [(0, .tmp 178)]) (cells := [.slice las13_0 s13.1.length lus13_0, .slice las13_1 s13.2.length lus13_1]) (xs := ([(⟨s13.1, s13.2⟩ : Pair)] : List Pair)) rfl rfl rfl rfl rfl rfl Try.underlying51 Tryinfo113 rfl rfl rfl rfl rfl rfl rfl rfl rfl rfl ⟨[.slice las13_0 s13.1.length lus13_0, .slice las13_1 s13.2.length lus13_1], [], Zl K298 w388 [13, 14], Zl K298 w388 [], rfl, Zl.sp (l1 := [13, 14]) (l2 := []) rfl, Zl.sr (l1 := [13, 14]) (l2 := []), ⟨[.slice las13_0 s13.1.length lus13_0], [.slice las13_1 s13.2.length lus13_1], Zl K298 w388 [13], Zl K298 w388 [14], rfl, Zl.sp (l1 := [13]) (l2 := [14]) rfl, Zl.sr (l1 := [13]) (l2 := [14]), ⟨_, _, rfl, f391⟩, ⟨_, _, rfl, f392⟩⟩, rfl⟩ fun a179 u179 w393 K394 S395 f396 => ⟨(S395.cl rfl), ?_⟩
   obtain ⟨x180, hx180, h⟩ := Option.bind_eq_some_iff.mp h
   have f397 := f275.stp (S282.tr (S285.tr (S289.tr (S292.tr (S299.tr (S387.tr S395)))))) rfl rfl
   refine WO.app (κ := K394) (E := Pair.ep113) 10 [15] rfl rfl rfl rfl rfl rfl rfl rfl rfl Try.underlying51 Tryinfo113 rfl rfl rfl rfl f397 f396.src (sy_one rfl) hx180 rfl fun a180 u180 w398 K399 S400 f401 => ⟨((S395.tr S400).cl rfl), ?_⟩
   refine WO.k2 rfl rfl rfl rfl (rn_nilCheck rfl rfl) ?_
   refine WO.k2 rfl rfl rfl rfl (rn_fieldAddr Try.runUnderlying120 rfl Try.sizeOf51 rfl rfl) ?_
   refine WO.nx ?_
   have f402 := f389.stp (S395.tr S400) rfl rfl
   refine WO.stB (κ := K399) 7 (off := 2) (vc := [.slice a180 x180.length u180]) (cs' := [.slice las3_1 s3.2.2.1.length lus3_1, .slice las3_2 s3.2.2.2.1.length lus3_2, .slice a180 x180.length u180]) rfl rfl rfl rfl rfl rfl rfl Try.sizeOf51 rfl rfl f402 rfl rfl fun w403 S404 f405 => ⟨trivial, ?_⟩
   refine WO.fin ?_
   refine DN.block ?_
   refine DN.seq ?_
   refine WC.rs [(0, 2), (1, 2)] rfl ?_
   refine WO.pn 2 rfl ?_
   refine WO.fin ?_
   have hw264 : IntKind.wrap .i64 (v138 + 1) = v138 + 1 := wr1 hj264 (of_decide_eq_true hc264) hN264
   rw [hw264]
   have hc264 := of_decide_eq_true hc264
   have f406 := f401.stp S404 rfl rfl
   obtain rfl := Option.some.inj h
   refine DN.round fun a ha => ?_
   exact ⟨k, _, Nat.lt_succ_self _, ⟨K399, v138 + 1, (x180 : (List Pair)), a180, u180, rfl, (S274.tr (S282.tr (S285.tr (S289.tr (S292.tr (S299.tr (S387.tr (S395.tr (S400.tr S404))))))))).wk rfl, f406, f405, by omega, by omega, hk277⟩, (ha.more (ha.more (ha.more (ha.more (ha.more ha.nil rfl) rfl) rfl) rfl) rfl)⟩
 rintro _ w267 ⟨K268, s10, las10_0, lus10_0, rfl, S269, f270, f271, rfl⟩
 have h := hK265
 dsimp only [aft] at h
 refine DN.seq ?_
 refine WC.seq ?_
 refine WC.rs [(0, 2), (1, 2), (2, 2)] rfl ?_
 refine WO.pn 3 rfl ?_
 refine WO.fin ?_
 refine DN.seq ?_
 refine WC.ret ?_
 have f407 := hE.stp (S3.tr (S7.tr (S11.tr (S15.tr (S19.tr (S22.tr (S26.tr (S33.tr S269)))))))) rfl rfl
 have f408 := f35.stp S269 rfl rfl
 have f409 := f36.stp S269 rfl rfl
 refine DN.res (l := [.tmp 6, .tmp 7]) Try.results67 (res_tmp rfl (res_tmp rfl rfl)) rfl ?_
 obtain rfl := Option.some.inj h
 exact ⟨(fun b => ren [(8, 2), (9, 3), (10, 4), (7, 5)] (K268 b)), las3_1, lus3_1, las3_2, lus3_2, las10_0, lus10_0, b33, rfl, (f407.map (ren [(8, 2), (9, 3), (10, 4), (7, 5)]) rfl rfl), (f408.map (ren [(8, 2), (9, 3), (10, 4), (7, 5)]) rfl rfl), (f409.map (ren [(8, 2), (9, 3), (10, 4), (7, 5)]) rfl rfl), (f270.map (ren [(8, 2), (9, 3), (10, 4), (7, 5)]) rfl rfl), (fun _ => (f271.map (ren [(8, 2), (9, 3), (10, 4), (7, 5)]) rfl rfl))⟩

/- loop.example/g00869/laws.eqMachine -/
theorem l_eqMachine_ok {w : World} {κ : Col} {a0_0 : Option Addr} {u0_0 : Nat} {a0_1 : Option Addr} {u0_1 : Nat} {p0 : Machine} {a1_0 : Option Addr} {u1_0 : Nat} {a1_1 : Option Addr} {u1_1 : Nat} {p1 : Machine} (g0_0 : Rd (Rp.sl (Rp.int .i64)) κ w 0 a0_0 u0_0 p0.Next) (g0_1 : Rd (Rp.sl (Rp.int .i64)) κ w 0 a0_1 u0_1 p0.Out) (g1_0 : Rd (Rp.sl (Rp.int .i64)) κ w 0 a1_0 u1_0 p1.Next) (g1_1 : Rd (Rp.sl (Rp.int .i64)) κ w 0 a1_1 u1_1 p1.Out) {r : Bool} (h : l_eqMachine p0 p1 = some r) : Ret Try.prog 16 [.agg #[.slice a0_0 p0.Next.length u0_0, .slice a0_1 p0.Out.length u0_1], .agg #[.slice a1_0 p1.Next.length u1_0, .slice a1_1 p1.Out.length u1_1]] w (fun v w' => ∃ (κ' : Col), v = .bool r ∧ Ent κ w κ' w') := by
 unfold l_eqMachine at h
 refine Ret.enter Try.func16 rfl Try.ntmps16 rfl ?_
 dsimp only [envOf]
 have hE := Ent.refl κ w
 refine WC.seq ?_
 refine WC.rs [(0, 1), (1, 1), (2, 2)] rfl ?_
 refine WO.box (κ := κ) 2 rfl rfl rfl rfl rfl rfl rfl fun b2 w1 K2 S3 f4 => ⟨trivial, ?_⟩
 refine WO.box (κ := K2) 3 rfl rfl rfl rfl rfl rfl rfl fun b3 w5 K6 S7 f8 => ⟨trivial, ?_⟩
 refine WO.pn 1 rfl ?_
 refine WO.fin ?_
 refine DN.seq ?_
 refine WC.seq ?_
 refine WC.seq ?_
 refine WC.rs [(0, 2), (1, 1), (2, 2), (3, 1), (4, 1), (5, 2)] rfl ?_
 refine WO.k2 rfl rfl rfl rfl (rn_fieldAddr Try.runUnderlying37 rfl Try.sizeOf24 rfl rfl) ?_
 have f9 := f4.stp S7 rfl rfl
 refine WO.k1 trivial rfl rfl rfl rfl (rn_ld Try.isAgg24 rfl rfl (hvE (f9.ld 0 rfl rfl))) ?_
 refine WO.k2 rfl rfl rfl rfl (rn_fieldAddr Try.runUnderlying37 rfl Try.sizeOf24 rfl rfl) ?_
 refine WO.k1 trivial rfl rfl rfl rfl (rn_ld Try.isAgg24 rfl rfl (hvE (f8.ld 0 rfl rfl))) ?_
 obtain ⟨x9, hx9, h⟩ := Option.bind_eq_some_iff.mp h
 have f10 := g0_0.stp (S3.tr S7) rfl rfl
 have f11 := g1_0.stp (S3.tr S7) rfl rfl
 refine WO.call rfl rfl rfl rfl rfl rfl Try.call23 (l_eqInt64SS_ok (κ := fun b => mp [] 0 (K6 b)) (Sl.map f10 (mp [] 0) rfl rfl) (Sl.map f11 (mp [] 0) rfl rfl) hx9) ?_
 rintro _ w12 ⟨k13, rfl, e14⟩
 obtain ⟨K15, S16, m17⟩ := Ent.mixed (l := []) (κ := K6) e14 4 rfl
 refine ⟨trivial, ?_⟩
 refine WO.pn 1 rfl ?_
 refine WO.fin ?_
 refine DN.seq ?_
 revert h
 cases ht19 : (!x9) with
 | true =>
  intro h; replace h := cT h
  refine WC.ct rfl ?_
  refine WC.seq ?_
  refine WC.rs [(0, 2)] rfl ?_
  refine WO.pn 1 rfl ?_
  refine WO.fin ?_
  refine DN.seq ?_
  refine WC.ret ?_
  refine DN.retThen ?_
  have f20 := hE.stp (S3.tr (S7.tr S16)) rfl rfl
  refine DN.res (l := [.tmp 4]) Try.results16 (res_tmp rfl rfl) rfl ?_
  obtain rfl := Option.some.inj h
  exact ⟨K15, rfl, f20⟩
 | false =>
  intro h; replace h := cF h
  refine WC.cf rfl ?_
  refine WC.skip ?_
  refine DN.seq ?_
  refine WC.seq ?_
  refine WC.seq ?_
  refine WC.rs [(0, 2), (1, 1), (2, 2), (3, 1), (4, 1), (5, 2)] rfl ?_
  refine WO.k2 rfl rfl rfl rfl (rn_fieldAddr Try.runUnderlying37 rfl Try.sizeOf24 rfl rfl) ?_
  have f21 := f9.stp S16 rfl rfl
  refine WO.k1 trivial rfl rfl rfl rfl (rn_ld Try.isAgg24 rfl rfl (hvE (f21.ld 1 rfl rfl))) ?_
  refine WO.k2 rfl rfl rfl rfl (rn_fieldAddr Try.runUnderlying37 rfl Try.sizeOf24 rfl rfl) ?_
  have f22 := f8.stp S16 rfl rfl
  refine WO.k1 trivial rfl rfl rfl rfl (rn_ld Try.isAgg24 rfl rfl (hvE (f22.ld 1 rfl rfl))) ?_
  obtain ⟨x15, hx15, h⟩ := Option.bind_eq_some_iff.mp h
  have f23 := g0_1.stp (S3.tr (S7.tr S16)) rfl rfl
  have f24 := g1_1.stp (S3.tr (S7.tr S16)) rfl rfl
  refine WO.call rfl rfl rfl rfl rfl rfl Try.call23 (l_eqInt64SS_ok (κ := fun b => mp [] 0 (K15 b)) (Sl.map f23 (mp [] 0) rfl rfl) (Sl.map f24 (mp [] 0) rfl rfl) hx15) ?_
  rintro _ w25 ⟨k26, rfl, e27⟩
  obtain ⟨K28, S29, m30⟩ := Ent.mixed (l := []) (κ := K15) e27 6 rfl
  refine ⟨trivial, ?_⟩
  refine WO.pn 1 rfl ?_
  refine WO.fin ?_
  refine DN.seq ?_
  revert h
  cases ht32 : (!x15) with
  | true =>
   intro h; replace h := cT h
   refine WC.ct rfl ?_
   refine WC.seq ?_
   refine WC.rs [(0, 2)] rfl ?_
   refine WO.pn 1 rfl ?_
   refine WO.fin ?_
   refine DN.seq ?_
   refine WC.ret ?_
   refine DN.retThen ?_
   have f33 := hE.stp (S3.tr (S7.tr (S16.tr S29))) rfl rfl
   refine DN.res (l := [.tmp 4]) Try.results16 (res_tmp rfl rfl) rfl ?_
   obtain rfl := Option.some.inj h
   exact ⟨K28, rfl, f33⟩
  | false =>
   intro h; replace h := cF h
   refine WC.cf rfl ?_
   refine WC.skip ?_
   refine DN.seq ?_
   refine WC.seq ?_
   refine WC.rs [(0, 2)] rfl ?_
   refine WO.pn 1 rfl ?_
   refine WO.fin ?_
   refine DN.seq ?_
   refine WC.ret ?_
   have f34 := hE.stp (S3.tr (S7.tr (S16.tr S29))) rfl rfl
   refine DN.res (l := [.tmp 4]) Try.results16 (res_tmp rfl rfl) rfl ?_
   obtain rfl := Option.some.inj h
   exact ⟨K28, rfl, f34⟩

/- loop.example/g00869/laws.markMachine -/
theorem l_markMachine_ok {w : World} {κ : Col} {a0_0 : Option Addr} {u0_0 : Nat} {a0_1 : Option Addr} {u0_1 : Nat} {p0 : Machine} {p1 : Int} (g0_0 : Oc (Ep.own (Ep.int .i64) 2) 28 κ w 2 a0_0 u0_0 p0.Next) (g0_1 : Oc (Ep.own (Ep.int .i64) 2) 28 κ w 3 a0_1 u0_1 p0.Out) {r : Int × (List (List Int)) × (List (List Int))} (h : l_markMachine p0 p1 = some r) : Ret Try.prog 26 [.agg #[.slice a0_0 p0.Next.length u0_0, .slice a0_1 p0.Out.length u0_1], .int .i64 p1] w (fun v w' => ∃ (κ' : Col), v = .int .i64 r.1 ∧ Ent κ w κ' w' ∧ Oc (Ep.own (Ep.int .i64) 2) 28 κ' w' 2 a0_0 u0_0 r.2.1 ∧ p0.Next.length = r.2.1.length ∧ Oc (Ep.own (Ep.int .i64) 2) 28 κ' w' 3 a0_1 u0_1 r.2.2 ∧ p0.Out.length = r.2.2.length) := by
 unfold l_markMachine at h
 refine Ret.enter Try.func26 rfl Try.ntmps26 rfl ?_
 dsimp only [envOf]
 have hE := Ent.refl κ w
 refine WC.seq ?_
 refine WC.rs [(0, 1), (1, 2)] rfl ?_
 refine WO.box (κ := κ) 4 rfl rfl rfl rfl rfl rfl rfl fun b2 w1 K2 S3 f4 => ⟨trivial, ?_⟩
 refine WO.pn 1 rfl ?_
 refine WO.fin ?_
 refine DN.seq ?_
 refine WC.seq ?_
 refine WC.rs [(0, 2), (1, 1), (2, 2), (3, 1), (4, 2)] rfl ?_
 refine WO.k2 rfl rfl rfl rfl (rn_fieldAddr Try.runUnderlying37 rfl Try.sizeOf24 rfl rfl) ?_
 refine WO.k1 trivial rfl rfl rfl rfl (rn_ld Try.isAgg24 rfl rfl (hvE (f4.ld 0 rfl rfl))) ?_
 refine WO.pn 1 rfl ?_
 obtain ⟨x8, hx8, h⟩ := Option.bind_eq_some_iff.mp h
 have f5 := g0_0.stp S3 rfl rfl
 refine WO.call rfl rfl rfl rfl rfl rfl Try.call28 (l_markInt64SS_ok (κ := fun b => mp [(2, 2)] 0 (K2 b)) (f5.map (mp [(2, 2)] 0) rfl rfl) hx8) ?_
 rintro _ w6 ⟨k7, rfl, e8, f9, hn10⟩
 obtain ⟨K11, S12, m13⟩ := Ent.mixed (l := [(2, 2)]) (κ := K2) e8 5 rfl
 refine ⟨trivial, ?_⟩
 have f15 := f9.mx (no_own (no_int _) _) m13 rfl (rfl : 5 + 2 = 7)
 refine WO.pn 1 rfl ?_
 refine WO.fin ?_
 refine DN.seq ?_
 refine WC.seq ?_
 refine WC.rs [(0, 2), (1, 1), (2, 2), (3, 1), (4, 2)] rfl ?_
 refine WO.k2 rfl rfl rfl rfl (rn_fieldAddr Try.runUnderlying37 rfl Try.sizeOf24 rfl rfl) ?_
 have f16 := f4.stp S12 rfl rfl
 refine WO.k1 trivial rfl rfl rfl rfl (rn_ld Try.isAgg24 rfl rfl (hvE (f16.ld 1 rfl rfl))) ?_
 refine WO.pn 1 rfl ?_
 obtain ⟨x12, hx12, h⟩ := Option.bind_eq_some_iff.mp h
 have f17 := g0_1.stp (S3.tr S12) rfl rfl
 refine WO.call rfl rfl rfl rfl rfl rfl Try.call28 (l_markInt64SS_ok (κ := fun b => mp [(3, 2)] 0 (K11 b)) (f17.map (mp [(3, 2)] 0) rfl rfl) hx12) ?_
 rintro _ w18 ⟨k19, rfl, e20, f21, hn22⟩
 obtain ⟨K23, S24, m25⟩ := Ent.mixed (l := [(3, 2)]) (κ := K11) e20 8 rfl
 refine ⟨trivial, ?_⟩
 have f27 := f21.mx (no_own (no_int _) _) m25 rfl (rfl : 8 + 2 = 10)
 refine WO.pn 1 rfl ?_
 refine WO.fin ?_
 refine DN.seq ?_
 refine WC.seq ?_
 refine WC.rs [(0, 2), (1, 2)] rfl ?_
 refine WO.pn 2 rfl ?_
 refine WO.fin ?_
 refine DN.seq ?_
 refine WC.ret ?_
 have f28 := hE.stp (S3.tr (S12.tr S24)) rfl rfl
 have f29 := f15.stp S24 rfl rfl
 refine DN.res (l := [.tmp 4]) Try.results26 (res_tmp rfl rfl) rfl ?_
 obtain rfl := Option.some.inj h
 exact ⟨(fun b => ren [(7, 2), (10, 3)] (K23 b)), rfl, (f28.map (ren [(7, 2), (10, 3)]) rfl rfl), (f29.map (ren [(7, 2), (10, 3)]) rfl rfl), (hn10), (f27.map (ren [(7, 2), (10, 3)]) rfl rfl), (hn22)⟩

end Go.Proofs.Ytnmjfjppgpkieaa
