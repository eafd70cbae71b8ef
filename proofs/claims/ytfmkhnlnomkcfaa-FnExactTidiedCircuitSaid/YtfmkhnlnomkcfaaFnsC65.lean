/- The walks, part 5. By program. -/
import Derived.Test.YtfmkhnlnomkcfaaFnsC61
import Derived.Test.YtfmkhnlnomkcfaaFnsC62
import Derived.Test.YtfmkhnlnomkcfaaFnsC63
set_option linter.unusedVariables false
set_option linter.unusedSimpArgs false
namespace Go.Proofs.Ytfmkhnlnomkcfaa
open Go Go.Wk Go.Proofs
set_option maxRecDepth 100000
set_option maxHeartbeats 1000000

/- loop.example/g00869/laws.toCircuit -/
theorem l_toCircuit_ok {w : World} {κ : Col} {a0_2 : Option Addr} {u0_2 : Nat} {a0_3 : Option Addr} {u0_3 : Nat} {a0_4 : Option Addr} {u0_4 : Nat} {p0 : Circuit} (g0_2 : Rd (Rp.int .i64) κ w 0 a0_2 u0_2 p0.Next) (g0_3 : Rd Gate.rp κ w 0 a0_3 u0_3 p0.Gates) (g0_4 : Rd (Rp.int .i64) κ w 0 a0_4 u0_4 p0.Outs) {r : Circuit} (h : l_toCircuit p0 = some r) : Ret Try.prog 26 [.agg #[.int .i64 p0.Inputs, .int .i64 p0.Latches, .slice a0_2 p0.Next.length u0_2, .slice a0_3 p0.Gates.length u0_3, .slice a0_4 p0.Outs.length u0_4]] w (fun v w' => ∃ (κ' : Col) (ra0 : Option Addr) (ru0 : Nat) (ra1 : Option Addr) (ru1 : Nat) (ra2 : Option Addr) (ru2 : Nat), v = .agg #[.int .i64 r.Inputs, .int .i64 r.Latches, .slice ra0 r.Next.length ru0, .slice ra1 r.Gates.length ru1, .slice ra2 r.Outs.length ru2] ∧ Ent κ w κ' w' ∧ Oc (Ep.int .i64) 2 κ' w' 2 ra0 ru0 r.Next ∧ Oc Gate.ep159 159 κ' w' 3 ra1 ru1 r.Gates ∧ Oc (Ep.int .i64) 2 κ' w' 4 ra2 ru2 r.Outs) := by
 unfold l_toCircuit at h
 refine Ret.enter Try.func26 rfl Try.ntmps26 rfl ?_
 dsimp only [envOf]
 have hE := Ent.refl κ w
 refine WC.seq ?_
 refine WC.rs [(0, 1), (1, 1)] rfl ?_
 refine WO.box (κ := κ) 2 rfl rfl rfl rfl rfl rfl rfl fun b1 w1 K2 S3 f4 => ⟨trivial, ?_⟩
 refine WO.alloc (κ := K2) 3 rfl rfl rfl rfl rfl Try.zeroValue57 rfl fun b2 w5 K6 S7 f8 => ⟨trivial, ?_⟩
 refine WO.fin ?_
 refine DN.seq ?_
 refine WC.seq ?_
 refine WC.rs [(0, 1)] rfl ?_
 refine WO.alloc (κ := K6) 4 rfl rfl rfl rfl rfl Try.zeroValue57 rfl fun b3 w9 K10 S11 f12 => ⟨trivial, ?_⟩
 refine WO.fin ?_
 refine DN.seq ?_
 refine WC.seq ?_
 refine WC.rs [(0, 2), (1, 1), (2, 2), (3, 1)] rfl ?_
 refine WO.k2 rfl rfl rfl rfl (rn_fieldAddr Try.runUnderlying47 rfl Try.sizeOf2 rfl rfl) ?_
 have f13 := f4.stp (S7.tr S11) rfl rfl
 refine WO.k1 trivial rfl rfl rfl rfl (rn_ld Try.isAgg2 rfl rfl (hvE (f13.ld 0 rfl rfl))) ?_
 refine WO.k2 rfl rfl rfl rfl (rn_fieldAddr Try.runUnderlying57 rfl Try.sizeOf2 rfl rfl) ?_
 refine WO.stB (κ := K10) 4 (off := 0) (vc := [.int .i64 p0.Inputs]) (cs' := [.int .i64 p0.Inputs, .int .i64 0, .slice none 0 0, .slice none 0 0, .slice none 0 0]) rfl rfl rfl rfl rfl rfl rfl Try.sizeOf2 rfl rfl f12 rfl rfl fun w14 S15 f16 => ⟨trivial, ?_⟩
 refine WO.fin ?_
 refine DN.seq ?_
 refine WC.seq ?_
 refine WC.rs [(0, 2), (1, 1), (2, 2), (3, 1)] rfl ?_
 refine WO.k2 rfl rfl rfl rfl (rn_fieldAddr Try.runUnderlying47 rfl Try.sizeOf2 rfl rfl) ?_
 have f17 := f13.stp S15 rfl rfl
 refine WO.k1 trivial rfl rfl rfl rfl (rn_ld Try.isAgg2 rfl rfl (hvE (f17.ld 1 rfl rfl))) ?_
 refine WO.k2 rfl rfl rfl rfl (rn_fieldAddr Try.runUnderlying57 rfl Try.sizeOf2 rfl rfl) ?_
 refine WO.stB (κ := K10) 4 (off := 1) (vc := [.int .i64 p0.Latches]) (cs' := [.int .i64 p0.Inputs, .int .i64 p0.Latches, .slice none 0 0, .slice none 0 0, .slice none 0 0]) rfl rfl rfl rfl rfl rfl rfl Try.sizeOf2 rfl rfl f16 rfl rfl fun w18 S19 f20 => ⟨trivial, ?_⟩
 refine WO.fin ?_
 refine DN.seq ?_
 refine WC.seq ?_
 refine WC.rs [(0, 2), (1, 1), (2, 1), (3, 2), (4, 1)] rfl ?_
 refine WO.k2 rfl rfl rfl rfl (rn_fieldAddr Try.runUnderlying47 rfl Try.sizeOf22 rfl rfl) ?_
 have f21 := f17.stp S19 rfl rfl
 refine WO.k1 trivial rfl rfl rfl rfl (rn_ld Try.isAgg22 rfl rfl (hvE (f21.ld 2 rfl rfl))) ?_
 obtain ⟨x12, hx12, h⟩ := Option.bind_eq_some_iff.mp h
 have f22 := g0_2.stp (S3.tr (S7.tr (S11.tr (S15.tr S19)))) rfl rfl
 refine WO.call rfl rfl rfl rfl rfl rfl Try.call90 (l_toInt64S_ok (κ := fun b => mp [] 0 (K10 b)) (Sl.map f22 (mp [] 0) rfl rfl) hx12) ?_
 rintro _ w23 ⟨k24, a12_0, u12_0, rfl, e25, f26⟩
 obtain ⟨K27, S28, m29⟩ := Ent.mixed (l := []) (κ := K10) e25 5 rfl
 refine ⟨trivial, ?_⟩
 have f31 := f26.mx (no_int _) m29 rfl (rfl : 5 + 2 = 7)
 refine WO.k2 rfl rfl rfl rfl (rn_fieldAddr Try.runUnderlying57 rfl Try.sizeOf22 rfl rfl) ?_
 have f32 := f20.stp S28 rfl rfl
 refine WO.stB (κ := K27) 4 (off := 2) (vc := [.slice a12_0 x12.length u12_0]) (cs' := [.int .i64 p0.Inputs, .int .i64 p0.Latches, .slice a12_0 x12.length u12_0, .slice none 0 0, .slice none 0 0]) rfl rfl rfl rfl rfl rfl rfl Try.sizeOf22 rfl rfl f32 rfl rfl fun w33 S34 f35 => ⟨trivial, ?_⟩
 refine WO.fin ?_
 refine DN.seq ?_
 refine WC.seq ?_
 refine WC.rs [(0, 2), (1, 1), (2, 1), (3, 2), (4, 1)] rfl ?_
 refine WO.k2 rfl rfl rfl rfl (rn_fieldAddr Try.runUnderlying47 rfl Try.sizeOf45 rfl rfl) ?_
 have f36 := f21.stp (S28.tr S34) rfl rfl
 refine WO.k1 trivial rfl rfl rfl rfl (rn_ld Try.isAgg45 rfl rfl (hvE (f36.ld 3 rfl rfl))) ?_
 obtain ⟨x16, hx16, h⟩ := Option.bind_eq_some_iff.mp h
 have f37 := g0_3.stp (S3.tr (S7.tr (S11.tr (S15.tr (S19.tr (S28.tr S34)))))) rfl rfl
 refine WO.call rfl rfl rfl rfl rfl rfl Try.call103 (l_toGateS_ok (κ := fun b => mp [] 0 (K27 b)) (Sl.map f37 (mp [] 0) rfl rfl) hx16) ?_
 rintro _ w38 ⟨k39, a16_0, u16_0, rfl, e40, f41⟩
 obtain ⟨K42, S43, m44⟩ := Ent.mixed (l := []) (κ := K27) e40 8 rfl
 refine ⟨trivial, ?_⟩
 have f46 := f41.mx Gate.no159 m44 rfl (rfl : 8 + 2 = 10)
 refine WO.k2 rfl rfl rfl rfl (rn_fieldAddr Try.runUnderlying57 rfl Try.sizeOf55 rfl rfl) ?_
 have f47 := f35.stp S43 rfl rfl
 refine WO.stB (κ := K42) 4 (off := 3) (vc := [.slice a16_0 x16.length u16_0]) (cs' := [.int .i64 p0.Inputs, .int .i64 p0.Latches, .slice a12_0 x12.length u12_0, .slice a16_0 x16.length u16_0, .slice none 0 0]) rfl rfl rfl rfl rfl rfl rfl Try.sizeOf55 rfl rfl f47 rfl rfl fun w48 S49 f50 => ⟨trivial, ?_⟩
 refine WO.fin ?_
 refine DN.seq ?_
 refine WC.seq ?_
 refine WC.rs [(0, 2), (1, 1), (2, 1), (3, 2), (4, 1)] rfl ?_
 refine WO.k2 rfl rfl rfl rfl (rn_fieldAddr Try.runUnderlying47 rfl Try.sizeOf22 rfl rfl) ?_
 have f51 := f36.stp (S43.tr S49) rfl rfl
 refine WO.k1 trivial rfl rfl rfl rfl (rn_ld Try.isAgg22 rfl rfl (hvE (f51.ld 4 rfl rfl))) ?_
 obtain ⟨x20, hx20, h⟩ := Option.bind_eq_some_iff.mp h
 have f52 := g0_4.stp (S3.tr (S7.tr (S11.tr (S15.tr (S19.tr (S28.tr (S34.tr (S43.tr S49)))))))) rfl rfl
 refine WO.call rfl rfl rfl rfl rfl rfl Try.call90 (l_toInt64S_ok (κ := fun b => mp [] 0 (K42 b)) (Sl.map f52 (mp [] 0) rfl rfl) hx20) ?_
 rintro _ w53 ⟨k54, a20_0, u20_0, rfl, e55, f56⟩
 obtain ⟨K57, S58, m59⟩ := Ent.mixed (l := []) (κ := K42) e55 11 rfl
 refine ⟨trivial, ?_⟩
 have f61 := f56.mx (no_int _) m59 rfl (rfl : 11 + 2 = 13)
 refine WO.k2 rfl rfl rfl rfl (rn_fieldAddr Try.runUnderlying57 rfl Try.sizeOf22 rfl rfl) ?_
 have f62 := f50.stp S58 rfl rfl
 refine WO.stB (κ := K57) 4 (off := 4) (vc := [.slice a20_0 x20.length u20_0]) (cs' := [.int .i64 p0.Inputs, .int .i64 p0.Latches, .slice a12_0 x12.length u12_0, .slice a16_0 x16.length u16_0, .slice a20_0 x20.length u20_0]) rfl rfl rfl rfl rfl rfl rfl Try.sizeOf22 rfl rfl f62 rfl rfl fun w63 S64 f65 => ⟨trivial, ?_⟩
 refine WO.fin ?_
 refine DN.seq ?_
 refine WC.seq ?_
 refine WC.rs [(0, 1), (1, 1)] rfl ?_
 refine WO.k1 trivial rfl rfl rfl rfl (rn_la (cs := [.int .i64 p0.Inputs, .int .i64 p0.Latches, .slice a12_0 x12.length u12_0, .slice a16_0 x16.length u16_0, .slice a20_0 x20.length u20_0]) Try.isAgg57 Try.sizeOf57 rfl rfl rfl (haE f65.cells)) ?_
 have f66 := f8.stp (S11.tr (S15.tr (S19.tr (S28.tr (S34.tr (S43.tr (S49.tr (S58.tr S64)))))))) rfl rfl
 refine WO.stB0 (κ := K57) 3 (vc := [.int .i64 p0.Inputs, .int .i64 p0.Latches, .slice a12_0 x12.length u12_0, .slice a16_0 x16.length u16_0, .slice a20_0 x20.length u20_0]) rfl rfl rfl rfl rfl rfl rfl Try.sizeOf57 rfl rfl f66 rfl fun w67 S68 f69 => ⟨trivial, ?_⟩
 refine WO.fin ?_
 refine DN.seq ?_
 refine WC.ret ?_
 have f70 := hE.stp (S3.tr (S7.tr (S11.tr (S15.tr (S19.tr (S28.tr (S34.tr (S43.tr (S49.tr (S58.tr (S64.tr S68))))))))))) rfl rfl
 have f71 := f31.stp (S34.tr (S43.tr (S49.tr (S58.tr (S64.tr S68))))) rfl rfl
 have f72 := f46.stp (S49.tr (S58.tr (S64.tr S68))) rfl rfl
 have f73 := f61.stp (S64.tr S68) rfl rfl
 refine DN.res (l := [.cell 2 57]) Try.results26 (res_cellA rfl f69 Try.isAgg57 Try.sizeOf57 rfl rfl) rfl ?_
 obtain rfl := Option.some.inj h
 exact ⟨(fun b => ren [(7, 2), (10, 3), (13, 4)] (K57 b)), a12_0, u12_0, a16_0, u16_0, a20_0, u20_0, rfl, (f70.map (ren [(7, 2), (10, 3), (13, 4)]) rfl rfl), (f71.map (ren [(7, 2), (10, 3), (13, 4)]) rfl rfl), (f72.map (ren [(7, 2), (10, 3), (13, 4)]) rfl rfl), (f73.map (ren [(7, 2), (10, 3), (13, 4)]) rfl rfl)⟩

/- loop.example/g00869/spec.CircuitOk -/
theorem s_CircuitOk_ok {w : World} {κ : Col} {a0_2 : Option Addr} {u0_2 : Nat} {a0_3 : Option Addr} {u0_3 : Nat} {a0_4 : Option Addr} {u0_4 : Nat} {p0 : Circuit} (g0_2 : Rd (Rp.int .i64) κ w 0 a0_2 u0_2 p0.Next) (g0_3 : Rd Gate.rp κ w 0 a0_3 u0_3 p0.Gates) (g0_4 : Rd (Rp.int .i64) κ w 0 a0_4 u0_4 p0.Outs) {r : Bool} (h : s_CircuitOk p0 = some r) : Ret Try.prog 115 [.agg #[.int .i64 p0.Inputs, .int .i64 p0.Latches, .slice a0_2 p0.Next.length u0_2, .slice a0_3 p0.Gates.length u0_3, .slice a0_4 p0.Outs.length u0_4]] w (fun v w' => ∃ (κ' : Col), v = .bool r ∧ Ent κ w κ' w') := by
 unfold s_CircuitOk at h
 refine Ret.enter Try.func115 rfl Try.ntmps115 rfl ?_
 dsimp only [envOf]
 have hE := Ent.refl κ w
 refine WC.seq ?_
 refine WC.rs [(0, 1), (1, 2)] rfl ?_
 refine WO.box (κ := κ) 2 rfl rfl rfl rfl rfl rfl rfl fun b1 w1 K2 S3 f4 => ⟨trivial, ?_⟩
 refine WO.pn 1 rfl ?_
 refine WO.fin ?_
 refine DN.seq ?_
 refine WC.seq ?_
 refine WC.seq ?_
 refine WC.rs [(0, 2), (1, 1), (2, 1), (3, 2), (4, 2), (5, 2), (6, 1), (7, 1), (8, 2), (9, 2), (10, 2), (11, 2), (12, 1), (13, 2), (14, 2), (15, 2), (16, 2), (17, 2), (18, 1), (19, 2), (20, 2), (21, 2), (22, 2), (23, 2), (24, 1), (25, 2), (26, 2), (27, 1), (28, 2), (29, 2)] rfl ?_
 refine WO.k2 rfl rfl rfl rfl (rn_fieldAddr Try.runUnderlying57 rfl Try.sizeOf2 rfl rfl) ?_
 refine WO.k1 trivial rfl rfl rfl rfl (rn_ld Try.isAgg2 rfl rfl (hvE (f4.ld 0 rfl rfl))) ?_
 obtain ⟨x7, hx7, h⟩ := Option.bind_eq_some_iff.mp h
 refine WO.call rfl rfl rfl rfl rfl rfl Try.call150 (s_l1In_ok (κ := fun b => mp [] 0 (K2 b)) hx7) ?_
 rintro _ w5 ⟨k6, rfl, e7⟩
 obtain ⟨K8, S9, m10⟩ := Ent.mixed (l := []) (κ := K2) e7 3 rfl
 refine ⟨trivial, ?_⟩
 refine WO.pn 2 rfl ?_
 obtain ⟨p14, h, hK12⟩ := Option.bind_eq_some_iff.mp h
 refine WO.meet [(5, 2), (6, 1), (7, 1), (8, 2), (9, 2)] [(10, 2), (11, 2), (12, 1), (13, 2), (14, 2), (15, 2), (16, 2), (17, 2), (18, 1), (19, 2), (20, 2), (21, 2), (22, 2), (23, 2), (24, 1), (25, 2), (26, 2), (27, 1), (28, 2), (29, 2)] (fun L w' => L = [(1, .pointer (some ⟨b1, 0, none⟩)), (14, .bool p14)] ∧ ∃ κ', Stp [] K8 w5 κ' w') trivial ?_ ?_
 ·
  revert h
  cases ht13 : (!x7) with
  | true =>
   intro h; replace h := cT h
   refine WO.pn 1 rfl ?_
   refine WO.ls rfl rfl rfl rfl ?_
   refine WO.ls rfl rfl rfl rfl ?_
   refine WO.pn 2 rfl ?_
   obtain rfl := Option.some.inj h
   exact WO.met _ trivial ⟨rfl, _, (Stp.refl _ _).wk rfl⟩ fun a ha => (ha.more (ha.more ha.nil rfl) rfl)
  | false =>
   intro h; replace h := cF h
   refine WO.k2 rfl rfl rfl rfl (rn_fieldAddr Try.runUnderlying57 rfl Try.sizeOf2 rfl rfl) ?_
   have f14 := f4.stp S9 rfl rfl
   refine WO.k1 trivial rfl rfl rfl rfl (rn_ld Try.isAgg2 rfl rfl (hvE (f14.ld 1 rfl rfl))) ?_
   obtain ⟨x12, hx12, h⟩ := Option.bind_eq_some_iff.mp h
   refine WO.call rfl rfl rfl rfl rfl rfl Try.call150 (s_l1In_ok (κ := fun b => mp [] 0 (K8 b)) hx12) ?_
   rintro _ w15 ⟨k16, rfl, e17⟩
   obtain ⟨K18, S19, m20⟩ := Ent.mixed (l := []) (κ := K8) e17 5 rfl
   refine ⟨trivial, ?_⟩
   refine WO.pn 2 rfl ?_
   obtain rfl := Option.some.inj h
   exact WO.met _ trivial ⟨rfl, _, S19.wk rfl⟩ fun a ha => (ha.more (ha.more ha.nil rfl) rfl)
 rintro _ w22 _ ⟨rfl, K23, S24⟩
 have h := hK12
 refine WO.pn 1 rfl ?_
 obtain ⟨p20, h, hK25⟩ := Option.bind_eq_some_iff.mp h
 refine WO.meet [(11, 2), (12, 1), (13, 2), (14, 2), (15, 2)] [(16, 2), (17, 2), (18, 1), (19, 2), (20, 2), (21, 2), (22, 2), (23, 2), (24, 1), (25, 2), (26, 2), (27, 1), (28, 2), (29, 2)] (fun L w' => L = [(1, .pointer (some ⟨b1, 0, none⟩)), (20, .bool p20)] ∧ ∃ κ', Stp [] K23 w22 κ' w') trivial ?_ ?_
 ·
  revert h
  cases ht26 : p14 with
  | true =>
   intro h; replace h := cT h
   refine WO.pn 1 rfl ?_
   refine WO.ls rfl rfl rfl rfl ?_
   refine WO.pn 3 rfl ?_
   obtain rfl := Option.some.inj h
   exact WO.met _ trivial ⟨rfl, _, (Stp.refl _ _).wk rfl⟩ fun a ha => (ha.more (ha.more ha.nil rfl) rfl)
  | false =>
   intro h; replace h := cF h
   refine WO.k2 rfl rfl rfl rfl (rn_fieldAddr Try.runUnderlying57 rfl Try.sizeOf55 rfl rfl) ?_
   have f27 := f4.stp (S9.tr S24) rfl rfl
   refine WO.k1 trivial rfl rfl rfl rfl (rn_ld Try.isAgg55 rfl rfl (hvE (f27.ld 3 rfl rfl))) ?_
   refine WO.k2 rfl rfl rfl rfl (rn_len Try.runUnderlying55 rfl rfl) ?_
   refine WO.pn 2 rfl ?_
   obtain rfl := Option.some.inj h
   exact WO.met _ trivial ⟨rfl, _, (Stp.refl _ _).wk rfl⟩ fun a ha => (ha.more (ha.more ha.nil rfl) rfl)
 rintro _ w28 _ ⟨rfl, K29, S30⟩
 have h := hK25
 refine WO.pn 1 rfl ?_
 obtain ⟨p26, h, hK31⟩ := Option.bind_eq_some_iff.mp h
 refine WO.meet [(17, 2), (18, 1), (19, 2), (20, 2), (21, 2)] [(22, 2), (23, 2), (24, 1), (25, 2), (26, 2), (27, 1), (28, 2), (29, 2)] (fun L w' => L = [(1, .pointer (some ⟨b1, 0, none⟩)), (26, .bool p26)] ∧ ∃ κ', Stp [] K29 w28 κ' w') trivial ?_ ?_
 ·
  revert h
  cases ht32 : p20 with
  | true =>
   intro h; replace h := cT h
   refine WO.pn 1 rfl ?_
   refine WO.ls rfl rfl rfl rfl ?_
   refine WO.pn 3 rfl ?_
   obtain rfl := Option.some.inj h
   exact WO.met _ trivial ⟨rfl, _, (Stp.refl _ _).wk rfl⟩ fun a ha => (ha.more (ha.more ha.nil rfl) rfl)
  | false =>
   intro h; replace h := cF h
   refine WO.k2 rfl rfl rfl rfl (rn_fieldAddr Try.runUnderlying57 rfl Try.sizeOf22 rfl rfl) ?_
   have f33 := f4.stp (S9.tr (S24.tr S30)) rfl rfl
   refine WO.k1 trivial rfl rfl rfl rfl (rn_ld Try.isAgg22 rfl rfl (hvE (f33.ld 4 rfl rfl))) ?_
   refine WO.k2 rfl rfl rfl rfl (rn_len Try.runUnderlying22 rfl rfl) ?_
   refine WO.pn 2 rfl ?_
   obtain rfl := Option.some.inj h
   exact WO.met _ trivial ⟨rfl, _, (Stp.refl _ _).wk rfl⟩ fun a ha => (ha.more (ha.more ha.nil rfl) rfl)
 rintro _ w34 _ ⟨rfl, K35, S36⟩
 have h := hK31
 refine WO.pn 1 rfl ?_
 obtain ⟨p34, h, hK37⟩ := Option.bind_eq_some_iff.mp h
 refine WO.meet [(23, 2), (24, 1), (25, 2), (26, 2), (27, 1), (28, 2), (29, 2)] [] (fun L w' => L = [(1, .pointer (some ⟨b1, 0, none⟩)), (34, .bool p34)] ∧ ∃ κ', Stp [] K35 w34 κ' w') trivial ?_ ?_
 ·
  revert h
  cases ht38 : p26 with
  | true =>
   intro h; replace h := cT h
   refine WO.pn 1 rfl ?_
   refine WO.ls rfl rfl rfl rfl ?_
   refine WO.pn 2 rfl ?_
   refine WO.ls rfl rfl rfl rfl ?_
   refine WO.pn 2 rfl ?_
   obtain rfl := Option.some.inj h
   exact WO.met _ trivial ⟨rfl, _, (Stp.refl _ _).wk rfl⟩ fun a ha => (ha.more (ha.more ha.nil rfl) rfl)
  | false =>
   intro h; replace h := cF h
   refine WO.k2 rfl rfl rfl rfl (rn_fieldAddr Try.runUnderlying57 rfl Try.sizeOf22 rfl rfl) ?_
   have f39 := f4.stp (S9.tr (S24.tr (S30.tr S36))) rfl rfl
   refine WO.k1 trivial rfl rfl rfl rfl (rn_ld Try.isAgg22 rfl rfl (hvE (f39.ld 2 rfl rfl))) ?_
   refine WO.k2 rfl rfl rfl rfl (rn_len Try.runUnderlying22 rfl rfl) ?_
   refine WO.k2 rfl rfl rfl rfl (rn_fieldAddr Try.runUnderlying57 rfl Try.sizeOf2 rfl rfl) ?_
   refine WO.k1 trivial rfl rfl rfl rfl (rn_ld Try.isAgg2 rfl rfl (hvE (f39.ld 1 rfl rfl))) ?_
   refine WO.pn 2 rfl ?_
   obtain rfl := Option.some.inj h
   exact WO.met _ trivial ⟨rfl, _, (Stp.refl _ _).wk rfl⟩ fun a ha => (ha.more (ha.more ha.nil rfl) rfl)
 rintro _ w40 _ ⟨rfl, K41, S42⟩
 have h := hK37
 refine WO.fin ?_
 refine DN.seq ?_
 revert h
 cases ht43 : p34 with
 | true =>
  intro h; replace h := cT h
  refine WC.ct rfl ?_
  refine WC.seq ?_
  refine WC.rs [(0, 2)] rfl ?_
  refine WO.pn 1 rfl ?_
  refine WO.fin ?_
  refine DN.seq ?_
  refine WC.ret ?_
  refine DN.retThen ?_
  have f44 := hE.stp (S3.tr (S9.tr (S24.tr (S30.tr (S36.tr S42))))) rfl rfl
  refine DN.res (l := [.tmp 2]) Try.results115 (res_tmp rfl rfl) rfl ?_
  obtain rfl := Option.some.inj h
  exact ⟨K41, rfl, f44⟩
 | false =>
  intro h; replace h := cF h
  refine WC.cf rfl ?_
  refine WC.skip ?_
  refine DN.seq ?_
  refine WC.seq ?_
  refine WC.seq ?_
  refine WC.rs [(0, 2)] rfl ?_
  refine WO.pn 1 rfl ?_
  refine WO.fin ?_
  refine DN.seq ?_
  have hN45 : (p0.Gates.length : Int) ≤ 9223372036854775807 := g0_3.len_le
  obtain ⟨q2, hq47, hK46⟩ := Option.bind_eq_some_iff.mp h
  clear h
  refine WC.meet (fun L w' => ∃ (κ' : Col), L = [(1, .pointer (some ⟨b1, 0, none⟩))] ∧ Stp [] K41 w40 κ' w' ∧ q2 = Sum.inr ()) ?_ ?_
  ·
   refine WC.block ?_
   refine WC.loop (fun k L w' => ∃ (κ' : Col) (v3 : Int), L = [(1, .pointer (some ⟨b1, 0, none⟩)), (3, .int .i64 v3)] ∧ Stp [] K41 w40 κ' w' ∧ 0 ≤ v3 ∧ Int.toNat ((p0.Gates.length : Int) - v3) = k ∧ cntM (s_CircuitOk_b0 p0) k v3 () = some q2) ⟨_, _, ⟨K41, 0, rfl, (Stp.refl _ _).wk rfl, (by decide), (by simp), hq47⟩, fun a ha => (ha.more (ha.more ha.nil rfl) rfl)⟩ ?_
   rintro k _ w51 ⟨K52, v3, rfl, S53, hj45, hJ45, h⟩
   rcases k with _ | k
   ·
    have hk54 := h; obtain ⟨o45, h⟩ := ex_eq (Sum.inr (Sum.inl ()) : Bool ⊕ ((Unit) ⊕ (Unit)))
    have hc45 : decide (v3 < (p0.Gates.length : Int)) = false := decide_eq_false (by omega)
    refine WC.seq ?_
    refine WC.seq ?_
    refine WC.rs [(0, 2), (1, 2), (2, 1), (3, 2), (4, 2)] rfl ?_
    refine WO.pn 1 rfl ?_
    refine WO.k2 rfl rfl rfl rfl (rn_fieldAddr Try.runUnderlying57 rfl Try.sizeOf55 rfl rfl) ?_
    have f55 := f4.stp (S9.tr (S24.tr (S30.tr (S36.tr (S42.tr S53))))) rfl rfl
    refine WO.k1 trivial rfl rfl rfl rfl (rn_ld Try.isAgg55 rfl rfl (hvE (f55.ld 3 rfl rfl))) ?_
    refine WO.k2 rfl rfl rfl rfl (rn_len Try.runUnderlying55 rfl rfl) ?_
    refine WO.pn 1 rfl ?_
    refine WO.fin ?_
    refine DN.seq ?_
    refine WC.cf' rfl hc45 ?_
    refine WC.exit ?_
    refine DN.exitThen ?_
    refine DN.exitThen ?_
    obtain rfl := Option.some.inj h
    have h := hk54
    refine DN.hit ?_
    obtain rfl := Option.some.inj h
    exact DN.meet _ ⟨K52, rfl, S53.wk rfl, rfl⟩ fun a ha => (ha.more ha.nil rfl)
   ·
    obtain ⟨o45, h, hk54⟩ := Option.bind_eq_some_iff.mp h; unfold s_CircuitOk_b0 at h
    have hc45 : decide (v3 < (p0.Gates.length : Int)) = true := decide_eq_true (by omega)
    refine WC.seq ?_
    refine WC.seq ?_
    refine WC.rs [(0, 2), (1, 2), (2, 1), (3, 2), (4, 2)] rfl ?_
    refine WO.pn 1 rfl ?_
    refine WO.k2 rfl rfl rfl rfl (rn_fieldAddr Try.runUnderlying57 rfl Try.sizeOf55 rfl rfl) ?_
    have f56 := f4.stp (S9.tr (S24.tr (S30.tr (S36.tr (S42.tr S53))))) rfl rfl
    refine WO.k1 trivial rfl rfl rfl rfl (rn_ld Try.isAgg55 rfl rfl (hvE (f56.ld 3 rfl rfl))) ?_
    refine WO.k2 rfl rfl rfl rfl (rn_len Try.runUnderlying55 rfl rfl) ?_
    refine WO.pn 1 rfl ?_
    refine WO.fin ?_
    refine DN.seq ?_
    refine WC.ct' rfl hc45 ?_
    refine WC.skip ?_
    refine DN.seq ?_
    refine WC.seq ?_
    refine WC.block ?_
    refine WC.seq ?_
    refine WC.rs [(0, 2), (1, 1), (2, 2), (3, 2), (4, 1), (5, 2), (6, 2), (7, 2), (8, 2), (9, 2), (10, 2)] rfl ?_
    refine WO.k2 rfl rfl rfl rfl (rn_fieldAddr Try.runUnderlying57 rfl Try.sizeOf2 rfl rfl) ?_
    refine WO.k1 trivial rfl rfl rfl rfl (rn_ld Try.isAgg2 rfl rfl (hvE (f56.ld 0 rfl rfl))) ?_
    refine WO.pn 1 rfl ?_
    refine WO.k2 rfl rfl rfl rfl (rn_fieldAddr Try.runUnderlying57 rfl Try.sizeOf2 rfl rfl) ?_
    refine WO.k1 trivial rfl rfl rfl rfl (rn_ld Try.isAgg2 rfl rfl (hvE (f56.ld 1 rfl rfl))) ?_
    refine WO.pn 6 rfl ?_
    refine WO.fin ?_
    refine DN.seq ?_
    refine WC.seq ?_
    refine WC.rs [(0, 2), (1, 1), (2, 2), (3, 2), (4, 2), (5, 1), (6, 2), (7, 1), (8, 2), (9, 2), (10, 2), (11, 1), (12, 2), (13, 2), (14, 2), (15, 1), (16, 2), (17, 1), (18, 2), (19, 2)] rfl ?_
    refine WO.k2 rfl rfl rfl rfl (rn_fieldAddr Try.runUnderlying57 rfl Try.sizeOf55 rfl rfl) ?_
    refine WO.k1 trivial rfl rfl rfl rfl (rn_ld Try.isAgg55 rfl rfl (hvE (f56.ld 3 rfl rfl))) ?_
    refine WO.pn 1 rfl ?_
    obtain ⟨x55, hx55, h⟩ := Option.bind_eq_some_iff.mp h
    refine WO.k2 rfl rfl rfl rfl (rn_index g0_3 hx55 Try.runUnderlying55 Try.sizeOf159 rfl rfl rfl rfl) ?_
    refine WO.k2 rfl rfl rfl rfl (rn_fieldAddr Try.runUnderlying159 rfl Try.sizeOf2 rfl rfl) ?_
    have f57 := g0_3.stp (S3.tr (S9.tr (S24.tr (S30.tr (S36.tr (S42.tr S53)))))) rfl rfl
    obtain ⟨cse58, hre58, hle58⟩ := (f57).gSt hx55
    obtain rfl := Gate.un hre58
    refine WO.k1 trivial rfl rfl rfl rfl (rn_ld Try.isAgg2 rfl rfl (hvE (fun w' hw' => hle58 w' hw' 0 _ rfl))) ?_
    refine WO.pn 1 rfl ?_
    obtain ⟨x59, hx59, h⟩ := Option.bind_eq_some_iff.mp h
    refine WO.call rfl rfl rfl rfl rfl rfl Try.call150 (s_l1In_ok (κ := fun b => mp [] 0 (K52 b)) hx59) ?_
    rintro _ w59 ⟨k60, rfl, e61⟩
    obtain ⟨K62, S63, m64⟩ := Ent.mixed (l := []) (κ := K52) e61 5 rfl
    refine ⟨trivial, ?_⟩
    refine WO.pn 2 rfl ?_
    obtain ⟨p71, h, hK66⟩ := Option.bind_eq_some_iff.mp h
    refine WO.meet [(10, 2), (11, 1), (12, 2), (13, 2), (14, 2), (15, 1), (16, 2), (17, 1), (18, 2), (19, 2)] [] (fun L w' => L = [(1, .pointer (some ⟨b1, 0, none⟩)), (3, .int .i64 v3), (71, .bool p71)] ∧ ∃ κ', Stp [] K62 w59 κ' w') trivial ?_ ?_
    ·
     revert h
     cases ht67 : (!x59) with
     | true =>
      intro h; replace h := cT h
      refine WO.pn 1 rfl ?_
      refine WO.ls rfl rfl rfl rfl ?_
      refine WO.pn 3 rfl ?_
      refine WO.ls rfl rfl rfl rfl ?_
      refine WO.pn 1 rfl ?_
      refine WO.ls rfl rfl rfl rfl ?_
      refine WO.pn 2 rfl ?_
      obtain rfl := Option.some.inj h
      exact WO.met _ trivial ⟨rfl, _, (Stp.refl _ _).wk rfl⟩ fun a ha => (ha.more (ha.more (ha.more ha.nil rfl) rfl) rfl)
     | false =>
      intro h; replace h := cF h
      refine WO.k2 rfl rfl rfl rfl (rn_fieldAddr Try.runUnderlying57 rfl Try.sizeOf55 rfl rfl) ?_
      have f68 := f56.stp S63 rfl rfl
      refine WO.k1 trivial rfl rfl rfl rfl (rn_ld Try.isAgg55 rfl rfl (hvE (f68.ld 3 rfl rfl))) ?_
      refine WO.pn 1 rfl ?_
      obtain ⟨x65, hx65, h⟩ := Option.bind_eq_some_iff.mp h
      refine WO.k2 rfl rfl rfl rfl (rn_index f57 hx65 Try.runUnderlying55 Try.sizeOf159 rfl rfl rfl rfl) ?_
      refine WO.k2 rfl rfl rfl rfl (rn_fieldAddr Try.runUnderlying159 rfl Try.sizeOf2 rfl rfl) ?_
      have f69 := f57.stp S63 rfl rfl
      obtain ⟨cse70, hre70, hle70⟩ := (f69).gSt hx65
      obtain rfl := Gate.un hre70
      refine WO.k1 trivial rfl rfl rfl rfl (rn_ld Try.isAgg2 rfl rfl (hvE (fun w' hw' => hle70 w' hw' 1 _ rfl))) ?_
      refine WO.pn 1 rfl ?_
      obtain ⟨x69, hx69, h⟩ := Option.bind_eq_some_iff.mp h
      refine WO.call rfl rfl rfl rfl rfl rfl Try.call150 (s_l1In_ok (κ := fun b => mp [] 0 (K62 b)) hx69) ?_
      rintro _ w71 ⟨k72, rfl, e73⟩
      obtain ⟨K74, S75, m76⟩ := Ent.mixed (l := []) (κ := K62) e73 7 rfl
      refine ⟨trivial, ?_⟩
      refine WO.pn 2 rfl ?_
      obtain rfl := Option.some.inj h
      exact WO.met _ trivial ⟨rfl, _, S75.wk rfl⟩ fun a ha => (ha.more (ha.more (ha.more ha.nil rfl) rfl) rfl)
    rintro _ w78 _ ⟨rfl, K79, S80⟩
    have h := hK66
    refine WO.fin ?_
    refine DN.seq ?_
    revert h
    cases ht81 : p71 with
    | true =>
     intro h; replace h := cT h
     refine WC.ct rfl ?_
     refine WC.seq ?_
     refine WC.rs [(0, 2)] rfl ?_
     refine WO.pn 1 rfl ?_
     refine WO.fin ?_
     refine DN.seq ?_
     refine WC.ret ?_
     refine DN.retBlock ?_
     refine DN.retThen ?_
     refine DN.retThen ?_
     obtain rfl := Option.some.inj h
     obtain rfl := Option.some.inj hk54
     have h := hK46
     dsimp only [aft] at h
     refine DN.retBlock ?_
     refine DN.retMeet ?_
     refine DN.retThen ?_
     have f82 := hE.stp (S3.tr (S9.tr (S24.tr (S30.tr (S36.tr (S42.tr (S53.tr (S63.tr S80)))))))) rfl rfl
     refine DN.res (l := [.tmp 2]) Try.results115 (res_tmp rfl rfl) rfl ?_
     obtain rfl := Option.some.inj h
     exact ⟨K79, rfl, f82⟩
    | false =>
     intro h; replace h := cF h
     refine WC.cf rfl ?_
     refine WC.skip ?_
     refine DN.block ?_
     refine DN.seq ?_
     refine WC.rs [(0, 2), (1, 2), (2, 2)] rfl ?_
     refine WO.pn 3 rfl ?_
     refine WO.fin ?_
     have hw45 : IntKind.wrap .i64 (v3 + 1) = v3 + 1 := wr1 hj45 (of_decide_eq_true hc45) hN45
     rw [hw45]
     have hc45 := of_decide_eq_true hc45
     obtain rfl := Option.some.inj h
     refine DN.round fun a ha => ?_
     exact ⟨k, _, Nat.lt_succ_self _, ⟨K79, v3 + 1, rfl, (S53.tr (S63.tr S80)).wk rfl, by omega, by omega, hk54⟩, (ha.more (ha.more ha.nil rfl) rfl)⟩
  rintro _ w48 ⟨K49, rfl, S50, rfl⟩
  have h := hK46
  dsimp only [aft] at h
  refine DN.seq ?_
  refine WC.seq ?_
  refine WC.rx (κ := K49) [2] none [(0, 2), (1, 0), (2, 0), (3, 1), (4, 1), (5, 2), (6, 2), (7, 0), (8, 0), (9, 1), (10, 1), (11, 2), (12, 2)] [] (by kernel_rfl) (by kernel_rfl) fun w84 S83 => ?_
  refine WO.k2 rfl rfl rfl rfl (rn_fieldAddr Try.runUnderlying57 rfl Try.sizeOf22 rfl rfl) ?_
  have f85 := f4.stp (S9.tr (S24.tr (S30.tr (S36.tr (S42.tr (S50.tr S83)))))) rfl rfl
  refine WO.k0 rfl rfl rfl rfl (rn_ld Try.isAgg22 rfl rfl (hvC (f85.ld 2 rfl rfl) rfl)) ?_
  refine WO.k0 rfl rfl rfl rfl (rn_la (cs := [.int .i64 p0.Inputs, .int .i64 p0.Latches, .slice a0_2 p0.Next.length u0_2, .slice a0_3 p0.Gates.length u0_3, .slice a0_4 p0.Outs.length u0_4]) Try.isAgg57 Try.sizeOf57 rfl rfl rfl (haC f85.cells rfl)) ?_
  obtain ⟨x75, hx75, h⟩ := Option.bind_eq_some_iff.mp h
  have f86 := g0_2.stp (S3.tr (S9.tr (S24.tr (S30.tr (S36.tr (S42.tr (S50.tr S83))))))) rfl rfl
  have f87 := g0_3.stp (S3.tr (S9.tr (S24.tr (S30.tr (S36.tr (S42.tr (S50.tr S83))))))) rfl rfl
  have f88 := g0_4.stp (S3.tr (S9.tr (S24.tr (S30.tr (S36.tr (S42.tr (S50.tr S83))))))) rfl rfl
  refine WO.call rfl rfl rfl rfl rfl rfl Try.call120 (s_l31Signals_ok (κ := fun b => mp [] 0 (K49 b)) (p0 := p0) (Sl.map f86 (mp [] 0) rfl rfl) (Sl.map f87 (mp [] 0) rfl rfl) (Sl.map f88 (mp [] 0) rfl rfl) hx75) ?_
  rintro _ w89 ⟨k90, rfl, e91⟩
  obtain ⟨K92, S93, m94⟩ := Ent.mixed (l := []) (κ := K49) e91 5 rfl
  refine ⟨(S93.cl rfl), ?_⟩
  obtain ⟨x76, hx76, h⟩ := Option.bind_eq_some_iff.mp h
  have f96 := f86.stp S93 rfl rfl
  refine WO.call rfl rfl rfl rfl rfl rfl Try.call175 (s_l31Literals_ok (κ := fun b => mp [] 0 (K92 b)) (Sl.map f96 (mp [] 0) rfl rfl) hx76) ?_
  rintro _ w97 ⟨k98, rfl, e99⟩
  obtain ⟨K100, S101, m102⟩ := Ent.mixed (l := []) (κ := K92) e99 7 rfl
  refine ⟨((S93.tr S101).cl rfl), ?_⟩
  refine WO.pn 1 rfl ?_
  obtain ⟨p83, h, hK104⟩ := Option.bind_eq_some_iff.mp h
  refine WO.meet [(6, 2), (7, 0), (8, 0), (9, 1), (10, 1), (11, 2)] [(12, 2)] (fun L w' => L = [(83, .bool p83)] ∧ ∃ κ', Stp [] K100 w97 κ' w') ((S93.tr S101).cl rfl) ?_ ?_
  ·
   revert h
   cases ht105 : x76 with
   | true =>
    intro h; replace h := cT h
    refine WO.k2 rfl rfl rfl rfl (rn_fieldAddr Try.runUnderlying57 rfl Try.sizeOf22 rfl rfl) ?_
    refine WO.k0 rfl rfl rfl rfl (rn_ld Try.isAgg22 rfl rfl (hvC (f85.ld 4 rfl rfl) rfl)) ?_
    refine WO.k0 rfl rfl rfl rfl (rn_la (cs := [.int .i64 p0.Inputs, .int .i64 p0.Latches, .slice a0_2 p0.Next.length u0_2, .slice a0_3 p0.Gates.length u0_3, .slice a0_4 p0.Outs.length u0_4]) Try.isAgg57 Try.sizeOf57 rfl rfl rfl (haC f85.cells rfl)) ?_
    obtain ⟨x81, hx81, h⟩ := Option.bind_eq_some_iff.mp h
    have f106 := f96.stp S101 rfl rfl
    have f107 := f87.stp (S93.tr S101) rfl rfl
    have f108 := f88.stp (S93.tr S101) rfl rfl
    refine WO.call rfl rfl rfl rfl rfl rfl Try.call120 (s_l31Signals_ok (κ := fun b => mp [] 0 (K100 b)) (p0 := p0) (Sl.map f106 (mp [] 0) rfl rfl) (Sl.map f107 (mp [] 0) rfl rfl) (Sl.map f108 (mp [] 0) rfl rfl) hx81) ?_
    rintro _ w109 ⟨k110, rfl, e111⟩
    obtain ⟨K112, S113, m114⟩ := Ent.mixed (l := []) (κ := K100) e111 9 rfl
    refine ⟨((S93.tr (S101.tr S113)).cl rfl), ?_⟩
    obtain ⟨x82, hx82, h⟩ := Option.bind_eq_some_iff.mp h
    have f116 := f108.stp S113 rfl rfl
    refine WO.call rfl rfl rfl rfl rfl rfl Try.call175 (s_l31Literals_ok (κ := fun b => mp [] 0 (K112 b)) (Sl.map f116 (mp [] 0) rfl rfl) hx82) ?_
    rintro _ w117 ⟨k118, rfl, e119⟩
    obtain ⟨K120, S121, m122⟩ := Ent.mixed (l := []) (κ := K112) e119 11 rfl
    refine ⟨((S93.tr (S101.tr (S113.tr S121))).cl rfl), ?_⟩
    refine WO.pn 1 rfl ?_
    obtain rfl := Option.some.inj h
    exact WO.met _ ((S93.tr (S101.tr (S113.tr S121))).cl rfl) ⟨rfl, _, (S113.tr S121).wk rfl⟩ fun a ha => (ha.more ha.nil rfl)
   | false =>
    intro h; replace h := cF h
    refine WO.pn 1 rfl ?_
    refine WO.qs rfl rfl rfl rfl ?_
    refine WO.qs rfl rfl rfl rfl ?_
    refine WO.ls rfl rfl rfl rfl ?_
    refine WO.ls rfl rfl rfl rfl ?_
    refine WO.pn 1 rfl ?_
    obtain rfl := Option.some.inj h
    exact WO.met _ ((S93.tr S101).cl rfl) ⟨rfl, _, (Stp.refl _ _).wk rfl⟩ fun a ha => (ha.more ha.nil rfl)
  rintro _ w124 _ ⟨rfl, K125, S126⟩
  have h := hK104
  refine WO.pn 1 rfl ?_
  refine WO.nx ?_
  refine WO.fin ?_
  refine DN.seq ?_
  refine WC.ret ?_
  have f127 := hE.stp (S3.tr (S9.tr (S24.tr (S30.tr (S36.tr (S42.tr (S50.tr (S83.tr (S93.tr (S101.tr S126)))))))))) rfl rfl
  refine DN.res (l := [.tmp 2]) Try.results115 (res_tmp rfl rfl) rfl ?_
  obtain rfl := Option.some.inj h
  exact ⟨K125, rfl, f127⟩

/- loop.example/g00869/spec.l31Ends -/
theorem s_l31Ends_ok {w : World} {κ : Col} {a0_2 : Option Addr} {u0_2 : Nat} {a0_3 : Option Addr} {u0_3 : Nat} {a0_4 : Option Addr} {u0_4 : Nat} {p0 : Circuit} {a1_2 : Option Addr} {u1_2 : Nat} {a1_3 : Option Addr} {u1_3 : Nat} {a1_4 : Option Addr} {u1_4 : Nat} {p1 : Circuit} {a2 : Option Addr} {u2 : Nat} {p2 : (List Int)} (g0_2 : Rd (Rp.int .i64) κ w 0 a0_2 u0_2 p0.Next) (g0_3 : Rd Gate.rp κ w 0 a0_3 u0_3 p0.Gates) (g0_4 : Rd (Rp.int .i64) κ w 0 a0_4 u0_4 p0.Outs) (g1_2 : Oc (Ep.int .i64) 2 κ w 2 a1_2 u1_2 p1.Next) (g1_3 : Rd Gate.rp κ w 0 a1_3 u1_3 p1.Gates) (g1_4 : Oc (Ep.int .i64) 2 κ w 3 a1_4 u1_4 p1.Outs) (g2 : Rd (Rp.int .i64) κ w 0 a2 u2 p2) {r : Circuit} (h : s_l31Ends p0 p1 p2 = some r) : Ret Try.prog 118 [.agg #[.int .i64 p0.Inputs, .int .i64 p0.Latches, .slice a0_2 p0.Next.length u0_2, .slice a0_3 p0.Gates.length u0_3, .slice a0_4 p0.Outs.length u0_4], .agg #[.int .i64 p1.Inputs, .int .i64 p1.Latches, .slice a1_2 p1.Next.length u1_2, .slice a1_3 p1.Gates.length u1_3, .slice a1_4 p1.Outs.length u1_4], .slice a2 p2.length u2] w (fun v w' => ∃ (κ' : Col) (ra0 : Option Addr) (ru0 : Nat) (ra1 : Option Addr) (ru1 : Nat) (ra2 : Option Addr) (ru2 : Nat), v = .agg #[.int .i64 r.Inputs, .int .i64 r.Latches, .slice ra0 r.Next.length ru0, .slice ra1 r.Gates.length ru1, .slice ra2 r.Outs.length ru2] ∧ Ent κ w κ' w' ∧ Oc (Ep.int .i64) 2 κ' w' 4 ra0 ru0 r.Next ∧ Rd Gate.rp κ' w' 0 ra1 ru1 r.Gates ∧ Oc (Ep.int .i64) 2 κ' w' 6 ra2 ru2 r.Outs) := by
 unfold s_l31Ends at h
 refine Ret.enter Try.func118 rfl Try.ntmps118 rfl ?_
 dsimp only [envOf]
 have hE := Ent.refl κ w
 refine WC.seq ?_
 refine WC.rs [(0, 1), (1, 1), (2, 1)] rfl ?_
 refine WO.box (κ := κ) 4 rfl rfl rfl rfl rfl rfl rfl fun b3 w1 K2 S3 f4 => ⟨trivial, ?_⟩
 refine WO.box (κ := K2) 5 rfl rfl rfl rfl rfl rfl rfl fun b4 w5 K6 S7 f8 => ⟨trivial, ?_⟩
 refine WO.alloc (κ := K6) 6 rfl rfl rfl rfl rfl Try.zeroValue57 rfl fun b6 w9 K10 S11 f12 => ⟨trivial, ?_⟩
 refine WO.fin ?_
 refine DN.seq ?_
 refine WC.seq ?_
 refine WC.seq ?_
 refine WC.rs [(0, 2)] rfl ?_
 refine WO.pn 1 rfl ?_
 refine WO.fin ?_
 refine DN.seq ?_
 have hN13 : (p0.Next.length : Int) ≤ 9223372036854775807 := g0_2.len_le
 obtain ⟨q2, hq15, hK14⟩ := Option.bind_eq_some_iff.mp h
 clear h
 refine WC.meet (fun L w' => ∃ (κ' : Col) (s3 : (List Int)) (las3_0 : Option Addr) (lus3_0 : Nat), L = [(2, .slice a2 p2.length u2), (3, .pointer (some ⟨b3, 0, none⟩)), (4, .pointer (some ⟨b4, 0, none⟩)), (6, .pointer (some ⟨b6, 0, none⟩))] ∧ Stp [2, 5] K10 w9 κ' w' ∧ Oc (Ep.int .i64) 2 κ' w' 2 las3_0 lus3_0 s3 ∧ Bc κ' w' 5 b4 57 [.int .i64 p1.Inputs, .int .i64 p1.Latches, .slice las3_0 s3.length lus3_0, .slice a1_3 p1.Gates.length u1_3, .slice a1_4 p1.Outs.length u1_4] ∧ q2 = Sum.inr s3) ?_ ?_
 ·
  refine WC.block ?_
  have f26 := g1_2.stp (S3.tr (S7.tr S11)) rfl rfl
  have f27 := f8.stp S11 rfl rfl
  refine WC.loop (fun k L w' => ∃ (κ' : Col) (v7 : Int) (s1 : (List Int)) (las1_0 : Option Addr) (lus1_0 : Nat), L = [(2, .slice a2 p2.length u2), (3, .pointer (some ⟨b3, 0, none⟩)), (4, .pointer (some ⟨b4, 0, none⟩)), (6, .pointer (some ⟨b6, 0, none⟩)), (7, .int .i64 v7)] ∧ Stp [2, 5] K10 w9 κ' w' ∧ Oc (Ep.int .i64) 2 κ' w' 2 las1_0 lus1_0 s1 ∧ Bc κ' w' 5 b4 57 [.int .i64 p1.Inputs, .int .i64 p1.Latches, .slice las1_0 s1.length lus1_0, .slice a1_3 p1.Gates.length u1_3, .slice a1_4 p1.Outs.length u1_4] ∧ 0 ≤ v7 ∧ Int.toNat ((p0.Next.length : Int) - v7) = k ∧ cntM (s_l31Ends_b0 p0 p2) k v7 s1 = some q2) ⟨_, _, ⟨K10, 0, (p1.Next : (List Int)), a1_2, u1_2, rfl, (Stp.refl _ _).wk rfl, f26, f27, (by decide), (by simp), hq15⟩, fun a ha => (ha.more (ha.more (ha.more (ha.more (ha.more ha.nil rfl) rfl) rfl) rfl) rfl)⟩ ?_
  rintro k _ w21 ⟨K22, v7, s1, las1_0, lus1_0, rfl, S23, f24, f25, hj13, hJ13, h⟩
  rcases k with _ | k
  ·
   have hk28 := h; obtain ⟨o13, h⟩ := ex_eq (Sum.inr (Sum.inl s1) : Circuit ⊕ (((List Int)) ⊕ ((List Int))))
   have hc13 : decide (v7 < (p0.Next.length : Int)) = false := decide_eq_false (by omega)
   refine WC.seq ?_
   refine WC.seq ?_
   refine WC.rs [(0, 2), (1, 2), (2, 1), (3, 2), (4, 2)] rfl ?_
   refine WO.pn 1 rfl ?_
   refine WO.k2 rfl rfl rfl rfl (rn_fieldAddr Try.runUnderlying57 rfl Try.sizeOf22 rfl rfl) ?_
   have f29 := f4.stp (S7.tr (S11.tr S23)) rfl rfl
   refine WO.k1 trivial rfl rfl rfl rfl (rn_ld Try.isAgg22 rfl rfl (hvE (f29.ld 2 rfl rfl))) ?_
   refine WO.k2 rfl rfl rfl rfl (rn_len Try.runUnderlying22 rfl rfl) ?_
   refine WO.pn 1 rfl ?_
   refine WO.fin ?_
   refine DN.seq ?_
   refine WC.cf' rfl hc13 ?_
   refine WC.exit ?_
   refine DN.exitThen ?_
   refine DN.exitThen ?_
   obtain rfl := Option.some.inj h
   have h := hk28
   refine DN.hit ?_
   obtain rfl := Option.some.inj h
   exact DN.meet _ ⟨K22, (s1 : (List Int)), las1_0, lus1_0, rfl, S23.wk rfl, f24, f25, rfl⟩ fun a ha => (ha.more (ha.more (ha.more (ha.more ha.nil rfl) rfl) rfl) rfl)
  ·
   obtain ⟨o13, h, hk28⟩ := Option.bind_eq_some_iff.mp h; unfold s_l31Ends_b0 at h
   have hc13 : decide (v7 < (p0.Next.length : Int)) = true := decide_eq_true (by omega)
   refine WC.seq ?_
   refine WC.seq ?_
   refine WC.rs [(0, 2), (1, 2), (2, 1), (3, 2), (4, 2)] rfl ?_
   refine WO.pn 1 rfl ?_
   refine WO.k2 rfl rfl rfl rfl (rn_fieldAddr Try.runUnderlying57 rfl Try.sizeOf22 rfl rfl) ?_
   have f30 := f4.stp (S7.tr (S11.tr S23)) rfl rfl
   refine WO.k1 trivial rfl rfl rfl rfl (rn_ld Try.isAgg22 rfl rfl (hvE (f30.ld 2 rfl rfl))) ?_
   refine WO.k2 rfl rfl rfl rfl (rn_len Try.runUnderlying22 rfl rfl) ?_
   refine WO.pn 1 rfl ?_
   refine WO.fin ?_
   refine DN.seq ?_
   refine WC.ct' rfl hc13 ?_
   refine WC.skip ?_
   refine DN.seq ?_
   refine WC.seq ?_
   refine WC.block ?_
   refine WC.rx (κ := K22) [0, 4, 5] (some 12) [(0, 2), (2, 2), (3, 2), (5, 2), (1, 0), (4, 0), (6, 2), (7, 0), (8, 1), (9, 1), (10, 1), (11, 2)] [(12, 1)] (by kernel_rfl) (by kernel_rfl) fun w32 S31 => ?_
   refine WO.k2 rfl rfl rfl rfl (rn_fieldAddr Try.runUnderlying57 rfl Try.sizeOf22 rfl rfl) ?_
   refine WO.pn 1 rfl ?_
   refine WO.k2 rfl rfl rfl rfl (rn_fieldAddr Try.runUnderlying57 rfl Try.sizeOf22 rfl rfl) ?_
   refine WO.pn 1 rfl ?_
   have f33 := f25.stp S31 rfl rfl
   refine WO.k0 rfl rfl rfl rfl (rn_ld Try.isAgg22 rfl rfl (hvC (f33.ld 2 rfl rfl) rfl)) ?_
   have f34 := f30.stp S31 rfl rfl
   refine WO.k0 rfl rfl rfl rfl (rn_ld Try.isAgg22 rfl rfl (hvC (f34.ld 2 rfl rfl) rfl)) ?_
   obtain ⟨x22, hx22, h⟩ := Option.bind_eq_some_iff.mp h
   refine WO.k2 rfl rfl rfl rfl (rn_index g0_2 hx22 Try.runUnderlying22 Try.sizeOf2 rfl rfl rfl rfl) ?_
   have f35 := g0_2.stp (S3.tr (S7.tr (S11.tr (S23.tr S31)))) rfl rfl
   refine WO.k0 rfl rfl rfl rfl (rn_ld Try.isAgg2 rfl rfl (hvC (f35.gInt hx22) rfl)) ?_
   obtain ⟨x24, hx24, h⟩ := Option.bind_eq_some_iff.mp h
   have f36 := g2.stp (S3.tr (S7.tr (S11.tr (S23.tr S31)))) rfl rfl
   refine WO.call rfl rfl rfl rfl rfl rfl Try.call117 (s_l31Became_ok (κ := fun b => mp [] 0 (K22 b)) (Sl.map f36 (mp [] 0) rfl rfl) hx24) ?_
   rintro _ w37 ⟨k38, rfl, e39⟩
   obtain ⟨K40, S41, m42⟩ := Ent.mixed (l := []) (κ := K22) e39 7 rfl
   refine ⟨(S41.cl rfl), ?_⟩
   refine WO.bl (κ := K40) (E := (Ep.int .i64)) 9 [] (parts := [(0, .tmp 24)]) (cells := [.int .i64 x24]) (xs := ([x24] : List Int)) rfl rfl rfl rfl rfl rfl Try.underlying22 Tryinfo2 rfl rfl rfl rfl rfl rfl rfl rfl rfl rfl ⟨[.int .i64 x24], [], Zl K40 w37 [], Zl K40 w37 [], rfl, Zl.sp (l1 := []) (l2 := []) rfl, Zl.sr (l1 := []) (l2 := []), rfl, rfl⟩ fun a25 u25 w44 K45 S46 f47 => ⟨((S41.tr S46).cl rfl), ?_⟩
   obtain ⟨x26, hx26, h⟩ := Option.bind_eq_some_iff.mp h
   have f48 := f24.stp (S31.tr (S41.tr S46)) rfl rfl
   refine WO.app (κ := K45) (E := (Ep.int .i64)) 2 [] rfl rfl rfl rfl rfl rfl rfl rfl rfl Try.underlying22 Tryinfo2 rfl rfl rfl rfl f48 (Sl.srcP (pu_int _) f47.rdc) sy_false hx26 rfl fun a26 u26 w49 K50 S51 f52 => ⟨((S41.tr (S46.tr S51)).cl rfl), ?_⟩
   refine WO.k2 rfl rfl rfl rfl (rn_fieldAddr Try.runUnderlying57 rfl Try.sizeOf22 rfl rfl) ?_
   refine WO.nx ?_
   have f53 := f33.stp (S41.tr (S46.tr S51)) rfl rfl
   refine WO.stB (κ := K50) 5 (off := 2) (vc := [.slice a26 x26.length u26]) (cs' := [.int .i64 p1.Inputs, .int .i64 p1.Latches, .slice a26 x26.length u26, .slice a1_3 p1.Gates.length u1_3, .slice a1_4 p1.Outs.length u1_4]) rfl rfl rfl rfl rfl rfl rfl Try.sizeOf22 rfl rfl f53 rfl rfl fun w54 S55 f56 => ⟨trivial, ?_⟩
   refine WO.fin ?_
   refine DN.block ?_
   refine DN.seq ?_
   refine WC.rs [(0, 2), (1, 2), (2, 2)] rfl ?_
   refine WO.pn 3 rfl ?_
   refine WO.fin ?_
   have hw13 : IntKind.wrap .i64 (v7 + 1) = v7 + 1 := wr1 hj13 (of_decide_eq_true hc13) hN13
   rw [hw13]
   have hc13 := of_decide_eq_true hc13
   have f57 := f52.stp S55 rfl rfl
   obtain rfl := Option.some.inj h
   refine DN.round fun a ha => ?_
   exact ⟨k, _, Nat.lt_succ_self _, ⟨K50, v7 + 1, (x26 : (List Int)), a26, u26, rfl, (S23.tr (S31.tr (S41.tr (S46.tr (S51.tr S55))))).wk rfl, f57, f56, by omega, by omega, hk28⟩, (ha.more (ha.more (ha.more (ha.more (ha.more ha.nil rfl) rfl) rfl) rfl) rfl)⟩
 rintro _ w16 ⟨K17, s3, las3_0, lus3_0, rfl, S18, f19, f20, rfl⟩
 have h := hK14
 dsimp only [aft] at h
 refine DN.seq ?_
 refine WC.seq ?_
 refine WC.seq ?_
 refine WC.rs [(0, 2)] rfl ?_
 refine WO.pn 1 rfl ?_
 refine WO.fin ?_
 refine DN.seq ?_
 have hN58 : (p0.Outs.length : Int) ≤ 9223372036854775807 := g0_4.len_le
 obtain ⟨q5, hq60, hK59⟩ := Option.bind_eq_some_iff.mp h
 clear h
 refine WC.meet (fun L w' => ∃ (κ' : Col) (s6 : (List Int)) (las6_0 : Option Addr) (lus6_0 : Nat), L = [(4, .pointer (some ⟨b4, 0, none⟩)), (6, .pointer (some ⟨b6, 0, none⟩))] ∧ Stp [3, 5] K17 w16 κ' w' ∧ Oc (Ep.int .i64) 2 κ' w' 3 las6_0 lus6_0 s6 ∧ Bc κ' w' 5 b4 57 [.int .i64 p1.Inputs, .int .i64 p1.Latches, .slice las3_0 s3.length lus3_0, .slice a1_3 p1.Gates.length u1_3, .slice las6_0 s6.length lus6_0] ∧ q5 = Sum.inr s6) ?_ ?_
 ·
  refine WC.block ?_
  have f71 := g1_4.stp (S3.tr (S7.tr (S11.tr S18))) rfl rfl
  refine WC.loop (fun k L w' => ∃ (κ' : Col) (v8 : Int) (s4 : (List Int)) (las4_0 : Option Addr) (lus4_0 : Nat), L = [(2, .slice a2 p2.length u2), (3, .pointer (some ⟨b3, 0, none⟩)), (4, .pointer (some ⟨b4, 0, none⟩)), (6, .pointer (some ⟨b6, 0, none⟩)), (8, .int .i64 v8)] ∧ Stp [3, 5] K17 w16 κ' w' ∧ Oc (Ep.int .i64) 2 κ' w' 3 las4_0 lus4_0 s4 ∧ Bc κ' w' 5 b4 57 [.int .i64 p1.Inputs, .int .i64 p1.Latches, .slice las3_0 s3.length lus3_0, .slice a1_3 p1.Gates.length u1_3, .slice las4_0 s4.length lus4_0] ∧ 0 ≤ v8 ∧ Int.toNat ((p0.Outs.length : Int) - v8) = k ∧ cntM (s_l31Ends_b2 p0 p2) k v8 s4 = some q5) ⟨_, _, ⟨K17, 0, (p1.Outs : (List Int)), a1_4, u1_4, rfl, (Stp.refl _ _).wk rfl, f71, f20, (by decide), (by simp), hq60⟩, fun a ha => (ha.more (ha.more (ha.more (ha.more (ha.more ha.nil rfl) rfl) rfl) rfl) rfl)⟩ ?_
  rintro k _ w66 ⟨K67, v8, s4, las4_0, lus4_0, rfl, S68, f69, f70, hj58, hJ58, h⟩
  rcases k with _ | k
  ·
   have hk72 := h; obtain ⟨o58, h⟩ := ex_eq (Sum.inr (Sum.inl s4) : Circuit ⊕ (((List Int)) ⊕ ((List Int))))
   have hc58 : decide (v8 < (p0.Outs.length : Int)) = false := decide_eq_false (by omega)
   refine WC.seq ?_
   refine WC.seq ?_
   refine WC.rs [(0, 2), (1, 2), (2, 1), (3, 2), (4, 2)] rfl ?_
   refine WO.pn 1 rfl ?_
   refine WO.k2 rfl rfl rfl rfl (rn_fieldAddr Try.runUnderlying57 rfl Try.sizeOf22 rfl rfl) ?_
   have f73 := f4.stp (S7.tr (S11.tr (S18.tr S68))) rfl rfl
   refine WO.k1 trivial rfl rfl rfl rfl (rn_ld Try.isAgg22 rfl rfl (hvE (f73.ld 4 rfl rfl))) ?_
   refine WO.k2 rfl rfl rfl rfl (rn_len Try.runUnderlying22 rfl rfl) ?_
   refine WO.pn 1 rfl ?_
   refine WO.fin ?_
   refine DN.seq ?_
   refine WC.cf' rfl hc58 ?_
   refine WC.exit ?_
   refine DN.exitThen ?_
   refine DN.exitThen ?_
   obtain rfl := Option.some.inj h
   have h := hk72
   refine DN.hit ?_
   obtain rfl := Option.some.inj h
   exact DN.meet _ ⟨K67, (s4 : (List Int)), las4_0, lus4_0, rfl, S68.wk rfl, f69, f70, rfl⟩ fun a ha => (ha.more (ha.more ha.nil rfl) rfl)
  ·
   obtain ⟨o58, h, hk72⟩ := Option.bind_eq_some_iff.mp h; unfold s_l31Ends_b2 at h
   have hc58 : decide (v8 < (p0.Outs.length : Int)) = true := decide_eq_true (by omega)
   refine WC.seq ?_
   refine WC.seq ?_
   refine WC.rs [(0, 2), (1, 2), (2, 1), (3, 2), (4, 2)] rfl ?_
   refine WO.pn 1 rfl ?_
   refine WO.k2 rfl rfl rfl rfl (rn_fieldAddr Try.runUnderlying57 rfl Try.sizeOf22 rfl rfl) ?_
   have f74 := f4.stp (S7.tr (S11.tr (S18.tr S68))) rfl rfl
   refine WO.k1 trivial rfl rfl rfl rfl (rn_ld Try.isAgg22 rfl rfl (hvE (f74.ld 4 rfl rfl))) ?_
   refine WO.k2 rfl rfl rfl rfl (rn_len Try.runUnderlying22 rfl rfl) ?_
   refine WO.pn 1 rfl ?_
   refine WO.fin ?_
   refine DN.seq ?_
   refine WC.ct' rfl hc58 ?_
   refine WC.skip ?_
   refine DN.seq ?_
   refine WC.seq ?_
   refine WC.block ?_
   refine WC.rx (κ := K67) [0, 4, 5] (some 12) [(0, 2), (2, 2), (3, 2), (5, 2), (1, 0), (4, 0), (6, 2), (7, 0), (8, 1), (9, 1), (10, 1), (11, 2)] [(12, 1)] (by kernel_rfl) (by kernel_rfl) fun w76 S75 => ?_
   refine WO.k2 rfl rfl rfl rfl (rn_fieldAddr Try.runUnderlying57 rfl Try.sizeOf22 rfl rfl) ?_
   refine WO.pn 1 rfl ?_
   refine WO.k2 rfl rfl rfl rfl (rn_fieldAddr Try.runUnderlying57 rfl Try.sizeOf22 rfl rfl) ?_
   refine WO.pn 1 rfl ?_
   have f77 := f70.stp S75 rfl rfl
   refine WO.k0 rfl rfl rfl rfl (rn_ld Try.isAgg22 rfl rfl (hvC (f77.ld 4 rfl rfl) rfl)) ?_
   have f78 := f74.stp S75 rfl rfl
   refine WO.k0 rfl rfl rfl rfl (rn_ld Try.isAgg22 rfl rfl (hvC (f78.ld 4 rfl rfl) rfl)) ?_
   obtain ⟨x41, hx41, h⟩ := Option.bind_eq_some_iff.mp h
   refine WO.k2 rfl rfl rfl rfl (rn_index g0_4 hx41 Try.runUnderlying22 Try.sizeOf2 rfl rfl rfl rfl) ?_
   have f79 := g0_4.stp (S3.tr (S7.tr (S11.tr (S18.tr (S68.tr S75))))) rfl rfl
   refine WO.k0 rfl rfl rfl rfl (rn_ld Try.isAgg2 rfl rfl (hvC (f79.gInt hx41) rfl)) ?_
   obtain ⟨x43, hx43, h⟩ := Option.bind_eq_some_iff.mp h
   have f80 := g2.stp (S3.tr (S7.tr (S11.tr (S18.tr (S68.tr S75))))) rfl rfl
   refine WO.call rfl rfl rfl rfl rfl rfl Try.call117 (s_l31Became_ok (κ := fun b => mp [] 0 (K67 b)) (Sl.map f80 (mp [] 0) rfl rfl) hx43) ?_
   rintro _ w81 ⟨k82, rfl, e83⟩
   obtain ⟨K84, S85, m86⟩ := Ent.mixed (l := []) (κ := K67) e83 7 rfl
   refine ⟨(S85.cl rfl), ?_⟩
   refine WO.bl (κ := K84) (E := (Ep.int .i64)) 9 [] (parts := [(0, .tmp 43)]) (cells := [.int .i64 x43]) (xs := ([x43] : List Int)) rfl rfl rfl rfl rfl rfl Try.underlying22 Tryinfo2 rfl rfl rfl rfl rfl rfl rfl rfl rfl rfl ⟨[.int .i64 x43], [], Zl K84 w81 [], Zl K84 w81 [], rfl, Zl.sp (l1 := []) (l2 := []) rfl, Zl.sr (l1 := []) (l2 := []), rfl, rfl⟩ fun a44 u44 w88 K89 S90 f91 => ⟨((S85.tr S90).cl rfl), ?_⟩
   obtain ⟨x45, hx45, h⟩ := Option.bind_eq_some_iff.mp h
   have f92 := f69.stp (S75.tr (S85.tr S90)) rfl rfl
   refine WO.app (κ := K89) (E := (Ep.int .i64)) 3 [] rfl rfl rfl rfl rfl rfl rfl rfl rfl Try.underlying22 Tryinfo2 rfl rfl rfl rfl f92 (Sl.srcP (pu_int _) f91.rdc) sy_false hx45 rfl fun a45 u45 w93 K94 S95 f96 => ⟨((S85.tr (S90.tr S95)).cl rfl), ?_⟩
   refine WO.k2 rfl rfl rfl rfl (rn_fieldAddr Try.runUnderlying57 rfl Try.sizeOf22 rfl rfl) ?_
   refine WO.nx ?_
   have f97 := f77.stp (S85.tr (S90.tr S95)) rfl rfl
   refine WO.stB (κ := K94) 5 (off := 4) (vc := [.slice a45 x45.length u45]) (cs' := [.int .i64 p1.Inputs, .int .i64 p1.Latches, .slice las3_0 s3.length lus3_0, .slice a1_3 p1.Gates.length u1_3, .slice a45 x45.length u45]) rfl rfl rfl rfl rfl rfl rfl Try.sizeOf22 rfl rfl f97 rfl rfl fun w98 S99 f100 => ⟨trivial, ?_⟩
   refine WO.fin ?_
   refine DN.block ?_
   refine DN.seq ?_
   refine WC.rs [(0, 2), (1, 2), (2, 2)] rfl ?_
   refine WO.pn 3 rfl ?_
   refine WO.fin ?_
   have hw58 : IntKind.wrap .i64 (v8 + 1) = v8 + 1 := wr1 hj58 (of_decide_eq_true hc58) hN58
   rw [hw58]
   have hc58 := of_decide_eq_true hc58
   have f101 := f96.stp S99 rfl rfl
   obtain rfl := Option.some.inj h
   refine DN.round fun a ha => ?_
   exact ⟨k, _, Nat.lt_succ_self _, ⟨K94, v8 + 1, (x45 : (List Int)), a45, u45, rfl, (S68.tr (S75.tr (S85.tr (S90.tr (S95.tr S99))))).wk rfl, f101, f100, by omega, by omega, hk72⟩, (ha.more (ha.more (ha.more (ha.more (ha.more ha.nil rfl) rfl) rfl) rfl) rfl)⟩
 rintro _ w61 ⟨K62, s6, las6_0, lus6_0, rfl, S63, f64, f65, rfl⟩
 have h := hK59
 dsimp only [aft] at h
 refine DN.seq ?_
 refine WC.seq ?_
 refine WC.rs [(0, 1), (1, 1)] rfl ?_
 refine WO.k1 trivial rfl rfl rfl rfl (rn_la (cs := [.int .i64 p1.Inputs, .int .i64 p1.Latches, .slice las3_0 s3.length lus3_0, .slice a1_3 p1.Gates.length u1_3, .slice las6_0 s6.length lus6_0]) Try.isAgg57 Try.sizeOf57 rfl rfl rfl (haE f65.cells)) ?_
 have f102 := f12.stp (S18.tr S63) rfl rfl
 refine WO.stB0 (κ := K62) 6 (vc := [.int .i64 p1.Inputs, .int .i64 p1.Latches, .slice las3_0 s3.length lus3_0, .slice a1_3 p1.Gates.length u1_3, .slice las6_0 s6.length lus6_0]) rfl rfl rfl rfl rfl rfl rfl Try.sizeOf57 rfl rfl f102 rfl fun w103 S104 f105 => ⟨trivial, ?_⟩
 refine WO.fin ?_
 refine DN.seq ?_
 refine WC.ret ?_
 have f106 := hE.stp (S3.tr (S7.tr (S11.tr (S18.tr (S63.tr S104))))) rfl rfl
 have f107 := f19.stp (S63.tr S104) rfl rfl
 have f108 := g1_3.stp (S3.tr (S7.tr (S11.tr (S18.tr (S63.tr S104))))) rfl rfl
 have f109 := f64.stp S104 rfl rfl
 refine DN.res (l := [.cell 6 57]) Try.results118 (res_cellA rfl f105 Try.isAgg57 Try.sizeOf57 rfl rfl) rfl ?_
 obtain rfl := Option.some.inj h
 exact ⟨(fun b => ren [(2, 4), (3, 6)] (K62 b)), las3_0, lus3_0, a1_3, u1_3, las6_0, lus6_0, rfl, (f106.map (ren [(2, 4), (3, 6)]) rfl rfl), (f107.map (ren [(2, 4), (3, 6)]) rfl rfl), (f108.map (ren [(2, 4), (3, 6)]) rfl rfl), (f109.map (ren [(2, 4), (3, 6)]) rfl rfl)⟩

/- loop.example/g00869/spec.l31Step -/
theorem s_l31Step_ok {w : World} {κ : Col} {a0_2 : Option Addr} {u0_2 : Nat} {a0_3 : Option Addr} {u0_3 : Nat} {a0_4 : Option Addr} {u0_4 : Nat} {p0 : Circuit} {p1 : Int} {p2 : Int} (g0_2 : Rd (Rp.int .i64) κ w 0 a0_2 u0_2 p0.Next) (g0_3 : Rd Gate.rp κ w 0 a0_3 u0_3 p0.Gates) (g0_4 : Rd (Rp.int .i64) κ w 0 a0_4 u0_4 p0.Outs) {r : Int × Int} (h : s_l31Step p0 p1 p2 = some r) : Ret Try.prog 102 [.agg #[.int .i64 p0.Inputs, .int .i64 p0.Latches, .slice a0_2 p0.Next.length u0_2, .slice a0_3 p0.Gates.length u0_3, .slice a0_4 p0.Outs.length u0_4], .int .i64 p1, .int .i64 p2] w (fun v w' => ∃ (κ' : Col), v = .tuple #[.int .i64 r.1, .int .i64 r.2] ∧ Ent κ w κ' w') := by
 unfold s_l31Step at h
 refine Ret.enter Try.func102 rfl Try.ntmps102 rfl ?_
 dsimp only [envOf]
 have hE := Ent.refl κ w
 refine WC.seq ?_
 refine WC.rs [(0, 1), (1, 2), (2, 2)] rfl ?_
 refine WO.box (κ := κ) 2 rfl rfl rfl rfl rfl rfl rfl fun b3 w1 K2 S3 f4 => ⟨trivial, ?_⟩
 refine WO.pn 2 rfl ?_
 refine WO.fin ?_
 refine DN.seq ?_
 refine WC.seq ?_
 refine WC.rs [(0, 1), (1, 2)] rfl ?_
 refine WO.bl (κ := K2) (E := Ep.bool) 3 [] (parts := [(0, .const (.bool false))]) (cells := [.bool false]) (xs := ([false] : List Bool)) rfl rfl rfl rfl rfl rfl Try.underlying131 Tryinfo4 rfl rfl rfl rfl rfl rfl rfl rfl rfl rfl ⟨[.bool false], [], Zl K2 w1 [], Zl K2 w1 [], rfl, Zl.sp (l1 := []) (l2 := []) rfl, Zl.sr (l1 := []) (l2 := []), rfl, rfl⟩ fun a12 u12 w5 K6 S7 f8 => ⟨trivial, ?_⟩
 refine WO.pn 1 rfl ?_
 refine WO.fin ?_
 refine DN.seq ?_
 refine WC.seq ?_
 refine WC.seq ?_
 refine WC.rs [(0, 2)] rfl ?_
 refine WO.pn 1 rfl ?_
 refine WO.fin ?_
 refine DN.seq ?_
 obtain ⟨_, hr9, h⟩ := Option.bind_eq_some_iff.mp h
 have hN9 := rng_ok hr9
 obtain ⟨q2, hq11, hK10⟩ := Option.bind_eq_some_iff.mp h
 clear h
 refine WC.meet (fun L w' => ∃ (κ' : Col) (s3 : (List Bool)) (las3_0 : Option Addr) (lus3_0 : Nat), L = [(1, .int .i64 p1), (3, .pointer (some ⟨b3, 0, none⟩)), (8, .slice las3_0 s3.length lus3_0)] ∧ Stp [3] K6 w5 κ' w' ∧ Oc Ep.bool 4 κ' w' 3 las3_0 lus3_0 s3 ∧ q2 = Sum.inr s3) ?_ ?_
 ·
  refine WC.block ?_
  refine WC.loop (fun k L w' => ∃ (κ' : Col) (v9 : Int) (s1 : (List Bool)) (las1_0 : Option Addr) (lus1_0 : Nat), L = [(1, .int .i64 p1), (2, .int .i64 p2), (3, .pointer (some ⟨b3, 0, none⟩)), (8, .slice las1_0 s1.length lus1_0), (9, .int .i64 v9)] ∧ Stp [3] K6 w5 κ' w' ∧ Oc Ep.bool 4 κ' w' 3 las1_0 lus1_0 s1 ∧ 0 ≤ v9 ∧ Int.toNat (p0.Inputs - v9) = k ∧ cntM (s_l31Step_b0 p2) k v9 s1 = some q2) ⟨_, _, ⟨K6, 0, (([false] : List Bool) : (List Bool)), a12, u12, rfl, (Stp.refl _ _).wk rfl, f8, (by decide), (by simp), hq11⟩, fun a ha => (ha.more (ha.more (ha.more (ha.more (ha.more ha.nil rfl) rfl) rfl) rfl) rfl)⟩ ?_
  rintro k _ w16 ⟨K17, v9, s1, las1_0, lus1_0, rfl, S18, f19, hj9, hJ9, h⟩
  rcases k with _ | k
  ·
   have hk20 := h; obtain ⟨o9, h⟩ := ex_eq (Sum.inr (Sum.inl s1) : (Int × Int) ⊕ (((List Bool)) ⊕ ((List Bool))))
   have hc9 : decide (v9 < p0.Inputs) = false := decide_eq_false (by omega)
   refine WC.seq ?_
   refine WC.seq ?_
   refine WC.rs [(0, 2), (1, 2), (2, 1), (3, 2)] rfl ?_
   refine WO.pn 1 rfl ?_
   refine WO.k2 rfl rfl rfl rfl (rn_fieldAddr Try.runUnderlying57 rfl Try.sizeOf2 rfl rfl) ?_
   have f21 := f4.stp (S7.tr S18) rfl rfl
   refine WO.k1 trivial rfl rfl rfl rfl (rn_ld Try.isAgg2 rfl rfl (hvE (f21.ld 0 rfl rfl))) ?_
   refine WO.pn 1 rfl ?_
   refine WO.fin ?_
   refine DN.seq ?_
   refine WC.cf' rfl hc9 ?_
   refine WC.exit ?_
   refine DN.exitThen ?_
   refine DN.exitThen ?_
   obtain rfl := Option.some.inj h
   have h := hk20
   refine DN.hit ?_
   obtain rfl := Option.some.inj h
   exact DN.meet _ ⟨K17, (s1 : (List Bool)), las1_0, lus1_0, rfl, S18.wk rfl, f19, rfl⟩ fun a ha => (ha.more (ha.more (ha.more ha.nil rfl) rfl) rfl)
  ·
   obtain ⟨o9, h, hk20⟩ := Option.bind_eq_some_iff.mp h; unfold s_l31Step_b0 at h
   have hc9 : decide (v9 < p0.Inputs) = true := decide_eq_true (by omega)
   refine WC.seq ?_
   refine WC.seq ?_
   refine WC.rs [(0, 2), (1, 2), (2, 1), (3, 2)] rfl ?_
   refine WO.pn 1 rfl ?_
   refine WO.k2 rfl rfl rfl rfl (rn_fieldAddr Try.runUnderlying57 rfl Try.sizeOf2 rfl rfl) ?_
   have f22 := f4.stp (S7.tr S18) rfl rfl
   refine WO.k1 trivial rfl rfl rfl rfl (rn_ld Try.isAgg2 rfl rfl (hvE (f22.ld 0 rfl rfl))) ?_
   refine WO.pn 1 rfl ?_
   refine WO.fin ?_
   refine DN.seq ?_
   refine WC.ct' rfl hc9 ?_
   refine WC.skip ?_
   refine DN.seq ?_
   refine WC.seq ?_
   refine WC.block ?_
   refine WC.rs [(0, 2), (1, 2), (2, 2), (3, 1), (4, 2), (5, 2), (6, 2), (7, 1), (8, 1), (9, 2)] rfl ?_
   refine WO.pn 3 rfl ?_
   obtain ⟨x22, hx22, h⟩ := Option.bind_eq_some_iff.mp h
   refine WO.call rfl rfl rfl rfl rfl rfl Try.call101 (s_l31Pow_ok (κ := fun b => mp [] 0 (K17 b)) hx22) ?_
   rintro _ w23 ⟨k24, rfl, e25⟩
   obtain ⟨K26, S27, m28⟩ := Ent.mixed (l := []) (κ := K17) e25 4 rfl
   refine ⟨trivial, ?_⟩
   obtain ⟨_z23, hz23, h⟩ := Option.bind_eq_some_iff.mp h
   refine WO.k2 rfl rfl rfl rfl (rn_quo rfl rfl rfl (nz_ok hz23)) ?_
   refine WO.k2 rfl rfl rfl rfl (rn_rem rfl rfl rfl (by decide)) ?_
   refine WO.pn 1 rfl ?_
   refine WO.bl (κ := K26) (E := Ep.bool) 6 [] (parts := [(0, .tmp 25)]) (cells := [.bool ((Int.tmod (IntKind.i64.wrap (Int.tdiv p2 x22)) 2) == 1)]) (xs := ([((Int.tmod (IntKind.i64.wrap (Int.tdiv p2 x22)) 2) == 1)] : List Bool)) rfl rfl rfl rfl rfl rfl Try.underlying131 Tryinfo4 rfl rfl rfl rfl rfl rfl rfl rfl rfl rfl ⟨[.bool ((Int.tmod (IntKind.i64.wrap (Int.tdiv p2 x22)) 2) == 1)], [], Zl K26 w23 [], Zl K26 w23 [], rfl, Zl.sp (l1 := []) (l2 := []) rfl, Zl.sr (l1 := []) (l2 := []), rfl, rfl⟩ fun a26 u26 w30 K31 S32 f33 => ⟨trivial, ?_⟩
   obtain ⟨x27, hx27, h⟩ := Option.bind_eq_some_iff.mp h
   have f34 := f19.stp (S27.tr S32) rfl rfl
   refine WO.app (κ := K31) (E := Ep.bool) 3 [] rfl rfl rfl rfl rfl rfl rfl rfl rfl Try.underlying131 Tryinfo4 rfl rfl rfl rfl f34 (Sl.srcP pu_bool f33.rdc) sy_false hx27 rfl fun a27 u27 w35 K36 S37 f38 => ⟨trivial, ?_⟩
   refine WO.pn 1 rfl ?_
   refine WO.fin ?_
   refine DN.block ?_
   refine DN.seq ?_
   refine WC.rs [(0, 2), (1, 2), (2, 2)] rfl ?_
   refine WO.pn 3 rfl ?_
   refine WO.fin ?_
   have hw9 : IntKind.wrap .i64 (v9 + 1) = v9 + 1 := wr1 hj9 (of_decide_eq_true hc9) hN9
   rw [hw9]
   have hc9 := of_decide_eq_true hc9
   obtain rfl := Option.some.inj h
   refine DN.round fun a ha => ?_
   exact ⟨k, _, Nat.lt_succ_self _, ⟨K36, v9 + 1, (x27 : (List Bool)), a27, u27, rfl, (S18.tr (S27.tr (S32.tr S37))).wk rfl, f38, by omega, by omega, hk20⟩, (ha.more (ha.more (ha.more (ha.more (ha.more ha.nil rfl) rfl) rfl) rfl) rfl)⟩
 rintro _ w12 ⟨K13, s3, las3_0, lus3_0, rfl, S14, f15, rfl⟩
 have h := hK10
 dsimp only [aft] at h
 refine DN.seq ?_
 refine WC.seq ?_
 refine WC.seq ?_
 refine WC.rs [(0, 2)] rfl ?_
 refine WO.pn 1 rfl ?_
 refine WO.fin ?_
 refine DN.seq ?_
 obtain ⟨_, hr39, h⟩ := Option.bind_eq_some_iff.mp h
 have hN39 := rng_ok hr39
 obtain ⟨q5, hq41, hK40⟩ := Option.bind_eq_some_iff.mp h
 clear h
 refine WC.meet (fun L w' => ∃ (κ' : Col) (s6 : (List Bool)) (las6_0 : Option Addr) (lus6_0 : Nat), L = [(3, .pointer (some ⟨b3, 0, none⟩)), (8, .slice las6_0 s6.length lus6_0)] ∧ Stp [3] K13 w12 κ' w' ∧ Oc Ep.bool 4 κ' w' 3 las6_0 lus6_0 s6 ∧ q5 = Sum.inr s6) ?_ ?_
 ·
  refine WC.block ?_
  refine WC.loop (fun k L w' => ∃ (κ' : Col) (v10 : Int) (s4 : (List Bool)) (las4_0 : Option Addr) (lus4_0 : Nat), L = [(1, .int .i64 p1), (3, .pointer (some ⟨b3, 0, none⟩)), (8, .slice las4_0 s4.length lus4_0), (10, .int .i64 v10)] ∧ Stp [3] K13 w12 κ' w' ∧ Oc Ep.bool 4 κ' w' 3 las4_0 lus4_0 s4 ∧ 0 ≤ v10 ∧ Int.toNat (p0.Latches - v10) = k ∧ cntM (s_l31Step_b2 p1) k v10 s4 = some q5) ⟨_, _, ⟨K13, 0, (s3 : (List Bool)), las3_0, lus3_0, rfl, (Stp.refl _ _).wk rfl, f15, (by decide), (by simp), hq41⟩, fun a ha => (ha.more (ha.more (ha.more (ha.more ha.nil rfl) rfl) rfl) rfl)⟩ ?_
  rintro k _ w46 ⟨K47, v10, s4, las4_0, lus4_0, rfl, S48, f49, hj39, hJ39, h⟩
  rcases k with _ | k
  ·
   have hk50 := h; obtain ⟨o39, h⟩ := ex_eq (Sum.inr (Sum.inl s4) : (Int × Int) ⊕ (((List Bool)) ⊕ ((List Bool))))
   have hc39 : decide (v10 < p0.Latches) = false := decide_eq_false (by omega)
   refine WC.seq ?_
   refine WC.seq ?_
   refine WC.rs [(0, 2), (1, 2), (2, 1), (3, 2)] rfl ?_
   refine WO.pn 1 rfl ?_
   refine WO.k2 rfl rfl rfl rfl (rn_fieldAddr Try.runUnderlying57 rfl Try.sizeOf2 rfl rfl) ?_
   have f51 := f4.stp (S7.tr (S14.tr S48)) rfl rfl
   refine WO.k1 trivial rfl rfl rfl rfl (rn_ld Try.isAgg2 rfl rfl (hvE (f51.ld 1 rfl rfl))) ?_
   refine WO.pn 1 rfl ?_
   refine WO.fin ?_
   refine DN.seq ?_
   refine WC.cf' rfl hc39 ?_
   refine WC.exit ?_
   refine DN.exitThen ?_
   refine DN.exitThen ?_
   obtain rfl := Option.some.inj h
   have h := hk50
   refine DN.hit ?_
   obtain rfl := Option.some.inj h
   exact DN.meet _ ⟨K47, (s4 : (List Bool)), las4_0, lus4_0, rfl, S48.wk rfl, f49, rfl⟩ fun a ha => (ha.more (ha.more ha.nil rfl) rfl)
  ·
   obtain ⟨o39, h, hk50⟩ := Option.bind_eq_some_iff.mp h; unfold s_l31Step_b2 at h
   have hc39 : decide (v10 < p0.Latches) = true := decide_eq_true (by omega)
   refine WC.seq ?_
   refine WC.seq ?_
   refine WC.rs [(0, 2), (1, 2), (2, 1), (3, 2)] rfl ?_
   refine WO.pn 1 rfl ?_
   refine WO.k2 rfl rfl rfl rfl (rn_fieldAddr Try.runUnderlying57 rfl Try.sizeOf2 rfl rfl) ?_
   have f52 := f4.stp (S7.tr (S14.tr S48)) rfl rfl
   refine WO.k1 trivial rfl rfl rfl rfl (rn_ld Try.isAgg2 rfl rfl (hvE (f52.ld 1 rfl rfl))) ?_
   refine WO.pn 1 rfl ?_
   refine WO.fin ?_
   refine DN.seq ?_
   refine WC.ct' rfl hc39 ?_
   refine WC.skip ?_
   refine DN.seq ?_
   refine WC.seq ?_
   refine WC.block ?_
   refine WC.rs [(0, 2), (1, 2), (2, 2), (3, 1), (4, 2), (5, 2), (6, 2), (7, 1), (8, 1), (9, 2)] rfl ?_
   refine WO.pn 3 rfl ?_
   obtain ⟨x37, hx37, h⟩ := Option.bind_eq_some_iff.mp h
   refine WO.call rfl rfl rfl rfl rfl rfl Try.call101 (s_l31Pow_ok (κ := fun b => mp [] 0 (K47 b)) hx37) ?_
   rintro _ w53 ⟨k54, rfl, e55⟩
   obtain ⟨K56, S57, m58⟩ := Ent.mixed (l := []) (κ := K47) e55 4 rfl
   refine ⟨trivial, ?_⟩
   obtain ⟨_z38, hz38, h⟩ := Option.bind_eq_some_iff.mp h
   refine WO.k2 rfl rfl rfl rfl (rn_quo rfl rfl rfl (nz_ok hz38)) ?_
   refine WO.k2 rfl rfl rfl rfl (rn_rem rfl rfl rfl (by decide)) ?_
   refine WO.pn 1 rfl ?_
   refine WO.bl (κ := K56) (E := Ep.bool) 6 [] (parts := [(0, .tmp 40)]) (cells := [.bool ((Int.tmod (IntKind.i64.wrap (Int.tdiv p1 x37)) 2) == 1)]) (xs := ([((Int.tmod (IntKind.i64.wrap (Int.tdiv p1 x37)) 2) == 1)] : List Bool)) rfl rfl rfl rfl rfl rfl Try.underlying131 Tryinfo4 rfl rfl rfl rfl rfl rfl rfl rfl rfl rfl ⟨[.bool ((Int.tmod (IntKind.i64.wrap (Int.tdiv p1 x37)) 2) == 1)], [], Zl K56 w53 [], Zl K56 w53 [], rfl, Zl.sp (l1 := []) (l2 := []) rfl, Zl.sr (l1 := []) (l2 := []), rfl, rfl⟩ fun a41 u41 w60 K61 S62 f63 => ⟨trivial, ?_⟩
   obtain ⟨x42, hx42, h⟩ := Option.bind_eq_some_iff.mp h
   have f64 := f49.stp (S57.tr S62) rfl rfl
   refine WO.app (κ := K61) (E := Ep.bool) 3 [] rfl rfl rfl rfl rfl rfl rfl rfl rfl Try.underlying131 Tryinfo4 rfl rfl rfl rfl f64 (Sl.srcP pu_bool f63.rdc) sy_false hx42 rfl fun a42 u42 w65 K66 S67 f68 => ⟨trivial, ?_⟩
   refine WO.pn 1 rfl ?_
   refine WO.fin ?_
   refine DN.block ?_
   refine DN.seq ?_
   refine WC.rs [(0, 2), (1, 2), (2, 2)] rfl ?_
   refine WO.pn 3 rfl ?_
   refine WO.fin ?_
   have hw39 : IntKind.wrap .i64 (v10 + 1) = v10 + 1 := wr1 hj39 (of_decide_eq_true hc39) hN39
   rw [hw39]
   have hc39 := of_decide_eq_true hc39
   obtain rfl := Option.some.inj h
   refine DN.round fun a ha => ?_
   exact ⟨k, _, Nat.lt_succ_self _, ⟨K66, v10 + 1, (x42 : (List Bool)), a42, u42, rfl, (S48.tr (S57.tr (S62.tr S67))).wk rfl, f68, by omega, by omega, hk50⟩, (ha.more (ha.more (ha.more (ha.more ha.nil rfl) rfl) rfl) rfl)⟩
 rintro _ w42 ⟨K43, s6, las6_0, lus6_0, rfl, S44, f45, rfl⟩
 have h := hK40
 dsimp only [aft] at h
 refine DN.seq ?_
 refine WC.seq ?_
 refine WC.seq ?_
 refine WC.rs [(0, 2)] rfl ?_
 refine WO.pn 1 rfl ?_
 refine WO.fin ?_
 refine DN.seq ?_
 have hN69 : (p0.Gates.length : Int) ≤ 9223372036854775807 := g0_3.len_le
 obtain ⟨q8, hq71, hK70⟩ := Option.bind_eq_some_iff.mp h
 clear h
 refine WC.meet (fun L w' => ∃ (κ' : Col) (s9 : (List Bool)) (las9_0 : Option Addr) (lus9_0 : Nat), L = [(3, .pointer (some ⟨b3, 0, none⟩)), (8, .slice las9_0 s9.length lus9_0)] ∧ Stp [3] K43 w42 κ' w' ∧ Oc Ep.bool 4 κ' w' 3 las9_0 lus9_0 s9 ∧ q8 = Sum.inr s9) ?_ ?_
 ·
  refine WC.block ?_
  refine WC.loop (fun k L w' => ∃ (κ' : Col) (v11 : Int) (s7 : (List Bool)) (las7_0 : Option Addr) (lus7_0 : Nat), L = [(3, .pointer (some ⟨b3, 0, none⟩)), (8, .slice las7_0 s7.length lus7_0), (11, .int .i64 v11)] ∧ Stp [3] K43 w42 κ' w' ∧ Oc Ep.bool 4 κ' w' 3 las7_0 lus7_0 s7 ∧ 0 ≤ v11 ∧ Int.toNat ((p0.Gates.length : Int) - v11) = k ∧ cntM (s_l31Step_b4 p0) k v11 s7 = some q8) ⟨_, _, ⟨K43, 0, (s6 : (List Bool)), las6_0, lus6_0, rfl, (Stp.refl _ _).wk rfl, f45, (by decide), (by simp), hq71⟩, fun a ha => (ha.more (ha.more (ha.more ha.nil rfl) rfl) rfl)⟩ ?_
  rintro k _ w76 ⟨K77, v11, s7, las7_0, lus7_0, rfl, S78, f79, hj69, hJ69, h⟩
  rcases k with _ | k
  ·
   have hk80 := h; obtain ⟨o69, h⟩ := ex_eq (Sum.inr (Sum.inl s7) : (Int × Int) ⊕ (((List Bool)) ⊕ ((List Bool))))
   have hc69 : decide (v11 < (p0.Gates.length : Int)) = false := decide_eq_false (by omega)
   refine WC.seq ?_
   refine WC.seq ?_
   refine WC.rs [(0, 2), (1, 2), (2, 1), (3, 2), (4, 2)] rfl ?_
   refine WO.pn 1 rfl ?_
   refine WO.k2 rfl rfl rfl rfl (rn_fieldAddr Try.runUnderlying57 rfl Try.sizeOf55 rfl rfl) ?_
   have f81 := f4.stp (S7.tr (S14.tr (S44.tr S78))) rfl rfl
   refine WO.k1 trivial rfl rfl rfl rfl (rn_ld Try.isAgg55 rfl rfl (hvE (f81.ld 3 rfl rfl))) ?_
   refine WO.k2 rfl rfl rfl rfl (rn_len Try.runUnderlying55 rfl rfl) ?_
   refine WO.pn 1 rfl ?_
   refine WO.fin ?_
   refine DN.seq ?_
   refine WC.cf' rfl hc69 ?_
   refine WC.exit ?_
   refine DN.exitThen ?_
   refine DN.exitThen ?_
   obtain rfl := Option.some.inj h
   have h := hk80
   refine DN.hit ?_
   obtain rfl := Option.some.inj h
   exact DN.meet _ ⟨K77, (s7 : (List Bool)), las7_0, lus7_0, rfl, S78.wk rfl, f79, rfl⟩ fun a ha => (ha.more (ha.more ha.nil rfl) rfl)
  ·
   obtain ⟨o69, h, hk80⟩ := Option.bind_eq_some_iff.mp h; unfold s_l31Step_b4 at h
   have hc69 : decide (v11 < (p0.Gates.length : Int)) = true := decide_eq_true (by omega)
   refine WC.seq ?_
   refine WC.seq ?_
   refine WC.rs [(0, 2), (1, 2), (2, 1), (3, 2), (4, 2)] rfl ?_
   refine WO.pn 1 rfl ?_
   refine WO.k2 rfl rfl rfl rfl (rn_fieldAddr Try.runUnderlying57 rfl Try.sizeOf55 rfl rfl) ?_
   have f82 := f4.stp (S7.tr (S14.tr (S44.tr S78))) rfl rfl
   refine WO.k1 trivial rfl rfl rfl rfl (rn_ld Try.isAgg55 rfl rfl (hvE (f82.ld 3 rfl rfl))) ?_
   refine WO.k2 rfl rfl rfl rfl (rn_len Try.runUnderlying55 rfl rfl) ?_
   refine WO.pn 1 rfl ?_
   refine WO.fin ?_
   refine DN.seq ?_
   refine WC.ct' rfl hc69 ?_
   refine WC.skip ?_
   refine DN.seq ?_
   refine WC.seq ?_
   refine WC.block ?_
   refine WC.rs [(0, 2), (1, 2), (2, 2), (3, 1), (4, 2), (5, 2), (6, 2), (7, 1), (8, 1), (9, 2), (10, 2), (11, 2), (12, 1), (13, 2), (14, 2), (15, 2), (16, 1), (17, 1), (18, 2), (19, 1), (20, 1), (21, 2)] rfl ?_
   refine WO.pn 2 rfl ?_
   refine WO.k2 rfl rfl rfl rfl (rn_fieldAddr Try.runUnderlying57 rfl Try.sizeOf55 rfl rfl) ?_
   refine WO.k1 trivial rfl rfl rfl rfl (rn_ld Try.isAgg55 rfl rfl (hvE (f82.ld 3 rfl rfl))) ?_
   refine WO.pn 1 rfl ?_
   obtain ⟨x55, hx55, h⟩ := Option.bind_eq_some_iff.mp h
   refine WO.k2 rfl rfl rfl rfl (rn_index g0_3 hx55 Try.runUnderlying55 Try.sizeOf159 rfl rfl rfl rfl) ?_
   refine WO.k2 rfl rfl rfl rfl (rn_fieldAddr Try.runUnderlying159 rfl Try.sizeOf2 rfl rfl) ?_
   have f83 := g0_3.stp (S3.tr (S7.tr (S14.tr (S44.tr S78)))) rfl rfl
   obtain ⟨cse84, hre84, hle84⟩ := (f83).gSt hx55
   obtain rfl := Gate.un hre84
   refine WO.k1 trivial rfl rfl rfl rfl (rn_ld Try.isAgg2 rfl rfl (hvE (fun w' hw' => hle84 w' hw' 0 _ rfl))) ?_
   obtain ⟨x58, hx58, h⟩ := Option.bind_eq_some_iff.mp h
   refine WO.call rfl rfl rfl rfl rfl rfl Try.call167 (s_l31True_ok (κ := fun b => mp [] 0 (K77 b)) (Sl.map f79.rdc (mp [] 0) rfl rfl) hx58) ?_
   rintro _ w85 ⟨k86, rfl, e87⟩
   obtain ⟨K88, S89, m90⟩ := Ent.mixed (l := []) (κ := K77) e87 4 rfl
   refine ⟨trivial, ?_⟩
   refine WO.pn 1 rfl ?_
   obtain ⟨p68, h, hK92⟩ := Option.bind_eq_some_iff.mp h
   refine WO.meet [(10, 2), (11, 2), (12, 1), (13, 2), (14, 2), (15, 2), (16, 1), (17, 1), (18, 2)] [(19, 1), (20, 1), (21, 2)] (fun L w' => L = [(3, .pointer (some ⟨b3, 0, none⟩)), (8, .slice las7_0 s7.length lus7_0), (11, .int .i64 v11), (50, .slice las7_0 s7.length lus7_0), (68, .bool p68)] ∧ ∃ κ', Stp [] K88 w85 κ' w') trivial ?_ ?_
   ·
    revert h
    cases ht93 : x58 with
    | true =>
     intro h; replace h := cT h
     refine WO.pn 1 rfl ?_
     refine WO.k2 rfl rfl rfl rfl (rn_fieldAddr Try.runUnderlying57 rfl Try.sizeOf55 rfl rfl) ?_
     have f94 := f82.stp S89 rfl rfl
     refine WO.k1 trivial rfl rfl rfl rfl (rn_ld Try.isAgg55 rfl rfl (hvE (f94.ld 3 rfl rfl))) ?_
     refine WO.pn 1 rfl ?_
     obtain ⟨x64, hx64, h⟩ := Option.bind_eq_some_iff.mp h
     refine WO.k2 rfl rfl rfl rfl (rn_index f83 hx64 Try.runUnderlying55 Try.sizeOf159 rfl rfl rfl rfl) ?_
     refine WO.k2 rfl rfl rfl rfl (rn_fieldAddr Try.runUnderlying159 rfl Try.sizeOf2 rfl rfl) ?_
     have f95 := f83.stp S89 rfl rfl
     obtain ⟨cse96, hre96, hle96⟩ := (f95).gSt hx64
     obtain rfl := Gate.un hre96
     refine WO.k1 trivial rfl rfl rfl rfl (rn_ld Try.isAgg2 rfl rfl (hvE (fun w' hw' => hle96 w' hw' 1 _ rfl))) ?_
     obtain ⟨x67, hx67, h⟩ := Option.bind_eq_some_iff.mp h
     have f97 := f79.stp S89 rfl rfl
     refine WO.call rfl rfl rfl rfl rfl rfl Try.call167 (s_l31True_ok (κ := fun b => mp [] 0 (K88 b)) (Sl.map f97.rdc (mp [] 0) rfl rfl) hx67) ?_
     rintro _ w98 ⟨k99, rfl, e100⟩
     obtain ⟨K101, S102, m103⟩ := Ent.mixed (l := []) (κ := K88) e100 6 rfl
     refine ⟨trivial, ?_⟩
     refine WO.pn 1 rfl ?_
     obtain rfl := Option.some.inj h
     exact WO.met _ trivial ⟨rfl, _, S102.wk rfl⟩ fun a ha => (ha.more (ha.more (ha.more (ha.more (ha.more ha.nil rfl) rfl) rfl) rfl) rfl)
    | false =>
     intro h; replace h := cF h
     refine WO.pn 2 rfl ?_
     refine WO.ls rfl rfl rfl rfl ?_
     refine WO.pn 3 rfl ?_
     refine WO.ls rfl rfl rfl rfl ?_
     refine WO.ls rfl rfl rfl rfl ?_
     refine WO.pn 1 rfl ?_
     obtain rfl := Option.some.inj h
     exact WO.met _ trivial ⟨rfl, _, (Stp.refl _ _).wk rfl⟩ fun a ha => (ha.more (ha.more (ha.more (ha.more (ha.more ha.nil rfl) rfl) rfl) rfl) rfl)
   rintro _ w105 _ ⟨rfl, K106, S107⟩
   have h := hK92
   refine WO.bl (κ := K106) (E := Ep.bool) 6 [] (parts := [(0, .tmp 68)]) (cells := [.bool p68]) (xs := ([p68] : List Bool)) rfl rfl rfl rfl rfl rfl Try.underlying131 Tryinfo4 rfl rfl rfl rfl rfl rfl rfl rfl rfl rfl ⟨[.bool p68], [], Zl K106 w105 [], Zl K106 w105 [], rfl, Zl.sp (l1 := []) (l2 := []) rfl, Zl.sr (l1 := []) (l2 := []), rfl, rfl⟩ fun a69 u69 w108 K109 S110 f111 => ⟨trivial, ?_⟩
   obtain ⟨x70, hx70, h⟩ := Option.bind_eq_some_iff.mp h
   have f112 := f79.stp (S89.tr (S107.tr S110)) rfl rfl
   refine WO.app (κ := K109) (E := Ep.bool) 3 [] rfl rfl rfl rfl rfl rfl rfl rfl rfl Try.underlying131 Tryinfo4 rfl rfl rfl rfl f112 (Sl.srcP pu_bool f111.rdc) sy_false hx70 rfl fun a70 u70 w113 K114 S115 f116 => ⟨trivial, ?_⟩
   refine WO.pn 1 rfl ?_
   refine WO.fin ?_
   refine DN.block ?_
   refine DN.seq ?_
   refine WC.rs [(0, 2), (1, 2), (2, 2)] rfl ?_
   refine WO.pn 3 rfl ?_
   refine WO.fin ?_
   have hw69 : IntKind.wrap .i64 (v11 + 1) = v11 + 1 := wr1 hj69 (of_decide_eq_true hc69) hN69
   rw [hw69]
   have hc69 := of_decide_eq_true hc69
   obtain rfl := Option.some.inj h
   refine DN.round fun a ha => ?_
   exact ⟨k, _, Nat.lt_succ_self _, ⟨K114, v11 + 1, (x70 : (List Bool)), a70, u70, rfl, (S78.tr (S89.tr (S107.tr (S110.tr S115)))).wk rfl, f116, by omega, by omega, hk80⟩, (ha.more (ha.more (ha.more ha.nil rfl) rfl) rfl)⟩
 rintro _ w72 ⟨K73, s9, las9_0, lus9_0, rfl, S74, f75, rfl⟩
 have h := hK70
 dsimp only [aft] at h
 refine DN.seq ?_
 refine WC.seq ?_
 refine WC.rx (κ := K73) [2] none [(0, 2), (1, 2), (4, 2), (5, 2), (2, 0), (6, 0), (3, 1), (7, 1), (8, 2), (9, 2)] [] (by kernel_rfl) (by kernel_rfl) fun w118 S117 => ?_
 refine WO.pn 1 rfl ?_
 refine WO.k2 rfl rfl rfl rfl (rn_fieldAddr Try.runUnderlying57 rfl Try.sizeOf22 rfl rfl) ?_
 refine WO.pn 1 rfl ?_
 refine WO.k2 rfl rfl rfl rfl (rn_fieldAddr Try.runUnderlying57 rfl Try.sizeOf22 rfl rfl) ?_
 have f119 := f4.stp (S7.tr (S14.tr (S44.tr (S74.tr S117)))) rfl rfl
 refine WO.k0 rfl rfl rfl rfl (rn_ld Try.isAgg22 rfl rfl (hvC (f119.ld 2 rfl rfl) rfl)) ?_
 refine WO.k0 rfl rfl rfl rfl (rn_ld Try.isAgg22 rfl rfl (hvC (f119.ld 4 rfl rfl) rfl)) ?_
 obtain ⟨x74, hx74, h⟩ := Option.bind_eq_some_iff.mp h
 have f120 := f75.stp S117 rfl rfl
 have f121 := g0_2.stp (S3.tr (S7.tr (S14.tr (S44.tr (S74.tr S117))))) rfl rfl
 refine WO.call rfl rfl rfl rfl rfl rfl Try.call168 (s_l31Number_ok (κ := fun b => mp [] 0 (K73 b)) (Sl.map f120.rdc (mp [] 0) rfl rfl) (Sl.map f121 (mp [] 0) rfl rfl) hx74) ?_
 rintro _ w122 ⟨k123, rfl, e124⟩
 obtain ⟨K125, S126, m127⟩ := Ent.mixed (l := []) (κ := K73) e124 4 rfl
 refine ⟨(S126.cl rfl), ?_⟩
 obtain ⟨x78, hx78, h⟩ := Option.bind_eq_some_iff.mp h
 have f129 := f120.stp S126 rfl rfl
 have f130 := g0_4.stp (S3.tr (S7.tr (S14.tr (S44.tr (S74.tr (S117.tr S126)))))) rfl rfl
 refine WO.call rfl rfl rfl rfl rfl rfl Try.call168 (s_l31Number_ok (κ := fun b => mp [] 0 (K125 b)) (Sl.map f129.rdc (mp [] 0) rfl rfl) (Sl.map f130 (mp [] 0) rfl rfl) hx78) ?_
 rintro _ w131 ⟨k132, rfl, e133⟩
 obtain ⟨K134, S135, m136⟩ := Ent.mixed (l := []) (κ := K125) e133 6 rfl
 refine ⟨((S126.tr S135).cl rfl), ?_⟩
 refine WO.pn 2 rfl ?_
 refine WO.nx ?_
 refine WO.fin ?_
 refine DN.seq ?_
 refine WC.ret ?_
 have f138 := hE.stp (S3.tr (S7.tr (S14.tr (S44.tr (S74.tr (S117.tr (S126.tr S135))))))) rfl rfl
 refine DN.res (l := [.tmp 6, .tmp 7]) Try.results102 (res_tmp rfl (res_tmp rfl rfl)) rfl ?_
 obtain rfl := Option.some.inj h
 exact ⟨K134, rfl, f138⟩

end Go.Proofs.Ytfmkhnlnomkcfaa
