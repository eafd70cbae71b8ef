/- The walks, part 3. By program. -/
import Derived.Test.YthjkonkcdfdfaaaFnsT1
import Derived.Test.YthjkonkcdfdfaaaFnsT2
set_option linter.unusedVariables false
set_option linter.unusedSimpArgs false
namespace Go.Proofs.Ythjkonkcdfdfaaa
open Go Go.Wk Go.Proofs
set_option maxRecDepth 100000
set_option maxHeartbeats 1000000

/- loop.example/g00869/spec.l1Once -/
theorem s_l1Once_ok {w : World} {κ : Col} {a0_0 : Option Addr} {u0_0 : Nat} {p0 : l1Cur} {p1 : Int} {b0 : Nat} (g0_0 : Rd (Rp.int .u8) κ w 0 a0_0 u0_0 p0.b) (gb0 : Bc κ w 2 b0 89 [.slice a0_0 p0.b.length u0_0, .int .i64 p0.i, .int .i64 p0.h]) {r : Bool × Int × Int} (h : s_l1Once p0 p1 = some r) : Ret Try.prog 64 [.pointer (some ⟨b0, 0, none⟩), .int .i64 p1] w (fun v w' => ∃ (κ' : Col), v = .bool r.1 ∧ Ent κ w κ' w' ∧ Bc κ' w' 2 b0 89 [.slice a0_0 p0.b.length u0_0, .int .i64 r.2.1, .int .i64 r.2.2]) := by
 unfold s_l1Once at h
 refine Ret.enter Try.func64 rfl Try.ntmps64 rfl ?_
 dsimp only [envOf]
 have hE := Ent.refl κ w
 refine WC.seq ?_
 refine WC.rs [(0, 2)] rfl ?_
 refine WO.pn 1 rfl ?_
 refine WO.fin ?_
 refine DN.seq ?_
 refine WC.seq ?_
 refine WC.rs [(0, 2), (1, 2), (2, 1), (3, 2), (4, 2)] rfl ?_
 refine WO.pn 2 rfl ?_
 obtain ⟨x7, hx7, h⟩ := Option.bind_eq_some_iff.mp h
 refine WO.call rfl rfl rfl rfl rfl rfl Try.call65 (s_l1Below_ok (κ := fun b => mp [(2, 2)] 0 (κ b)) (p0 := p0) (Sl.map g0_0 (mp [(2, 2)] 0) rfl rfl) (gb0.map (mp [(2, 2)] 0) rfl rfl) hx7) ?_
 rintro _ w1 ⟨k2, rfl, e3, f4⟩
 obtain ⟨K5, S6, m7⟩ := Ent.mixed (l := [(2, 2)]) (κ := κ) e3 3 rfl
 refine ⟨trivial, ?_⟩
 have f9 := f4.mx m7 rfl (rfl : 3 + 2 = 5)
 refine WO.pn 2 rfl ?_
 refine WO.fin ?_
 refine DN.seq ?_
 refine WC.ret ?_
 have f10 := hE.stp S6 rfl rfl
 refine DN.res (l := [.tmp 4]) Try.results64 (res_tmp rfl rfl) rfl ?_
 obtain rfl := Option.some.inj h
 exact ⟨(fun b => ren [(5, 2)] (K5 b)), rfl, (f10.map (ren [(5, 2)]) rfl rfl), (f9.map (ren [(5, 2)]) rfl rfl)⟩

/- slices.ContainsFunc[[]int64,int64] -/
theorem slices_ContainsFunc_I_int64__i_areLetters_1_ok {w : World} {κ : Col} {a0 : Option Addr} {u0 : Nat} {p0 : (List Int)} {c1_0 : Int} {b1_0 : Nat} (g0 : Rd (Rp.int .i64) κ w 0 a0 u0 p0) (gb1_0 : Bc κ w 0 b1_0 2 [.int .i64 c1_0]) {r : Bool} (h : slices_ContainsFunc_I_int64__i_areLetters_1 p0 c1_0 = some r) : Ret Try.prog 80 [.slice a0 p0.length u0, .func (.func 81) #[] #[.pointer (some ⟨b1_0, 0, none⟩)]] w (fun v w' => ∃ (κ' : Col), v = .bool r ∧ Ent κ w κ' w') := by
 unfold slices_ContainsFunc_I_int64__i_areLetters_1 at h
 refine Ret.enter Try.func80 rfl Try.ntmps80 rfl ?_
 dsimp only [envOf]
 have hE := Ent.refl κ w
 refine WC.seq ?_
 refine WC.rs [(0, 2)] rfl ?_
 refine WO.pn 1 rfl ?_
 refine WO.fin ?_
 refine DN.seq ?_
 refine WC.seq ?_
 refine WC.rs [(0, 2), (1, 2), (2, 1), (3, 2), (4, 2)] rfl ?_
 refine WO.pn 2 rfl ?_
 obtain ⟨x7, hx7, h⟩ := Option.bind_eq_some_iff.mp h
 refine WO.call rfl rfl rfl rfl rfl rfl Try.call86 (slices_IndexFunc_I_int64__i_areLetters_1_ok (κ := fun b => mp [] 0 (κ b)) (Sl.map g0 (mp [] 0) rfl rfl) (gb1_0.map (mp [] 0) rfl rfl) hx7) ?_
 rintro _ w1 ⟨k2, rfl, e3⟩
 obtain ⟨K4, S5, m6⟩ := Ent.mixed (l := []) (κ := κ) e3 2 rfl
 refine ⟨trivial, ?_⟩
 refine WO.pn 2 rfl ?_
 refine WO.fin ?_
 refine DN.seq ?_
 refine WC.ret ?_
 have f8 := hE.stp S5 rfl rfl
 refine DN.res (l := [.tmp 4]) Try.results80 (res_tmp rfl rfl) rfl ?_
 obtain rfl := Option.some.inj h
 exact ⟨K4, rfl, f8⟩

/- loop.example/g00869/impl.tidied -/
theorem i_tidied_ok {w : World} {κ : Col} {a0_2 : Option Addr} {u0_2 : Nat} {a0_3 : Option Addr} {u0_3 : Nat} {a0_4 : Option Addr} {u0_4 : Nat} {p0 : Circuit} (g0_2 : Rd (Rp.int .i64) κ w 0 a0_2 u0_2 p0.Next) (g0_3 : Rd Gate.rp κ w 0 a0_3 u0_3 p0.Gates) (g0_4 : Rd (Rp.int .i64) κ w 0 a0_4 u0_4 p0.Outs) {r : Circuit} (h : i_tidied p0 = some r) : Ret Try.prog 32 [.agg #[.int .i64 p0.Inputs, .int .i64 p0.Latches, .slice a0_2 p0.Next.length u0_2, .slice a0_3 p0.Gates.length u0_3, .slice a0_4 p0.Outs.length u0_4]] w (fun v w' => ∃ (κ' : Col) (ra0 : Option Addr) (ru0 : Nat) (ra1 : Option Addr) (ru1 : Nat) (ra2 : Option Addr) (ru2 : Nat), v = .agg #[.int .i64 r.Inputs, .int .i64 r.Latches, .slice ra0 r.Next.length ru0, .slice ra1 r.Gates.length ru1, .slice ra2 r.Outs.length ru2] ∧ Ent κ w κ' w' ∧ Oc (Ep.int .i64) 2 κ' w' 2 ra0 ru0 r.Next ∧ Oc Gate.ep33 33 κ' w' 3 ra1 ru1 r.Gates ∧ Oc (Ep.int .i64) 2 κ' w' 4 ra2 ru2 r.Outs) := by
 unfold i_tidied at h
 refine Ret.enter Try.func32 rfl Try.ntmps32 rfl ?_
 dsimp only [envOf]
 have hE := Ent.refl κ w
 refine WC.seq ?_
 refine WC.rs [(0, 1), (1, 1)] rfl ?_
 refine WO.box (κ := κ) 2 rfl rfl rfl rfl rfl rfl rfl fun b1 w1 K2 S3 f4 => ⟨trivial, ?_⟩
 refine WO.alloc (κ := K2) 3 rfl rfl rfl rfl rfl Try.zeroValue27 rfl fun b2 w5 K6 S7 f8 => ⟨trivial, ?_⟩
 refine WO.fin ?_
 refine DN.seq ?_
 refine WC.seq ?_
 refine WC.rs [(0, 2), (1, 1), (2, 2), (3, 1), (4, 2), (5, 1), (6, 2)] rfl ?_
 refine WO.k2 rfl rfl rfl rfl (rn_fieldAddr Try.runUnderlying27 rfl Try.sizeOf2 rfl rfl) ?_
 have f9 := f4.stp S7 rfl rfl
 refine WO.k1 trivial rfl rfl rfl rfl (rn_ld Try.isAgg2 rfl rfl (hvE (f9.ld 0 rfl rfl))) ?_
 refine WO.k2 rfl rfl rfl rfl (rn_fieldAddr Try.runUnderlying27 rfl Try.sizeOf2 rfl rfl) ?_
 refine WO.k1 trivial rfl rfl rfl rfl (rn_ld Try.isAgg2 rfl rfl (hvE (f9.ld 1 rfl rfl))) ?_
 refine WO.k2 rfl rfl rfl rfl (rn_build (parts := [(0, .tmp 20), (1, .tmp 22)]) (cells := [.int .i64 p0.Inputs, .int .i64 p0.Latches, .slice none 0 0, .slice none 0 0, .slice none 0 0]) rfl rfl (by kernel_rfl)) ?_
 obtain ⟨x24, hx24, h⟩ := Option.bind_eq_some_iff.mp h
 refine WO.call rfl rfl rfl rfl rfl rfl Try.call43 (i_newBuilder_ok (κ := fun b => mp [] 0 (K6 b)) (p0 := (⟨p0.Inputs, p0.Latches, ([] : List Int), ([] : List Gate), ([] : List Int)⟩ : Circuit)) Sl.nil Sl.nil Sl.nil hx24) ?_
 rintro _ w10 ⟨k11, a24_0, u24_0, a24_1, u24_1, a24_2, u24_2, mb24_3, b24, rfl, e12, f13, f14, f15, f16, f17⟩
 obtain ⟨K18, S19, m20⟩ := Ent.mixed (l := []) (κ := K6) e12 4 rfl
 refine ⟨trivial, ?_⟩
 have f22 := f13.mx (no_int _) m20 rfl (rfl : 4 + 2 = 6)
 have f23 := f14.mx Gate.no33 m20 rfl (rfl : 4 + 3 = 7)
 have f24 := f15.mx (no_int _) m20 rfl (rfl : 4 + 4 = 8)
 have f25 := f16.mx' m20 rfl (rfl : 4 + 5 = 9)
 have f26 := f17.mx m20 rfl (rfl : 4 + 6 = 10)
 refine WO.pn 1 rfl ?_
 refine WO.fin ?_
 refine DN.seq ?_
 refine WC.seq ?_
 refine WC.rs [(0, 2), (1, 1), (2, 2), (3, 2), (4, 1), (5, 2), (6, 2)] rfl ?_
 refine WO.k2 rfl rfl rfl rfl (rn_fieldAddr Try.runUnderlying27 rfl Try.sizeOf2 rfl rfl) ?_
 have f27 := f9.stp S19 rfl rfl
 refine WO.k1 trivial rfl rfl rfl rfl (rn_ld Try.isAgg2 rfl rfl (hvE (f27.ld 0 rfl rfl))) ?_
 refine WO.pn 1 rfl ?_
 refine WO.k2 rfl rfl rfl rfl (rn_fieldAddr Try.runUnderlying27 rfl Try.sizeOf2 rfl rfl) ?_
 refine WO.k1 trivial rfl rfl rfl rfl (rn_ld Try.isAgg2 rfl rfl (hvE (f27.ld 1 rfl rfl))) ?_
 refine WO.pn 2 rfl ?_
 refine WO.fin ?_
 refine DN.seq ?_
 refine WC.seq ?_
 refine WC.rs [(0, 1), (1, 1), (2, 1)] rfl ?_
 refine WO.bl0 (κ := K18) (E := (Ep.int .i64)) 11 rfl rfl rfl rfl rfl Try.underlying24 Tryinfo2 rfl fun a31 u31 w28 K29 S30 f31 => ⟨trivial, ?_⟩
 refine WO.alloc (κ := K29) 12 rfl rfl rfl rfl rfl Try.zeroValue24 rfl fun b5 w32 K33 S34 f35 => ⟨trivial, ?_⟩
 refine WO.stB0 (κ := K33) 12 (vc := [.slice a31 ([] : List Int).length u31]) rfl rfl rfl rfl rfl rfl rfl Try.sizeOf24 rfl rfl f35 rfl fun w36 S37 f38 => ⟨trivial, ?_⟩
 refine WO.fin ?_
 refine DN.seq ?_
 refine WC.seq ?_
 refine WC.seq ?_
 refine WC.rs [(0, 2), (1, 2)] rfl ?_
 refine WO.pn 2 rfl ?_
 refine WO.fin ?_
 refine DN.seq ?_
 obtain ⟨_, hr39, h⟩ := Option.bind_eq_some_iff.mp h
 have hN39 := rng_ok hr39
 obtain ⟨q2, hq41, hK40⟩ := Option.bind_eq_some_iff.mp h
 clear h
 refine WC.meet (fun L w' => ∃ (κ' : Col) (s3 : (List Int)) (las3_0 : Option Addr) (lus3_0 : Nat), L = [(1, .pointer (some ⟨b1, 0, none⟩)), (2, .pointer (some ⟨b2, 0, none⟩)), (3, .pointer (some ⟨b24, 0, none⟩)), (4, .int .i64 (IntKind.i64.wrap ((IntKind.i64.wrap (1 + p0.Inputs)) + p0.Latches))), (5, .pointer (some ⟨b5, 0, none⟩))] ∧ Stp [11, 12] K33 w36 κ' w' ∧ Oc (Ep.int .i64) 2 κ' w' 11 las3_0 lus3_0 s3 ∧ Bc κ' w' 12 b5 24 [.slice las3_0 s3.length lus3_0] ∧ q2 = Sum.inr s3) ?_ ?_
 ·
  refine WC.block ?_
  have f52 := f31.stp (S34.tr S37) rfl rfl
  refine WC.loop (fun k L w' => ∃ (κ' : Col) (v33 : Int) (s1 : (List Int)) (las1_0 : Option Addr) (lus1_0 : Nat), L = [(1, .pointer (some ⟨b1, 0, none⟩)), (2, .pointer (some ⟨b2, 0, none⟩)), (3, .pointer (some ⟨b24, 0, none⟩)), (4, .int .i64 (IntKind.i64.wrap ((IntKind.i64.wrap (1 + p0.Inputs)) + p0.Latches))), (5, .pointer (some ⟨b5, 0, none⟩)), (32, .int .i64 (IntKind.i64.wrap ((IntKind.i64.wrap (1 + p0.Inputs)) + p0.Latches))), (33, .int .i64 v33)] ∧ Stp [11, 12] K33 w36 κ' w' ∧ Oc (Ep.int .i64) 2 κ' w' 11 las1_0 lus1_0 s1 ∧ Bc κ' w' 12 b5 24 [.slice las1_0 s1.length lus1_0] ∧ 0 ≤ v33 ∧ Int.toNat ((IntKind.i64.wrap ((IntKind.i64.wrap (1 + p0.Inputs)) + p0.Latches)) - v33) = k ∧ cntM i_tidied_b0 k v33 s1 = some q2) ⟨_, _, ⟨K33, 0, (([] : List Int) : (List Int)), a31, u31, rfl, (Stp.refl _ _).wk rfl, f52, f38, (by decide), (by simp), hq41⟩, fun a ha => (ha.more (ha.more (ha.more (ha.more (ha.more (ha.more (ha.more ha.nil rfl) rfl) rfl) rfl) rfl) rfl) rfl)⟩ ?_
  rintro k _ w47 ⟨K48, v33, s1, las1_0, lus1_0, rfl, S49, f50, f51, hj39, hJ39, h⟩
  rcases k with _ | k
  ·
   have hk53 := h; obtain ⟨o39, h⟩ := ex_eq (Sum.inr (Sum.inl s1) : Circuit ⊕ (((List Int)) ⊕ ((List Int))))
   have hc39 : decide (v33 < (IntKind.i64.wrap ((IntKind.i64.wrap (1 + p0.Inputs)) + p0.Latches))) = false := decide_eq_false (by omega)
   refine WC.seq ?_
   refine WC.rs [(0, 2)] rfl ?_
   refine WO.pn 1 rfl ?_
   refine WO.fin ?_
   refine DN.seq ?_
   refine WC.seq ?_
   refine WC.cf' rfl hc39 ?_
   refine WC.exit ?_
   refine DN.exitThen ?_
   refine DN.exitThen ?_
   obtain rfl := Option.some.inj h
   have h := hk53
   refine DN.hit ?_
   obtain rfl := Option.some.inj h
   exact DN.meet _ ⟨K48, (s1 : (List Int)), las1_0, lus1_0, rfl, S49.wk rfl, f50, f51, rfl⟩ fun a ha => (ha.more (ha.more (ha.more (ha.more (ha.more ha.nil rfl) rfl) rfl) rfl) rfl)
  ·
   obtain ⟨o39, h, hk53⟩ := Option.bind_eq_some_iff.mp h; unfold i_tidied_b0 at h
   have hc39 : decide (v33 < (IntKind.i64.wrap ((IntKind.i64.wrap (1 + p0.Inputs)) + p0.Latches))) = true := decide_eq_true (by omega)
   refine WC.seq ?_
   refine WC.rs [(0, 2)] rfl ?_
   refine WO.pn 1 rfl ?_
   refine WO.fin ?_
   refine DN.seq ?_
   refine WC.seq ?_
   refine WC.ct' rfl hc39 ?_
   refine WC.skip ?_
   refine DN.seq ?_
   refine WC.seq ?_
   refine WC.block ?_
   refine WC.seq ?_
   refine WC.rs [(0, 2), (1, 2)] rfl ?_
   refine WO.pn 2 rfl ?_
   refine WO.fin ?_
   refine DN.seq ?_
   refine WC.rs [(0, 1), (1, 2), (2, 2), (3, 1), (4, 1), (5, 1)] rfl ?_
   refine WO.k1 trivial rfl rfl rfl rfl (rn_ld Try.isAgg24 rfl rfl (hvE (f51.ld 0 rfl rfl))) ?_
   refine WO.pn 2 rfl ?_
   refine WO.bl (κ := K48) (E := (Ep.int .i64)) 13 [] (parts := [(0, .tmp 38)]) (cells := [.int .i64 (IntKind.i64.wrap (2 * v33))]) (xs := ([(IntKind.i64.wrap (2 * v33))] : List Int)) rfl rfl rfl rfl rfl rfl Try.underlying24 Tryinfo2 rfl rfl rfl rfl rfl rfl rfl rfl rfl rfl ⟨[.int .i64 (IntKind.i64.wrap (2 * v33))], [], Zl K48 w47 [], Zl K48 w47 [], rfl, Zl.sp (l1 := []) (l2 := []) rfl, Zl.sr (l1 := []) (l2 := []), rfl, rfl⟩ fun a39 u39 w54 K55 S56 f57 => ⟨trivial, ?_⟩
   obtain ⟨x40, hx40, h⟩ := Option.bind_eq_some_iff.mp h
   have f58 := f50.stp S56 rfl rfl
   refine WO.app (κ := K55) (E := (Ep.int .i64)) 11 [] rfl rfl rfl rfl rfl rfl rfl rfl rfl Try.underlying24 Tryinfo2 rfl rfl rfl rfl f58 (Sl.srcP (pu_int _) f57.rdc) sy_false hx40 rfl fun a40 u40 w59 K60 S61 f62 => ⟨trivial, ?_⟩
   have f63 := f51.stp (S56.tr S61) rfl rfl
   refine WO.stB0 (κ := K60) 12 (vc := [.slice a40 x40.length u40]) rfl rfl rfl rfl rfl rfl rfl Try.sizeOf24 rfl rfl f63 rfl fun w64 S65 f66 => ⟨trivial, ?_⟩
   refine WO.fin ?_
   refine DN.block ?_
   refine DN.seq ?_
   refine WC.rs [(0, 2), (1, 2)] rfl ?_
   refine WO.pn 2 rfl ?_
   refine WO.fin ?_
   have hw39 : IntKind.wrap .i64 (v33 + 1) = v33 + 1 := wr1 hj39 (of_decide_eq_true hc39) hN39
   rw [hw39]
   have hc39 := of_decide_eq_true hc39
   have f67 := f62.stp S65 rfl rfl
   obtain rfl := Option.some.inj h
   refine DN.round fun a ha => ?_
   exact ⟨k, _, Nat.lt_succ_self _, ⟨K60, v33 + 1, (x40 : (List Int)), a40, u40, rfl, (S49.tr (S56.tr (S61.tr S65))).wk rfl, f67, f66, by omega, by omega, hk53⟩, (ha.more (ha.more (ha.more (ha.more (ha.more (ha.more (ha.more ha.nil rfl) rfl) rfl) rfl) rfl) rfl) rfl)⟩
 rintro _ w42 ⟨K43, s3, las3_0, lus3_0, rfl, S44, f45, f46, rfl⟩
 have h := hK40
 dsimp only [aft] at h
 refine DN.seq ?_
 refine WC.seq ?_
 refine WC.rs [(0, 2), (1, 2)] rfl ?_
 refine WO.k2 rfl rfl rfl rfl (rn_makeFunc (first := []) (captured := [.tmp 5]) rfl rfl rfl ⟨_, rfl⟩) ?_
 refine WO.pn 1 rfl ?_
 refine WO.fin ?_
 refine DN.seq ?_
 refine WC.seq ?_
 refine WC.seq ?_
 refine WC.rs [(0, 2), (1, 1), (2, 2), (3, 2)] rfl ?_
 refine WO.k2 rfl rfl rfl rfl (rn_fieldAddr Try.runUnderlying27 rfl Try.sizeOf25 rfl rfl) ?_
 have f68 := f27.stp (S30.tr (S34.tr (S37.tr S44))) rfl rfl
 refine WO.k1 trivial rfl rfl rfl rfl (rn_ld Try.isAgg25 rfl rfl (hvE (f68.ld 3 rfl rfl))) ?_
 refine WO.k2 rfl rfl rfl rfl (rn_len Try.runUnderlying25 rfl rfl) ?_
 refine WO.pn 1 rfl ?_
 refine WO.fin ?_
 refine DN.seq ?_
 have hN69 : (p0.Gates.length : Int) ≤ 9223372036854775807 := g0_3.len_le
 obtain ⟨q5, hq71, hK70⟩ := Option.bind_eq_some_iff.mp h
 clear h
 refine WC.meet (fun L w' => ∃ (κ' : Col) (s6 : (List Int) × (List Gate) × Bool × (List (Gate × Int))) (las6_0 : Option Addr) (lus6_0 : Nat) (las6_1 : Option Addr) (lus6_1 : Nat), L = [(1, .pointer (some ⟨b1, 0, none⟩)), (2, .pointer (some ⟨b2, 0, none⟩)), (3, .pointer (some ⟨b24, 0, none⟩)), (4, .int .i64 (IntKind.i64.wrap ((IntKind.i64.wrap (1 + p0.Inputs)) + p0.Latches))), (7, .func (.func 67) #[] #[.pointer (some ⟨b5, 0, none⟩)])] ∧ Stp [7, 9, 10, 11, 12, 13, 20, 21, 22] K43 w42 κ' w' ∧ Oc (Ep.int .i64) 2 κ' w' 11 las6_0 lus6_0 s6.1 ∧ Oc Gate.ep33 33 κ' w' 7 las6_1 lus6_1 s6.2.1 ∧ Mc kwGate kvGate (fun v : Int => .int .i64 v) κ' w' 9 mb24_3 s6.2.2.2 ∧ Bc κ' w' 10 b24 72 [.int .i64 x24.c.Inputs, .int .i64 x24.c.Latches, .slice a24_0 x24.c.Next.length u24_0, .slice las6_1 s6.2.1.length lus6_1, .slice a24_2 x24.c.Outs.length u24_2, .bool s6.2.2.1, .map (some mb24_3)] ∧ Bc κ' w' 12 b5 24 [.slice las6_0 s6.1.length lus6_0] ∧ q5 = Sum.inr s6) ?_ ?_
 ·
  refine WC.block ?_
  have f90 := f23.stp (S30.tr (S34.tr (S37.tr S44))) rfl rfl
  have f91 := f25.stp (S30.tr (S34.tr (S37.tr S44))) rfl rfl
  have f92 := f26.stp (S30.tr (S34.tr (S37.tr S44))) rfl rfl
  refine WC.loop (fun k L w' => ∃ (κ' : Col) (v46 : Int) (s4 : (List Int) × (List Gate) × Bool × (List (Gate × Int))) (las4_0 : Option Addr) (lus4_0 : Nat) (las4_1 : Option Addr) (lus4_1 : Nat), L = [(1, .pointer (some ⟨b1, 0, none⟩)), (2, .pointer (some ⟨b2, 0, none⟩)), (3, .pointer (some ⟨b24, 0, none⟩)), (4, .int .i64 (IntKind.i64.wrap ((IntKind.i64.wrap (1 + p0.Inputs)) + p0.Latches))), (5, .pointer (some ⟨b5, 0, none⟩)), (7, .func (.func 67) #[] #[.pointer (some ⟨b5, 0, none⟩)]), (44, .slice a0_3 p0.Gates.length u0_3), (45, .int .i64 (p0.Gates.length : Int)), (46, .int .i64 v46)] ∧ Stp [7, 9, 10, 11, 12, 13, 20, 21, 22] K43 w42 κ' w' ∧ Oc (Ep.int .i64) 2 κ' w' 11 las4_0 lus4_0 s4.1 ∧ Oc Gate.ep33 33 κ' w' 7 las4_1 lus4_1 s4.2.1 ∧ Mc kwGate kvGate (fun v : Int => .int .i64 v) κ' w' 9 mb24_3 s4.2.2.2 ∧ Bc κ' w' 10 b24 72 [.int .i64 x24.c.Inputs, .int .i64 x24.c.Latches, .slice a24_0 x24.c.Next.length u24_0, .slice las4_1 s4.2.1.length lus4_1, .slice a24_2 x24.c.Outs.length u24_2, .bool s4.2.2.1, .map (some mb24_3)] ∧ Bc κ' w' 12 b5 24 [.slice las4_0 s4.1.length lus4_0] ∧ 0 ≤ v46 ∧ Int.toNat ((p0.Gates.length : Int) - v46) = k ∧ cntM (i_tidied_b2 p0 x24) k v46 s4 = some q5) ⟨_, _, ⟨K43, 0, ((s3 : (List Int)), (x24.c.Gates : (List Gate)), (x24.full : Bool), (x24.known : (List (Gate × Int)))), las3_0, lus3_0, a24_1, u24_1, rfl, (Stp.refl _ _).wk rfl, f45, f90, f91, f92, f46, (by decide), (by simp), hq71⟩, fun a ha => (ha.more (ha.more (ha.more (ha.more (ha.more (ha.more (ha.more (ha.more (ha.more ha.nil rfl) rfl) rfl) rfl) rfl) rfl) rfl) rfl) rfl)⟩ ?_
  rintro k _ w81 ⟨K82, v46, s4, las4_0, lus4_0, las4_1, lus4_1, rfl, S83, f84, f85, f86, f88, f89, hj69, hJ69, h⟩
  rcases k with _ | k
  ·
   have hk93 := h; obtain ⟨o69, h⟩ := ex_eq (Sum.inr (Sum.inl s4) : Circuit ⊕ (((List Int) × (List Gate) × Bool × (List (Gate × Int))) ⊕ ((List Int) × (List Gate) × Bool × (List (Gate × Int)))))
   have hc69 : decide (v46 < (p0.Gates.length : Int)) = false := decide_eq_false (by omega)
   refine WC.seq ?_
   refine WC.rs [(0, 2)] rfl ?_
   refine WO.pn 1 rfl ?_
   refine WO.fin ?_
   refine DN.seq ?_
   refine WC.seq ?_
   refine WC.cf' rfl hc69 ?_
   refine WC.exit ?_
   refine DN.exitThen ?_
   refine DN.exitThen ?_
   obtain rfl := Option.some.inj h
   have h := hk93
   refine DN.hit ?_
   obtain rfl := Option.some.inj h
   exact DN.meet _ ⟨K82, ((s4.1 : (List Int)), (s4.2.1 : (List Gate)), (s4.2.2.1 : Bool), (s4.2.2.2 : (List (Gate × Int)))), las4_0, lus4_0, las4_1, lus4_1, rfl, S83.wk rfl, f84, f85, f86, f88, f89, rfl⟩ fun a ha => (ha.more (ha.more (ha.more (ha.more (ha.more ha.nil rfl) rfl) rfl) rfl) rfl)
  ·
   obtain ⟨o69, h, hk93⟩ := Option.bind_eq_some_iff.mp h; unfold i_tidied_b2 at h
   have hc69 : decide (v46 < (p0.Gates.length : Int)) = true := decide_eq_true (by omega)
   refine WC.seq ?_
   refine WC.rs [(0, 2)] rfl ?_
   refine WO.pn 1 rfl ?_
   refine WO.fin ?_
   refine DN.seq ?_
   refine WC.seq ?_
   refine WC.ct' rfl hc69 ?_
   refine WC.skip ?_
   refine DN.seq ?_
   refine WC.seq ?_
   refine WC.block ?_
   refine WC.seq ?_
   refine WC.rs [(0, 2), (1, 1), (2, 1), (3, 1)] rfl ?_
   obtain ⟨x48, hx48, h⟩ := Option.bind_eq_some_iff.mp h
   refine WO.k2 rfl rfl rfl rfl (rn_index g0_3 hx48 Try.runUnderlying25 Try.sizeOf33 rfl rfl rfl rfl) ?_
   have f94 := g0_3.stp (S3.tr (S7.tr (S19.tr (S30.tr (S34.tr (S37.tr (S44.tr S83))))))) rfl rfl
   obtain ⟨cse95, hre95, hle95⟩ := (f94).gSt hx48
   obtain rfl := Gate.un hre95
   refine WO.k1 trivial rfl rfl rfl rfl (rn_la (cs := [.int .i64 x48.A, .int .i64 x48.B]) Try.isAgg33 Try.sizeOf33 rfl rfl rfl (haE hle95)) ?_
   refine WO.alloc (κ := K82) 13 rfl rfl rfl rfl rfl Try.zeroValue33 rfl fun b9 w96 K97 S98 f99 => ⟨trivial, ?_⟩
   refine WO.stB0 (κ := K97) 13 (vc := [.int .i64 x48.A, .int .i64 x48.B]) rfl rfl rfl rfl rfl rfl rfl Try.sizeOf33 rfl rfl f99 rfl fun w100 S101 f102 => ⟨trivial, ?_⟩
   refine WO.fin ?_
   refine DN.seq ?_
   refine WC.rx (κ := K97) [12, 13] (some 13) [(1, 2), (2, 2), (3, 2), (6, 2), (7, 2), (0, 0), (4, 0), (8, 0), (5, 1), (9, 1), (10, 1), (11, 1), (12, 1)] [(13, 1)] (by kernel_rfl) (by kernel_rfl) fun w104 S103 => ?_
   refine WO.pn 2 rfl ?_
   refine WO.k2 rfl rfl rfl rfl (rn_fieldAddr Try.runUnderlying33 rfl Try.sizeOf2 rfl rfl) ?_
   refine WO.pn 1 rfl ?_
   refine WO.k2 rfl rfl rfl rfl (rn_fieldAddr Try.runUnderlying33 rfl Try.sizeOf2 rfl rfl) ?_
   have f105 := f89.stp (S98.tr (S101.tr S103)) rfl rfl
   refine WO.k0 rfl rfl rfl rfl (rn_ld Try.isAgg24 rfl rfl (hvC (f105.ld 0 rfl rfl) rfl)) ?_
   have f106 := f102.stp S103 rfl rfl
   refine WO.k0 rfl rfl rfl rfl (rn_ld Try.isAgg2 rfl rfl (hvC (f106.ld 0 rfl rfl) rfl)) ?_
   refine WO.k0 rfl rfl rfl rfl (rn_ld Try.isAgg2 rfl rfl (hvC (f106.ld 1 rfl rfl) rfl)) ?_
   obtain ⟨x55, hx55, h⟩ := Option.bind_eq_some_iff.mp h
   have f107 := f84.stp (S98.tr (S101.tr S103)) rfl rfl
   refine WO.callV rfl rfl rfl rfl rfl rfl rfl rfl Try.call67 (i_tidied_1_ok (κ := fun b => mp [] 0 (K97 b)) (Sl.map f107.rdc (mp [] 0) rfl rfl) (f105.map (mp [] 0) rfl rfl) hx55) ?_
   rintro _ w108 ⟨k109, rfl, e110⟩
   obtain ⟨K111, S112, m113⟩ := Ent.mixed (l := []) (κ := K97) e110 14 rfl
   refine ⟨(S112.cl rfl), ?_⟩
   obtain ⟨x59, hx59, h⟩ := Option.bind_eq_some_iff.mp h
   have f115 := f107.stp S112 rfl rfl
   have f116 := f105.stp S112 rfl rfl
   refine WO.callV rfl rfl rfl rfl rfl rfl rfl rfl Try.call67 (i_tidied_1_ok (κ := fun b => mp [] 0 (K111 b)) (Sl.map f115.rdc (mp [] 0) rfl rfl) (f116.map (mp [] 0) rfl rfl) hx59) ?_
   rintro _ w117 ⟨k118, rfl, e119⟩
   obtain ⟨K120, S121, m122⟩ := Ent.mixed (l := []) (κ := K111) e119 16 rfl
   refine ⟨((S112.tr S121).cl rfl), ?_⟩
   obtain ⟨x60, hx60, h⟩ := Option.bind_eq_some_iff.mp h
   have f124 := f22.stp (S30.tr (S34.tr (S37.tr (S44.tr (S83.tr (S98.tr (S101.tr (S103.tr (S112.tr S121))))))))) rfl rfl
   have f125 := f85.stp (S98.tr (S101.tr (S103.tr (S112.tr S121)))) rfl rfl
   have f126 := f24.stp (S30.tr (S34.tr (S37.tr (S44.tr (S83.tr (S98.tr (S101.tr (S103.tr (S112.tr S121))))))))) rfl rfl
   have f127 := f86.stp (S98.tr (S101.tr (S103.tr (S112.tr S121)))) rfl rfl
   have f128 := f88.stp (S98.tr (S101.tr (S103.tr (S112.tr S121)))) rfl rfl
   refine WO.call rfl rfl rfl rfl rfl rfl Try.call44 (i_builder_join_ok (κ := fun b => mp [(7, 2), (9, 3), (10, 4)] 0 (K120 b)) (p0 := (⟨(⟨x24.c.Inputs, x24.c.Latches, x24.c.Next, s4.2.1, x24.c.Outs⟩ : Circuit), s4.2.2.1, s4.2.2.2⟩ : builder)) (Sl.map f124.rdc (mp [(7, 2), (9, 3), (10, 4)] 0) rfl rfl) (f125.map (mp [(7, 2), (9, 3), (10, 4)] 0) rfl rfl) (Sl.map f126.rdc (mp [(7, 2), (9, 3), (10, 4)] 0) rfl rfl) (f127.map (mp [(7, 2), (9, 3), (10, 4)] 0) rfl rfl) (f128.map (mp [(7, 2), (9, 3), (10, 4)] 0) rfl rfl) hx60) ?_
   rintro _ w129 ⟨k130, a60_m0, u60_m0, rfl, e131, f132, f133, f134⟩
   obtain ⟨K135, S136, m137⟩ := Ent.mixed (l := [(7, 2), (9, 3), (10, 4)]) (κ := K120) e131 18 rfl
   refine ⟨((S112.tr (S121.tr S136)).cl rfl), ?_⟩
   have f139 := f132.mx Gate.no33 m137 rfl (rfl : 18 + 2 = 20)
   have f140 := f133.mx' m137 rfl (rfl : 18 + 3 = 21)
   have f141 := f134.mx m137 rfl (rfl : 18 + 4 = 22)
   refine WO.bl (κ := K135) (E := (Ep.int .i64)) 23 [] (parts := [(0, .tmp 60)]) (cells := [.int .i64 x60.1]) (xs := ([x60.1] : List Int)) rfl rfl rfl rfl rfl rfl Try.underlying24 Tryinfo2 rfl rfl rfl rfl rfl rfl rfl rfl rfl rfl ⟨[.int .i64 x60.1], [], Zl K135 w129 [], Zl K135 w129 [], rfl, Zl.sp (l1 := []) (l2 := []) rfl, Zl.sr (l1 := []) (l2 := []), rfl, rfl⟩ fun a61 u61 w142 K143 S144 f145 => ⟨((S112.tr (S121.tr (S136.tr S144))).cl rfl), ?_⟩
   obtain ⟨x62, hx62, h⟩ := Option.bind_eq_some_iff.mp h
   have f146 := f115.stp (S121.tr (S136.tr S144)) rfl rfl
   refine WO.app (κ := K143) (E := (Ep.int .i64)) 11 [] rfl rfl rfl rfl rfl rfl rfl rfl rfl Try.underlying24 Tryinfo2 rfl rfl rfl rfl f146 (Sl.srcP (pu_int _) f145.rdc) sy_false hx62 rfl fun a62 u62 w147 K148 S149 f150 => ⟨((S112.tr (S121.tr (S136.tr (S144.tr S149)))).cl rfl), ?_⟩
   refine WO.nx ?_
   have f151 := f116.stp (S121.tr (S136.tr (S144.tr S149))) rfl rfl
   refine WO.stB0 (κ := K148) 12 (vc := [.slice a62 x62.length u62]) rfl rfl rfl rfl rfl rfl rfl Try.sizeOf24 rfl rfl f151 rfl fun w152 S153 f154 => ⟨trivial, ?_⟩
   refine WO.fin ?_
   refine DN.block ?_
   refine DN.seq ?_
   refine WC.rs [(0, 2), (1, 2)] rfl ?_
   refine WO.pn 2 rfl ?_
   refine WO.fin ?_
   have hw69 : IntKind.wrap .i64 (v46 + 1) = v46 + 1 := wr1 hj69 (of_decide_eq_true hc69) hN69
   rw [hw69]
   have hc69 := of_decide_eq_true hc69
   have f155 := f150.stp S153 rfl rfl
   have f156 := f139.stp (S144.tr (S149.tr S153)) rfl rfl
   have f157 := f140.stp (S144.tr (S149.tr S153)) rfl rfl
   have f158 := f141.stp (S144.tr (S149.tr S153)) rfl rfl
   obtain rfl := Option.some.inj h
   refine DN.round fun a ha => ?_
   exact ⟨k, _, Nat.lt_succ_self _, ⟨(fun b => ren [(20, 7), (21, 9), (22, 10)] (K148 b)), v46 + 1, ((x62 : (List Int)), (x60.2.1 : (List Gate)), (x60.2.2.1 : Bool), (x60.2.2.2 : (List (Gate × Int)))), a62, u62, a60_m0, u60_m0, rfl, (Stp.ren ((S83.tr (S98.tr (S101.tr (S103.tr (S112.tr (S121.tr (S136.tr (S144.tr (S149.tr S153))))))))).wk rfl) [(20, 7), (21, 9), (22, 10)] rfl), (f155.map (ren [(20, 7), (21, 9), (22, 10)]) rfl rfl), (f156.map (ren [(20, 7), (21, 9), (22, 10)]) rfl rfl), (f157.map (ren [(20, 7), (21, 9), (22, 10)]) rfl rfl), (f158.map (ren [(20, 7), (21, 9), (22, 10)]) rfl rfl), (f154.map (ren [(20, 7), (21, 9), (22, 10)]) rfl rfl), by omega, by omega, hk93⟩, (ha.more (ha.more (ha.more (ha.more (ha.more (ha.more (ha.more (ha.more (ha.more ha.nil rfl) rfl) rfl) rfl) rfl) rfl) rfl) rfl) rfl)⟩
 rintro _ w72 ⟨K73, s6, las6_0, lus6_0, las6_1, lus6_1, rfl, S74, f75, f76, f77, f79, f80, rfl⟩
 have h := hK70
 dsimp only [aft] at h
 refine DN.seq ?_
 refine WC.seq ?_
 refine WC.rs [(0, 2), (1, 2), (2, 2), (3, 1), (4, 1), (5, 1)] rfl ?_
 refine WO.pn 1 rfl ?_
 refine WO.k2 rfl rfl rfl rfl (rn_nilCheck rfl rfl) ?_
 refine WO.k2 rfl rfl rfl rfl (rn_fieldAddr Try.runUnderlying72 rfl Try.sizeOf27 rfl rfl) ?_
 refine WO.k1 trivial rfl rfl rfl rfl (rn_la (cs := [.int .i64 x24.c.Inputs, .int .i64 x24.c.Latches, .slice a24_0 x24.c.Next.length u24_0, .slice las6_1 s6.2.1.length lus6_1, .slice a24_2 x24.c.Outs.length u24_2]) Try.isAgg27 Try.sizeOf27 rfl rfl rfl (haE (f79.lds 0 5 rfl))) ?_
 refine WO.alloc (κ := K73) 13 rfl rfl rfl rfl rfl Try.zeroValue27 rfl fun b10 w159 K160 S161 f162 => ⟨trivial, ?_⟩
 refine WO.stB0 (κ := K160) 13 (vc := [.int .i64 x24.c.Inputs, .int .i64 x24.c.Latches, .slice a24_0 x24.c.Next.length u24_0, .slice las6_1 s6.2.1.length lus6_1, .slice a24_2 x24.c.Outs.length u24_2]) rfl rfl rfl rfl rfl rfl rfl Try.sizeOf27 rfl rfl f162 rfl fun w163 S164 f165 => ⟨trivial, ?_⟩
 refine WO.fin ?_
 refine DN.seq ?_
 refine WC.seq ?_
 refine WC.rs [(0, 1), (1, 1), (2, 2), (3, 1), (4, 2), (5, 1)] rfl ?_
 refine WO.bl0 (κ := K160) (E := (Ep.int .i64)) 14 rfl rfl rfl rfl rfl Try.underlying24 Tryinfo2 rfl fun a68 u68 w166 K167 S168 f169 => ⟨trivial, ?_⟩
 refine WO.bl0 (κ := K167) (E := (Ep.int .i64)) 15 rfl rfl rfl rfl rfl Try.underlying24 Tryinfo2 rfl fun a69 u69 w170 K171 S172 f173 => ⟨trivial, ?_⟩
 refine WO.k2 rfl rfl rfl rfl (rn_fieldAddr Try.runUnderlying27 rfl Try.sizeOf24 rfl rfl) ?_
 have f174 := f165.stp (S168.tr S172) rfl rfl
 refine WO.stB (κ := K171) 13 (off := 2) (vc := [.slice a68 ([] : List Int).length u68]) (cs' := [.int .i64 x24.c.Inputs, .int .i64 x24.c.Latches, .slice a68 ([] : List Int).length u68, .slice las6_1 s6.2.1.length lus6_1, .slice a24_2 x24.c.Outs.length u24_2]) rfl rfl rfl rfl rfl rfl rfl Try.sizeOf24 rfl rfl f174 rfl rfl fun w175 S176 f177 => ⟨trivial, ?_⟩
 refine WO.k2 rfl rfl rfl rfl (rn_fieldAddr Try.runUnderlying27 rfl Try.sizeOf24 rfl rfl) ?_
 refine WO.stB (κ := K171) 13 (off := 4) (vc := [.slice a69 ([] : List Int).length u69]) (cs' := [.int .i64 x24.c.Inputs, .int .i64 x24.c.Latches, .slice a68 ([] : List Int).length u68, .slice las6_1 s6.2.1.length lus6_1, .slice a69 ([] : List Int).length u69]) rfl rfl rfl rfl rfl rfl rfl Try.sizeOf24 rfl rfl f177 rfl rfl fun w178 S179 f180 => ⟨trivial, ?_⟩
 refine WO.fin ?_
 refine DN.seq ?_
 refine WC.seq ?_
 refine WC.seq ?_
 refine WC.rs [(0, 2), (1, 1), (2, 2), (3, 2)] rfl ?_
 refine WO.k2 rfl rfl rfl rfl (rn_fieldAddr Try.runUnderlying27 rfl Try.sizeOf24 rfl rfl) ?_
 have f181 := f68.stp (S74.tr (S161.tr (S164.tr (S168.tr (S172.tr (S176.tr S179)))))) rfl rfl
 refine WO.k1 trivial rfl rfl rfl rfl (rn_ld Try.isAgg24 rfl rfl (hvE (f181.ld 2 rfl rfl))) ?_
 refine WO.k2 rfl rfl rfl rfl (rn_len Try.runUnderlying24 rfl rfl) ?_
 refine WO.pn 1 rfl ?_
 refine WO.fin ?_
 refine DN.seq ?_
 have hN182 : (p0.Next.length : Int) ≤ 9223372036854775807 := g0_2.len_le
 obtain ⟨q8, hq184, hK183⟩ := Option.bind_eq_some_iff.mp h
 clear h
 refine WC.meet (fun L w' => ∃ (κ' : Col) (s9 : (List Int)) (las9_0 : Option Addr) (lus9_0 : Nat), L = [(1, .pointer (some ⟨b1, 0, none⟩)), (2, .pointer (some ⟨b2, 0, none⟩)), (4, .int .i64 (IntKind.i64.wrap ((IntKind.i64.wrap (1 + p0.Inputs)) + p0.Latches))), (7, .func (.func 67) #[] #[.pointer (some ⟨b5, 0, none⟩)]), (10, .pointer (some ⟨b10, 0, none⟩))] ∧ Stp [13, 14] K171 w178 κ' w' ∧ Oc (Ep.int .i64) 2 κ' w' 14 las9_0 lus9_0 s9 ∧ Bc κ' w' 13 b10 27 [.int .i64 x24.c.Inputs, .int .i64 x24.c.Latches, .slice las9_0 s9.length lus9_0, .slice las6_1 s6.2.1.length lus6_1, .slice a69 ([] : List Int).length u69] ∧ q8 = Sum.inr s9) ?_ ?_
 ·
  refine WC.block ?_
  have f195 := f169.stp (S172.tr (S176.tr S179)) rfl rfl
  refine WC.loop (fun k L w' => ∃ (κ' : Col) (v75 : Int) (s7 : (List Int)) (las7_0 : Option Addr) (lus7_0 : Nat), L = [(1, .pointer (some ⟨b1, 0, none⟩)), (2, .pointer (some ⟨b2, 0, none⟩)), (4, .int .i64 (IntKind.i64.wrap ((IntKind.i64.wrap (1 + p0.Inputs)) + p0.Latches))), (7, .func (.func 67) #[] #[.pointer (some ⟨b5, 0, none⟩)]), (10, .pointer (some ⟨b10, 0, none⟩)), (73, .slice a0_2 p0.Next.length u0_2), (74, .int .i64 (p0.Next.length : Int)), (75, .int .i64 v75)] ∧ Stp [13, 14] K171 w178 κ' w' ∧ Oc (Ep.int .i64) 2 κ' w' 14 las7_0 lus7_0 s7 ∧ Bc κ' w' 13 b10 27 [.int .i64 x24.c.Inputs, .int .i64 x24.c.Latches, .slice las7_0 s7.length lus7_0, .slice las6_1 s6.2.1.length lus6_1, .slice a69 ([] : List Int).length u69] ∧ 0 ≤ v75 ∧ Int.toNat ((p0.Next.length : Int) - v75) = k ∧ cntM (i_tidied_b4 p0 s6) k v75 s7 = some q8) ⟨_, _, ⟨K171, 0, (([] : List Int) : (List Int)), a68, u68, rfl, (Stp.refl _ _).wk rfl, f195, f180, (by decide), (by simp), hq184⟩, fun a ha => (ha.more (ha.more (ha.more (ha.more (ha.more (ha.more (ha.more (ha.more ha.nil rfl) rfl) rfl) rfl) rfl) rfl) rfl) rfl)⟩ ?_
  rintro k _ w190 ⟨K191, v75, s7, las7_0, lus7_0, rfl, S192, f193, f194, hj182, hJ182, h⟩
  rcases k with _ | k
  ·
   have hk196 := h; obtain ⟨o182, h⟩ := ex_eq (Sum.inr (Sum.inl s7) : Circuit ⊕ (((List Int)) ⊕ ((List Int))))
   have hc182 : decide (v75 < (p0.Next.length : Int)) = false := decide_eq_false (by omega)
   refine WC.seq ?_
   refine WC.rs [(0, 2)] rfl ?_
   refine WO.pn 1 rfl ?_
   refine WO.fin ?_
   refine DN.seq ?_
   refine WC.seq ?_
   refine WC.cf' rfl hc182 ?_
   refine WC.exit ?_
   refine DN.exitThen ?_
   refine DN.exitThen ?_
   obtain rfl := Option.some.inj h
   have h := hk196
   refine DN.hit ?_
   obtain rfl := Option.some.inj h
   exact DN.meet _ ⟨K191, (s7 : (List Int)), las7_0, lus7_0, rfl, S192.wk rfl, f193, f194, rfl⟩ fun a ha => (ha.more (ha.more (ha.more (ha.more (ha.more ha.nil rfl) rfl) rfl) rfl) rfl)
  ·
   obtain ⟨o182, h, hk196⟩ := Option.bind_eq_some_iff.mp h; unfold i_tidied_b4 at h
   have hc182 : decide (v75 < (p0.Next.length : Int)) = true := decide_eq_true (by omega)
   refine WC.seq ?_
   refine WC.rs [(0, 2)] rfl ?_
   refine WO.pn 1 rfl ?_
   refine WO.fin ?_
   refine DN.seq ?_
   refine WC.seq ?_
   refine WC.ct' rfl hc182 ?_
   refine WC.skip ?_
   refine DN.seq ?_
   refine WC.seq ?_
   refine WC.block ?_
   refine WC.seq ?_
   refine WC.rs [(0, 2), (1, 1), (2, 2)] rfl ?_
   obtain ⟨x77, hx77, h⟩ := Option.bind_eq_some_iff.mp h
   refine WO.k2 rfl rfl rfl rfl (rn_index g0_2 hx77 Try.runUnderlying24 Try.sizeOf2 rfl rfl rfl rfl) ?_
   have f197 := g0_2.stp (S3.tr (S7.tr (S19.tr (S30.tr (S34.tr (S37.tr (S44.tr (S74.tr (S161.tr (S164.tr (S168.tr (S172.tr (S176.tr (S179.tr S192)))))))))))))) rfl rfl
   refine WO.k1 trivial rfl rfl rfl rfl (rn_ld Try.isAgg2 rfl rfl (hvE (f197.gInt hx77))) ?_
   refine WO.pn 1 rfl ?_
   refine WO.fin ?_
   refine DN.seq ?_
   refine WC.rx (κ := K191) [13] (some 8) [(0, 2), (2, 2), (3, 2), (1, 0), (4, 1), (5, 1), (6, 1), (7, 2)] [(8, 1)] (by kernel_rfl) (by kernel_rfl) fun w199 S198 => ?_
   refine WO.k2 rfl rfl rfl rfl (rn_fieldAddr Try.runUnderlying27 rfl Try.sizeOf24 rfl rfl) ?_
   refine WO.pn 2 rfl ?_
   have f200 := f194.stp S198 rfl rfl
   refine WO.k0 rfl rfl rfl rfl (rn_ld Try.isAgg24 rfl rfl (hvC (f200.ld 2 rfl rfl) rfl)) ?_
   obtain ⟨x83, hx83, h⟩ := Option.bind_eq_some_iff.mp h
   have f201 := f75.stp (S161.tr (S164.tr (S168.tr (S172.tr (S176.tr (S179.tr (S192.tr S198))))))) rfl rfl
   have f202 := f80.stp (S161.tr (S164.tr (S168.tr (S172.tr (S176.tr (S179.tr (S192.tr S198))))))) rfl rfl
   refine WO.callV rfl rfl rfl rfl rfl rfl rfl rfl Try.call67 (i_tidied_1_ok (κ := fun b => mp [] 0 (K191 b)) (Sl.map f201.rdc (mp [] 0) rfl rfl) (f202.map (mp [] 0) rfl rfl) hx83) ?_
   rintro _ w203 ⟨k204, rfl, e205⟩
   obtain ⟨K206, S207, m208⟩ := Ent.mixed (l := []) (κ := K191) e205 16 rfl
   refine ⟨(S207.cl rfl), ?_⟩
   refine WO.bl (κ := K206) (E := (Ep.int .i64)) 18 [] (parts := [(0, .tmp 83)]) (cells := [.int .i64 x83]) (xs := ([x83] : List Int)) rfl rfl rfl rfl rfl rfl Try.underlying24 Tryinfo2 rfl rfl rfl rfl rfl rfl rfl rfl rfl rfl ⟨[.int .i64 x83], [], Zl K206 w203 [], Zl K206 w203 [], rfl, Zl.sp (l1 := []) (l2 := []) rfl, Zl.sr (l1 := []) (l2 := []), rfl, rfl⟩ fun a84 u84 w210 K211 S212 f213 => ⟨((S207.tr S212).cl rfl), ?_⟩
   obtain ⟨x85, hx85, h⟩ := Option.bind_eq_some_iff.mp h
   have f214 := f193.stp (S198.tr (S207.tr S212)) rfl rfl
   refine WO.app (κ := K211) (E := (Ep.int .i64)) 14 [] rfl rfl rfl rfl rfl rfl rfl rfl rfl Try.underlying24 Tryinfo2 rfl rfl rfl rfl f214 (Sl.srcP (pu_int _) f213.rdc) sy_false hx85 rfl fun a85 u85 w215 K216 S217 f218 => ⟨((S207.tr (S212.tr S217)).cl rfl), ?_⟩
   refine WO.k2 rfl rfl rfl rfl (rn_fieldAddr Try.runUnderlying27 rfl Try.sizeOf24 rfl rfl) ?_
   refine WO.nx ?_
   have f219 := f200.stp (S207.tr (S212.tr S217)) rfl rfl
   refine WO.stB (κ := K216) 13 (off := 2) (vc := [.slice a85 x85.length u85]) (cs' := [.int .i64 x24.c.Inputs, .int .i64 x24.c.Latches, .slice a85 x85.length u85, .slice las6_1 s6.2.1.length lus6_1, .slice a69 ([] : List Int).length u69]) rfl rfl rfl rfl rfl rfl rfl Try.sizeOf24 rfl rfl f219 rfl rfl fun w220 S221 f222 => ⟨trivial, ?_⟩
   refine WO.fin ?_
   refine DN.block ?_
   refine DN.seq ?_
   refine WC.rs [(0, 2), (1, 2)] rfl ?_
   refine WO.pn 2 rfl ?_
   refine WO.fin ?_
   have hw182 : IntKind.wrap .i64 (v75 + 1) = v75 + 1 := wr1 hj182 (of_decide_eq_true hc182) hN182
   rw [hw182]
   have hc182 := of_decide_eq_true hc182
   have f223 := f218.stp S221 rfl rfl
   obtain rfl := Option.some.inj h
   refine DN.round fun a ha => ?_
   exact ⟨k, _, Nat.lt_succ_self _, ⟨K216, v75 + 1, (x85 : (List Int)), a85, u85, rfl, (S192.tr (S198.tr (S207.tr (S212.tr (S217.tr S221))))).wk rfl, f223, f222, by omega, by omega, hk196⟩, (ha.more (ha.more (ha.more (ha.more (ha.more (ha.more (ha.more (ha.more ha.nil rfl) rfl) rfl) rfl) rfl) rfl) rfl) rfl)⟩
 rintro _ w185 ⟨K186, s9, las9_0, lus9_0, rfl, S187, f188, f189, rfl⟩
 have h := hK183
 dsimp only [aft] at h
 refine DN.seq ?_
 refine WC.seq ?_
 refine WC.seq ?_
 refine WC.rs [(0, 2), (1, 1), (2, 2), (3, 2)] rfl ?_
 refine WO.k2 rfl rfl rfl rfl (rn_fieldAddr Try.runUnderlying27 rfl Try.sizeOf24 rfl rfl) ?_
 have f224 := f181.stp S187 rfl rfl
 refine WO.k1 trivial rfl rfl rfl rfl (rn_ld Try.isAgg24 rfl rfl (hvE (f224.ld 4 rfl rfl))) ?_
 refine WO.k2 rfl rfl rfl rfl (rn_len Try.runUnderlying24 rfl rfl) ?_
 refine WO.pn 1 rfl ?_
 refine WO.fin ?_
 refine DN.seq ?_
 have hN225 : (p0.Outs.length : Int) ≤ 9223372036854775807 := g0_4.len_le
 obtain ⟨q11, hq227, hK226⟩ := Option.bind_eq_some_iff.mp h
 clear h
 refine WC.meet (fun L w' => ∃ (κ' : Col) (s12 : (List Int)) (las12_0 : Option Addr) (lus12_0 : Nat), L = [(2, .pointer (some ⟨b2, 0, none⟩)), (4, .int .i64 (IntKind.i64.wrap ((IntKind.i64.wrap (1 + p0.Inputs)) + p0.Latches))), (10, .pointer (some ⟨b10, 0, none⟩))] ∧ Stp [13, 15] K186 w185 κ' w' ∧ Oc (Ep.int .i64) 2 κ' w' 15 las12_0 lus12_0 s12 ∧ Bc κ' w' 13 b10 27 [.int .i64 x24.c.Inputs, .int .i64 x24.c.Latches, .slice las9_0 s9.length lus9_0, .slice las6_1 s6.2.1.length lus6_1, .slice las12_0 s12.length lus12_0] ∧ q11 = Sum.inr s12) ?_ ?_
 ·
  refine WC.block ?_
  have f238 := f173.stp (S176.tr (S179.tr S187)) rfl rfl
  refine WC.loop (fun k L w' => ∃ (κ' : Col) (v91 : Int) (s10 : (List Int)) (las10_0 : Option Addr) (lus10_0 : Nat), L = [(2, .pointer (some ⟨b2, 0, none⟩)), (4, .int .i64 (IntKind.i64.wrap ((IntKind.i64.wrap (1 + p0.Inputs)) + p0.Latches))), (7, .func (.func 67) #[] #[.pointer (some ⟨b5, 0, none⟩)]), (10, .pointer (some ⟨b10, 0, none⟩)), (89, .slice a0_4 p0.Outs.length u0_4), (90, .int .i64 (p0.Outs.length : Int)), (91, .int .i64 v91)] ∧ Stp [13, 15] K186 w185 κ' w' ∧ Oc (Ep.int .i64) 2 κ' w' 15 las10_0 lus10_0 s10 ∧ Bc κ' w' 13 b10 27 [.int .i64 x24.c.Inputs, .int .i64 x24.c.Latches, .slice las9_0 s9.length lus9_0, .slice las6_1 s6.2.1.length lus6_1, .slice las10_0 s10.length lus10_0] ∧ 0 ≤ v91 ∧ Int.toNat ((p0.Outs.length : Int) - v91) = k ∧ cntM (i_tidied_b6 p0 s6) k v91 s10 = some q11) ⟨_, _, ⟨K186, 0, (([] : List Int) : (List Int)), a69, u69, rfl, (Stp.refl _ _).wk rfl, f238, f189, (by decide), (by simp), hq227⟩, fun a ha => (ha.more (ha.more (ha.more (ha.more (ha.more (ha.more (ha.more ha.nil rfl) rfl) rfl) rfl) rfl) rfl) rfl)⟩ ?_
  rintro k _ w233 ⟨K234, v91, s10, las10_0, lus10_0, rfl, S235, f236, f237, hj225, hJ225, h⟩
  rcases k with _ | k
  ·
   have hk239 := h; obtain ⟨o225, h⟩ := ex_eq (Sum.inr (Sum.inl s10) : Circuit ⊕ (((List Int)) ⊕ ((List Int))))
   have hc225 : decide (v91 < (p0.Outs.length : Int)) = false := decide_eq_false (by omega)
   refine WC.seq ?_
   refine WC.rs [(0, 2)] rfl ?_
   refine WO.pn 1 rfl ?_
   refine WO.fin ?_
   refine DN.seq ?_
   refine WC.seq ?_
   refine WC.cf' rfl hc225 ?_
   refine WC.exit ?_
   refine DN.exitThen ?_
   refine DN.exitThen ?_
   obtain rfl := Option.some.inj h
   have h := hk239
   refine DN.hit ?_
   obtain rfl := Option.some.inj h
   exact DN.meet _ ⟨K234, (s10 : (List Int)), las10_0, lus10_0, rfl, S235.wk rfl, f236, f237, rfl⟩ fun a ha => (ha.more (ha.more (ha.more ha.nil rfl) rfl) rfl)
  ·
   obtain ⟨o225, h, hk239⟩ := Option.bind_eq_some_iff.mp h; unfold i_tidied_b6 at h
   have hc225 : decide (v91 < (p0.Outs.length : Int)) = true := decide_eq_true (by omega)
   refine WC.seq ?_
   refine WC.rs [(0, 2)] rfl ?_
   refine WO.pn 1 rfl ?_
   refine WO.fin ?_
   refine DN.seq ?_
   refine WC.seq ?_
   refine WC.ct' rfl hc225 ?_
   refine WC.skip ?_
   refine DN.seq ?_
   refine WC.seq ?_
   refine WC.block ?_
   refine WC.seq ?_
   refine WC.rs [(0, 2), (1, 1), (2, 2)] rfl ?_
   obtain ⟨x93, hx93, h⟩ := Option.bind_eq_some_iff.mp h
   refine WO.k2 rfl rfl rfl rfl (rn_index g0_4 hx93 Try.runUnderlying24 Try.sizeOf2 rfl rfl rfl rfl) ?_
   have f240 := g0_4.stp (S3.tr (S7.tr (S19.tr (S30.tr (S34.tr (S37.tr (S44.tr (S74.tr (S161.tr (S164.tr (S168.tr (S172.tr (S176.tr (S179.tr (S187.tr S235))))))))))))))) rfl rfl
   refine WO.k1 trivial rfl rfl rfl rfl (rn_ld Try.isAgg2 rfl rfl (hvE (f240.gInt hx93))) ?_
   refine WO.pn 1 rfl ?_
   refine WO.fin ?_
   refine DN.seq ?_
   refine WC.rx (κ := K234) [13] (some 8) [(0, 2), (2, 2), (3, 2), (1, 0), (4, 1), (5, 1), (6, 1), (7, 2)] [(8, 1)] (by kernel_rfl) (by kernel_rfl) fun w242 S241 => ?_
   refine WO.k2 rfl rfl rfl rfl (rn_fieldAddr Try.runUnderlying27 rfl Try.sizeOf24 rfl rfl) ?_
   refine WO.pn 2 rfl ?_
   have f243 := f237.stp S241 rfl rfl
   refine WO.k0 rfl rfl rfl rfl (rn_ld Try.isAgg24 rfl rfl (hvC (f243.ld 4 rfl rfl) rfl)) ?_
   obtain ⟨x99, hx99, h⟩ := Option.bind_eq_some_iff.mp h
   have f244 := f75.stp (S161.tr (S164.tr (S168.tr (S172.tr (S176.tr (S179.tr (S187.tr (S235.tr S241)))))))) rfl rfl
   have f245 := f80.stp (S161.tr (S164.tr (S168.tr (S172.tr (S176.tr (S179.tr (S187.tr (S235.tr S241)))))))) rfl rfl
   refine WO.callV rfl rfl rfl rfl rfl rfl rfl rfl Try.call67 (i_tidied_1_ok (κ := fun b => mp [] 0 (K234 b)) (Sl.map f244.rdc (mp [] 0) rfl rfl) (f245.map (mp [] 0) rfl rfl) hx99) ?_
   rintro _ w246 ⟨k247, rfl, e248⟩
   obtain ⟨K249, S250, m251⟩ := Ent.mixed (l := []) (κ := K234) e248 16 rfl
   refine ⟨(S250.cl rfl), ?_⟩
   refine WO.bl (κ := K249) (E := (Ep.int .i64)) 18 [] (parts := [(0, .tmp 99)]) (cells := [.int .i64 x99]) (xs := ([x99] : List Int)) rfl rfl rfl rfl rfl rfl Try.underlying24 Tryinfo2 rfl rfl rfl rfl rfl rfl rfl rfl rfl rfl ⟨[.int .i64 x99], [], Zl K249 w246 [], Zl K249 w246 [], rfl, Zl.sp (l1 := []) (l2 := []) rfl, Zl.sr (l1 := []) (l2 := []), rfl, rfl⟩ fun a100 u100 w253 K254 S255 f256 => ⟨((S250.tr S255).cl rfl), ?_⟩
   obtain ⟨x101, hx101, h⟩ := Option.bind_eq_some_iff.mp h
   have f257 := f236.stp (S241.tr (S250.tr S255)) rfl rfl
   refine WO.app (κ := K254) (E := (Ep.int .i64)) 15 [] rfl rfl rfl rfl rfl rfl rfl rfl rfl Try.underlying24 Tryinfo2 rfl rfl rfl rfl f257 (Sl.srcP (pu_int _) f256.rdc) sy_false hx101 rfl fun a101 u101 w258 K259 S260 f261 => ⟨((S250.tr (S255.tr S260)).cl rfl), ?_⟩
   refine WO.k2 rfl rfl rfl rfl (rn_fieldAddr Try.runUnderlying27 rfl Try.sizeOf24 rfl rfl) ?_
   refine WO.nx ?_
   have f262 := f243.stp (S250.tr (S255.tr S260)) rfl rfl
   refine WO.stB (κ := K259) 13 (off := 4) (vc := [.slice a101 x101.length u101]) (cs' := [.int .i64 x24.c.Inputs, .int .i64 x24.c.Latches, .slice las9_0 s9.length lus9_0, .slice las6_1 s6.2.1.length lus6_1, .slice a101 x101.length u101]) rfl rfl rfl rfl rfl rfl rfl Try.sizeOf24 rfl rfl f262 rfl rfl fun w263 S264 f265 => ⟨trivial, ?_⟩
   refine WO.fin ?_
   refine DN.block ?_
   refine DN.seq ?_
   refine WC.rs [(0, 2), (1, 2)] rfl ?_
   refine WO.pn 2 rfl ?_
   refine WO.fin ?_
   have hw225 : IntKind.wrap .i64 (v91 + 1) = v91 + 1 := wr1 hj225 (of_decide_eq_true hc225) hN225
   rw [hw225]
   have hc225 := of_decide_eq_true hc225
   have f266 := f261.stp S264 rfl rfl
   obtain rfl := Option.some.inj h
   refine DN.round fun a ha => ?_
   exact ⟨k, _, Nat.lt_succ_self _, ⟨K259, v91 + 1, (x101 : (List Int)), a101, u101, rfl, (S235.tr (S241.tr (S250.tr (S255.tr (S260.tr S264))))).wk rfl, f266, f265, by omega, by omega, hk239⟩, (ha.more (ha.more (ha.more (ha.more (ha.more (ha.more (ha.more ha.nil rfl) rfl) rfl) rfl) rfl) rfl) rfl)⟩
 rintro _ w228 ⟨K229, s12, las12_0, lus12_0, rfl, S230, f231, f232, rfl⟩
 have h := hK226
 dsimp only [aft] at h
 refine DN.seq ?_
 refine WC.seq ?_
 refine WC.rs [(0, 1), (1, 1), (2, 1), (3, 2)] rfl ?_
 refine WO.k1 trivial rfl rfl rfl rfl (rn_la (cs := [.int .i64 x24.c.Inputs, .int .i64 x24.c.Latches, .slice las9_0 s9.length lus9_0, .slice las6_1 s6.2.1.length lus6_1, .slice las12_0 s12.length lus12_0]) Try.isAgg27 Try.sizeOf27 rfl rfl rfl (haE f232.cells)) ?_
 obtain ⟨x105, hx105, h⟩ := Option.bind_eq_some_iff.mp h
 have f267 := f188.stp S230 rfl rfl
 have f268 := f76.stp (S161.tr (S164.tr (S168.tr (S172.tr (S176.tr (S179.tr (S187.tr S230))))))) rfl rfl
 refine WO.call rfl rfl rfl rfl rfl rfl Try.call36 (i_signalsOf_ok (κ := fun b => mp [] 0 (K229 b)) (p0 := (⟨x24.c.Inputs, x24.c.Latches, s9, s6.2.1, s12⟩ : Circuit)) (Sl.map f267.rdc (mp [] 0) rfl rfl) (Sl.map f268.rdc (mp [] 0) rfl rfl) (Sl.map f231.rdc (mp [] 0) rfl rfl) hx105) ?_
 rintro _ w269 ⟨k270, rfl, e271⟩
 obtain ⟨K272, S273, m274⟩ := Ent.mixed (l := []) (κ := K229) e271 16 rfl
 refine ⟨trivial, ?_⟩
 obtain ⟨x106, hx106, h⟩ := Option.bind_eq_some_iff.mp h
 refine WO.mk (κ := K272) (E := Ep.bool) (z := (false : Bool)) 18 rfl rfl rfl rfl rfl rfl rfl Try.underlying77 Tryinfo4 rfl rfl rfl rfl rfl (fun _ _ _ => rfl) (mkS_C hx106) fun a106 u106 w276 K277 S278 f279 => ⟨trivial, ?_⟩
 refine WO.pn 1 rfl ?_
 refine WO.fin ?_
 refine DN.seq ?_
 refine WC.seq ?_
 refine WC.seq ?_
 refine WC.rx (κ := K277) [13] none [(1, 2), (4, 2), (8, 2), (2, 0), (5, 0), (0, 1), (3, 1), (6, 1), (7, 2)] [] (by kernel_rfl) (by kernel_rfl) fun w281 S280 => ?_
 refine WO.k2 rfl rfl rfl rfl (rn_fieldAddr Try.runUnderlying27 rfl Try.sizeOf24 rfl rfl) ?_
 refine WO.k2 rfl rfl rfl rfl (rn_fieldAddr Try.runUnderlying27 rfl Try.sizeOf24 rfl rfl) ?_
 refine WO.pn 1 rfl ?_
 have f282 := f232.stp (S273.tr (S278.tr S280)) rfl rfl
 refine WO.k0 rfl rfl rfl rfl (rn_ld Try.isAgg24 rfl rfl (hvC (f282.ld 2 rfl rfl) rfl)) ?_
 refine WO.k0 rfl rfl rfl rfl (rn_ld Try.isAgg24 rfl rfl (hvC (f282.ld 4 rfl rfl) rfl)) ?_
 refine WO.bl0 (κ := K277) (E := (Ep.int .i64)) 19 rfl rfl rfl rfl rfl Try.underlying24 Tryinfo2 rfl fun a107 u107 w283 K284 S285 f286 => ⟨(S285.cl rfl), ?_⟩
 obtain ⟨x110, hx110, h⟩ := Option.bind_eq_some_iff.mp h
 have f287 := f267.stp (S273.tr (S278.tr (S280.tr S285))) rfl rfl
 refine WO.app (κ := K284) (E := (Ep.int .i64)) 19 [] rfl rfl rfl rfl rfl rfl rfl rfl rfl Try.underlying24 Tryinfo2 rfl rfl rfl rfl f286 (Sl.srcP (pu_int _) f287.rdc) sy_false hx110 rfl fun a110 u110 w288 K289 S290 f291 => ⟨((S285.tr S290).cl rfl), ?_⟩
 obtain ⟨x113, hx113, h⟩ := Option.bind_eq_some_iff.mp h
 have f292 := f231.stp (S273.tr (S278.tr (S280.tr (S285.tr S290)))) rfl rfl
 refine WO.app (κ := K289) (E := (Ep.int .i64)) 19 [] rfl rfl rfl rfl rfl rfl rfl rfl rfl Try.underlying24 Tryinfo2 rfl rfl rfl rfl f291 (Sl.srcP (pu_int _) f292.rdc) sy_false hx113 rfl fun a113 u113 w293 K294 S295 f296 => ⟨((S285.tr (S290.tr S295)).cl rfl), ?_⟩
 refine WO.k2 rfl rfl rfl rfl (rn_len Try.runUnderlying24 rfl rfl) ?_
 refine WO.nx ?_
 refine WO.fin ?_
 refine DN.seq ?_
 have hN297 : (x113.length : Int) ≤ 9223372036854775807 := f296.len_le
 obtain ⟨q14, hq299, hK298⟩ := Option.bind_eq_some_iff.mp h
 clear h
 refine WC.meet (fun L w' => ∃ (κ' : Col) (s15 : (List Bool)), L = [(2, .pointer (some ⟨b2, 0, none⟩)), (4, .int .i64 (IntKind.i64.wrap ((IntKind.i64.wrap (1 + p0.Inputs)) + p0.Latches))), (10, .pointer (some ⟨b10, 0, none⟩)), (15, .slice a106 x106.length u106)] ∧ Stp [18] K294 w293 κ' w' ∧ Oc Ep.bool 4 κ' w' 18 a106 u106 s15 ∧ x106.length = s15.length ∧ q14 = Sum.inr s15) ?_ ?_
 ·
  refine WC.block ?_
  have f310 := f279.stp (S280.tr (S285.tr (S290.tr S295))) rfl rfl
  refine WC.loop (fun k L w' => ∃ (κ' : Col) (v115 : Int) (s13 : (List Bool)), L = [(2, .pointer (some ⟨b2, 0, none⟩)), (4, .int .i64 (IntKind.i64.wrap ((IntKind.i64.wrap (1 + p0.Inputs)) + p0.Latches))), (10, .pointer (some ⟨b10, 0, none⟩)), (15, .slice a106 x106.length u106), (113, .slice a113 x113.length u113), (114, .int .i64 (x113.length : Int)), (115, .int .i64 v115)] ∧ Stp [18] K294 w293 κ' w' ∧ Oc Ep.bool 4 κ' w' 18 a106 u106 s13 ∧ x106.length = s13.length ∧ 0 ≤ v115 ∧ Int.toNat ((x113.length : Int) - v115) = k ∧ cntM (i_tidied_b8 x113) k v115 s13 = some q14) ⟨_, _, ⟨K294, 0, (x106 : (List Bool)), rfl, (Stp.refl _ _).wk rfl, f310, rfl, (by decide), (by simp), hq299⟩, fun a ha => (ha.more (ha.more (ha.more (ha.more (ha.more (ha.more (ha.more ha.nil rfl) rfl) rfl) rfl) rfl) rfl) rfl)⟩ ?_
  rintro k _ w305 ⟨K306, v115, s13, rfl, S307, f308, hn309, hj297, hJ297, h⟩
  rcases k with _ | k
  ·
   have hk311 := h; obtain ⟨o297, h⟩ := ex_eq (Sum.inr (Sum.inl s13) : Circuit ⊕ (((List Bool)) ⊕ ((List Bool))))
   have hc297 : decide (v115 < (x113.length : Int)) = false := decide_eq_false (by omega)
   refine WC.seq ?_
   refine WC.rs [(0, 2)] rfl ?_
   refine WO.pn 1 rfl ?_
   refine WO.fin ?_
   refine DN.seq ?_
   refine WC.seq ?_
   refine WC.cf' rfl hc297 ?_
   refine WC.exit ?_
   refine DN.exitThen ?_
   refine DN.exitThen ?_
   obtain rfl := Option.some.inj h
   have h := hk311
   refine DN.hit ?_
   obtain rfl := Option.some.inj h
   exact DN.meet _ ⟨K306, (s13 : (List Bool)), rfl, S307.wk rfl, f308, hn309, rfl⟩ fun a ha => (ha.more (ha.more (ha.more (ha.more ha.nil rfl) rfl) rfl) rfl)
  ·
   obtain ⟨o297, h, hk311⟩ := Option.bind_eq_some_iff.mp h; unfold i_tidied_b8 at h
   have hc297 : decide (v115 < (x113.length : Int)) = true := decide_eq_true (by omega)
   refine WC.seq ?_
   refine WC.rs [(0, 2)] rfl ?_
   refine WO.pn 1 rfl ?_
   refine WO.fin ?_
   refine DN.seq ?_
   refine WC.seq ?_
   refine WC.ct' rfl hc297 ?_
   refine WC.skip ?_
   refine DN.seq ?_
   refine WC.seq ?_
   refine WC.block ?_
   refine WC.seq ?_
   refine WC.rs [(0, 2), (1, 1), (2, 2)] rfl ?_
   obtain ⟨x117, hx117, h⟩ := Option.bind_eq_some_iff.mp h
   refine WO.k2 rfl rfl rfl rfl (rn_index f296.rdc hx117 Try.runUnderlying24 Try.sizeOf2 rfl rfl rfl rfl) ?_
   have f312 := f296.stp S307 rfl rfl
   refine WO.k1 trivial rfl rfl rfl rfl (rn_ld Try.isAgg2 rfl rfl (hvE (f312.rdc.gInt hx117))) ?_
   refine WO.pn 1 rfl ?_
   refine WO.fin ?_
   refine DN.seq ?_
   refine WC.rs [(0, 2), (1, 2), (2, 2), (3, 2), (4, 1)] rfl ?_
   refine WO.pn 2 rfl ?_
   refine WO.k2 rfl rfl rfl rfl (rn_quo rfl rfl rfl (by decide)) ?_
   obtain ⟨x122, hx122, h⟩ := Option.bind_eq_some_iff.mp h
   refine WO.k2 rfl rfl rfl rfl (rn_index f308.rdc hx122 Try.runUnderlying77 Try.sizeOf4 rfl rfl hn309 rfl) ?_
   obtain ⟨y25, hy25, h⟩ := Option.bind_eq_some_iff.mp h
   refine WO.stI (κ := K306) (E := Ep.bool) 18 [] rfl rfl rfl rfl rfl rfl rfl rfl Try.sizeOf4 rfl rfl rfl rfl f308 hy25 fun w313 K314 S315 f316 => ⟨trivial, ?_⟩
   have hn317 : x106.length = y25.length := hn309.trans (setI_ok hy25).2.2.2.symm
   refine WO.fin ?_
   refine DN.block ?_
   refine DN.seq ?_
   refine WC.rs [(0, 2), (1, 2)] rfl ?_
   refine WO.pn 2 rfl ?_
   refine WO.fin ?_
   have hw297 : IntKind.wrap .i64 (v115 + 1) = v115 + 1 := wr1 hj297 (of_decide_eq_true hc297) hN297
   rw [hw297]
   have hc297 := of_decide_eq_true hc297
   obtain rfl := Option.some.inj h
   refine DN.round fun a ha => ?_
   exact ⟨k, _, Nat.lt_succ_self _, ⟨K314, v115 + 1, (y25 : (List Bool)), rfl, (S307.tr S315).wk rfl, f316, hn317, by omega, by omega, hk311⟩, (ha.more (ha.more (ha.more (ha.more (ha.more (ha.more (ha.more ha.nil rfl) rfl) rfl) rfl) rfl) rfl) rfl)⟩
 rintro _ w300 ⟨K301, s15, rfl, S302, f303, hn304, rfl⟩
 have h := hK298
 dsimp only [aft] at h
 refine DN.seq ?_
 refine WC.seq ?_
 refine WC.seq ?_
 refine WC.rs [(0, 2), (1, 1), (2, 2), (3, 2), (4, 2)] rfl ?_
 refine WO.k2 rfl rfl rfl rfl (rn_fieldAddr Try.runUnderlying27 rfl Try.sizeOf25 rfl rfl) ?_
 have f318 := f282.stp (S285.tr (S290.tr (S295.tr S302))) rfl rfl
 refine WO.k1 trivial rfl rfl rfl rfl (rn_ld Try.isAgg25 rfl rfl (hvE (f318.ld 3 rfl rfl))) ?_
 refine WO.k2 rfl rfl rfl rfl (rn_len Try.runUnderlying25 rfl rfl) ?_
 refine WO.pn 2 rfl ?_
 refine WO.fin ?_
 refine DN.seq ?_
 obtain ⟨q17, hq321, hK320⟩ := Option.bind_eq_some_iff.mp h
 clear h
 refine WC.meet (fun L w' => ∃ (κ' : Col) (s18 : Int × (List Bool)), L = [(2, .pointer (some ⟨b2, 0, none⟩)), (10, .pointer (some ⟨b10, 0, none⟩)), (15, .slice a106 x106.length u106)] ∧ Stp [18] K301 w300 κ' w' ∧ Oc Ep.bool 4 κ' w' 18 a106 u106 s18.2 ∧ x106.length = s18.2.length ∧ q17 = Sum.inr s18) ?_ ?_
 ·
  refine WC.block ?_
  refine WC.loop (fun k L w' => ∃ (κ' : Col) (s16 : Int × (List Bool)), L = [(2, .pointer (some ⟨b2, 0, none⟩)), (4, .int .i64 (IntKind.i64.wrap ((IntKind.i64.wrap (1 + p0.Inputs)) + p0.Latches))), (10, .pointer (some ⟨b10, 0, none⟩)), (15, .slice a106 x106.length u106), (18, .int .i64 s16.1)] ∧ Stp [18] K301 w300 κ' w' ∧ Oc Ep.bool 4 κ' w' 18 a106 u106 s16.2 ∧ x106.length = s16.2.length ∧ whileM (i_tidied_b10 p0 s6) k s16 = some q17) ⟨_, _, ⟨K301, (((IntKind.i64.wrap ((s6.2.1.length : Int) - 1)) : Int), (s15 : (List Bool))), rfl, (Stp.refl _ _).wk rfl, f303, hn304, hq321⟩, fun a ha => (ha.more (ha.more (ha.more (ha.more (ha.more ha.nil rfl) rfl) rfl) rfl) rfl)⟩ ?_
  rintro k _ w327 ⟨K328, s16, rfl, S329, f330, hn331, h⟩
  rcases k with _ | k
  ·
   cases h
  ·
   obtain ⟨o319, h, hk332⟩ := Option.bind_eq_some_iff.mp h; unfold i_tidied_b10 at h
   refine WC.seq ?_
   refine WC.seq ?_
   refine WC.rs [(0, 2), (1, 2)] rfl ?_
   refine WO.pn 2 rfl ?_
   refine WO.fin ?_
   refine DN.seq ?_
   revert h
   cases ht333 : decide (0 ≤ s16.1) with
   | true =>
    intro h; replace h := cT h
    refine WC.ct rfl ?_
    refine WC.skip ?_
    refine DN.seq ?_
    refine WC.seq ?_
    refine WC.block ?_
    refine WC.seq ?_
    refine WC.rs [(0, 2), (1, 2), (2, 2), (3, 2), (4, 2), (5, 1)] rfl ?_
    refine WO.pn 4 rfl ?_
    obtain ⟨x136, hx136, h⟩ := Option.bind_eq_some_iff.mp h
    refine WO.k2 rfl rfl rfl rfl (rn_index f330.rdc hx136 Try.runUnderlying77 Try.sizeOf4 rfl rfl hn331 rfl) ?_
    refine WO.k1 trivial rfl rfl rfl rfl (rn_ld Try.isAgg4 rfl rfl (hvE (f330.rdc.gBool hx136))) ?_
    refine WO.fin ?_
    refine DN.seq ?_
    obtain ⟨q19, h, hK334⟩ := Option.bind_eq_some_iff.mp h
    refine WC.meet (fun L w' => ∃ (κ' : Col), L = [(2, .pointer (some ⟨b2, 0, none⟩)), (4, .int .i64 (IntKind.i64.wrap ((IntKind.i64.wrap (1 + p0.Inputs)) + p0.Latches))), (10, .pointer (some ⟨b10, 0, none⟩)), (15, .slice a106 x106.length u106), (18, .int .i64 s16.1)] ∧ Stp [18] K328 w327 κ' w' ∧ Oc Ep.bool 4 κ' w' 18 a106 u106 q19 ∧ x106.length = q19.length) ?_ ?_
    ·
     revert h
     cases ht340 : x136 with
     | true =>
      intro h; replace h := cT h
      refine WC.ct rfl ?_
      refine WC.seq ?_
      refine WC.rs [(0, 2), (1, 2), (2, 1), (3, 2), (4, 2), (5, 2), (6, 1), (7, 2), (8, 2), (9, 1)] rfl ?_
      refine WO.pn 1 rfl ?_
      refine WO.k2 rfl rfl rfl rfl (rn_fieldAddr Try.runUnderlying27 rfl Try.sizeOf25 rfl rfl) ?_
      have f341 := f318.stp S329 rfl rfl
      refine WO.k1 trivial rfl rfl rfl rfl (rn_ld Try.isAgg25 rfl rfl (hvE (f341.ld 3 rfl rfl))) ?_
      refine WO.pn 1 rfl ?_
      obtain ⟨x142, hx142, h⟩ := Option.bind_eq_some_iff.mp h
      refine WO.k2 rfl rfl rfl rfl (rn_index f268.rdc hx142 Try.runUnderlying25 Try.sizeOf33 rfl rfl rfl rfl) ?_
      refine WO.k2 rfl rfl rfl rfl (rn_fieldAddr Try.runUnderlying33 rfl Try.sizeOf2 rfl rfl) ?_
      have f342 := f268.stp (S273.tr (S278.tr (S280.tr (S285.tr (S290.tr (S295.tr (S302.tr S329))))))) rfl rfl
      obtain ⟨cse343, hre343, hle343⟩ := (f342.rdc).gSt hx142
      obtain rfl := Gate.un hre343
      refine WO.k1 trivial rfl rfl rfl rfl (rn_ld Try.isAgg2 rfl rfl (hvE (fun w' hw' => hle343 w' hw' 0 _ rfl))) ?_
      refine WO.k2 rfl rfl rfl rfl (rn_quo rfl rfl rfl (by decide)) ?_
      obtain ⟨x146, hx146, h⟩ := Option.bind_eq_some_iff.mp h
      refine WO.k2 rfl rfl rfl rfl (rn_index f330.rdc hx146 Try.runUnderlying77 Try.sizeOf4 rfl rfl hn331 rfl) ?_
      obtain ⟨y26, hy26, h⟩ := Option.bind_eq_some_iff.mp h
      refine WO.stI (κ := K328) (E := Ep.bool) 18 [] rfl rfl rfl rfl rfl rfl rfl rfl Try.sizeOf4 rfl rfl rfl rfl f330 hy26 fun w344 K345 S346 f347 => ⟨trivial, ?_⟩
      have hn348 : x106.length = y26.length := hn331.trans (setI_ok hy26).2.2.2.symm
      refine WO.fin ?_
      refine DN.seq ?_
      refine WC.rs [(0, 2), (1, 2), (2, 1), (3, 2), (4, 2), (5, 2), (6, 1), (7, 2), (8, 2), (9, 1)] rfl ?_
      refine WO.pn 1 rfl ?_
      refine WO.k2 rfl rfl rfl rfl (rn_fieldAddr Try.runUnderlying27 rfl Try.sizeOf25 rfl rfl) ?_
      have f349 := f341.stp S346 rfl rfl
      refine WO.k1 trivial rfl rfl rfl rfl (rn_ld Try.isAgg25 rfl rfl (hvE (f349.ld 3 rfl rfl))) ?_
      refine WO.pn 1 rfl ?_
      obtain ⟨x151, hx151, h⟩ := Option.bind_eq_some_iff.mp h
      refine WO.k2 rfl rfl rfl rfl (rn_index f342.rdc hx151 Try.runUnderlying25 Try.sizeOf33 rfl rfl rfl rfl) ?_
      refine WO.k2 rfl rfl rfl rfl (rn_fieldAddr Try.runUnderlying33 rfl Try.sizeOf2 rfl rfl) ?_
      have f350 := f342.stp S346 rfl rfl
      obtain ⟨cse351, hre351, hle351⟩ := (f350.rdc).gSt hx151
      obtain rfl := Gate.un hre351
      refine WO.k1 trivial rfl rfl rfl rfl (rn_ld Try.isAgg2 rfl rfl (hvE (fun w' hw' => hle351 w' hw' 1 _ rfl))) ?_
      refine WO.k2 rfl rfl rfl rfl (rn_quo rfl rfl rfl (by decide)) ?_
      obtain ⟨x155, hx155, h⟩ := Option.bind_eq_some_iff.mp h
      refine WO.k2 rfl rfl rfl rfl (rn_index f347.rdc hx155 Try.runUnderlying77 Try.sizeOf4 rfl rfl hn348 rfl) ?_
      obtain ⟨y27, hy27, h⟩ := Option.bind_eq_some_iff.mp h
      refine WO.stI (κ := K345) (E := Ep.bool) 18 [] rfl rfl rfl rfl rfl rfl rfl rfl Try.sizeOf4 rfl rfl rfl rfl f347 hy27 fun w352 K353 S354 f355 => ⟨trivial, ?_⟩
      have hn356 : x106.length = y27.length := hn348.trans (setI_ok hy27).2.2.2.symm
      refine WO.fin ?_
      obtain rfl := Option.some.inj h
      exact DN.meet _ ⟨K353, rfl, (S346.tr S354).wk rfl, f355, hn356⟩ fun a ha => (ha.more (ha.more (ha.more (ha.more (ha.more ha.nil rfl) rfl) rfl) rfl) rfl)
     | false =>
      intro h; replace h := cF h
      refine WC.cf rfl ?_
      refine WC.skip ?_
      obtain rfl := Option.some.inj h
      exact DN.meet _ ⟨K328, rfl, (Stp.refl _ _).wk rfl, f330, hn331⟩ fun a ha => (ha.more (ha.more (ha.more (ha.more (ha.more ha.nil rfl) rfl) rfl) rfl) rfl)
    rintro _ w335 ⟨K336, rfl, S337, f338, hn339⟩
    have h := hK334
    refine DN.block ?_
    refine DN.seq ?_
    refine WC.rs [(0, 2), (1, 2), (2, 2)] rfl ?_
    refine WO.pn 3 rfl ?_
    refine WO.fin ?_
    obtain rfl := Option.some.inj h
    refine DN.round fun a ha => ?_
    exact ⟨k, _, Nat.lt_succ_self _, ⟨K336, (((IntKind.i64.wrap (s16.1 - 1)) : Int), (q19 : (List Bool))), rfl, (S329.tr S337).wk rfl, f338, hn339, hk332⟩, (ha.more (ha.more (ha.more (ha.more (ha.more ha.nil rfl) rfl) rfl) rfl) rfl)⟩
   | false =>
    intro h; replace h := cF h
    refine WC.cf rfl ?_
    refine WC.exit ?_
    refine DN.exitThen ?_
    refine DN.exitThen ?_
    obtain rfl := Option.some.inj h
    have h := hk332
    refine DN.hit ?_
    obtain rfl := Option.some.inj h
    exact DN.meet _ ⟨K328, ((s16.1 : Int), (s16.2 : (List Bool))), rfl, S329.wk rfl, f330, hn331, rfl⟩ fun a ha => (ha.more (ha.more (ha.more ha.nil rfl) rfl) rfl)
 rintro _ w322 ⟨K323, s18, rfl, S324, f325, hn326, rfl⟩
 have h := hK320
 dsimp only [aft] at h
 refine DN.seq ?_
 refine WC.seq ?_
 refine WC.rs [(0, 1), (1, 2), (2, 1), (3, 1)] rfl ?_
 have f357 := f318.stp S324 rfl rfl
 refine WO.k1 trivial rfl rfl rfl rfl (rn_la (cs := [.int .i64 x24.c.Inputs, .int .i64 x24.c.Latches, .slice las9_0 s9.length lus9_0, .slice las6_1 s6.2.1.length lus6_1, .slice las12_0 s12.length lus12_0]) Try.isAgg27 Try.sizeOf27 rfl rfl rfl (haE f357.cells)) ?_
 refine WO.pn 1 rfl ?_
 obtain ⟨x158, hx158, h⟩ := Option.bind_eq_some_iff.mp h
 have f358 := f287.stp (S290.tr (S295.tr (S302.tr S324))) rfl rfl
 have f359 := f268.stp (S273.tr (S278.tr (S280.tr (S285.tr (S290.tr (S295.tr (S302.tr S324))))))) rfl rfl
 have f360 := f292.stp (S295.tr (S302.tr S324)) rfl rfl
 refine WO.call rfl rfl rfl rfl rfl rfl Try.call68 (Ret.cast (by simp only [hn326, List.cons_append, List.nil_append]) (i_withoutUnused_ok (κ := fun b => mp [] 0 (K323 b)) (p0 := (⟨x24.c.Inputs, x24.c.Latches, s9, s6.2.1, s12⟩ : Circuit)) (Sl.map f358.rdc (mp [] 0) rfl rfl) (Sl.map f359.rdc (mp [] 0) rfl rfl) (Sl.map f360.rdc (mp [] 0) rfl rfl) (Sl.map f325.rdc (mp [] 0) rfl rfl) hx158)) ?_
 rintro _ w361 ⟨k362, a158_0, u158_0, a158_1, u158_1, a158_2, u158_2, rfl, e363, f364, f365, f366⟩
 obtain ⟨K367, S368, m369⟩ := Ent.mixed (l := []) (κ := K323) e363 20 rfl
 refine ⟨trivial, ?_⟩
 have f371 := f364.mx (no_int _) m369 rfl (rfl : 20 + 2 = 22)
 have f372 := f365.mx Gate.no33 m369 rfl (rfl : 20 + 3 = 23)
 have f373 := f366.mx (no_int _) m369 rfl (rfl : 20 + 4 = 24)
 have f374 := f8.stp (S19.tr (S30.tr (S34.tr (S37.tr (S44.tr (S74.tr (S161.tr (S164.tr (S168.tr (S172.tr (S176.tr (S179.tr (S187.tr (S230.tr (S273.tr (S278.tr (S280.tr (S285.tr (S290.tr (S295.tr (S302.tr (S324.tr S368)))))))))))))))))))))) rfl rfl
 refine WO.stB0 (κ := K367) 3 (vc := [.int .i64 x158.Inputs, .int .i64 x158.Latches, .slice a158_0 x158.Next.length u158_0, .slice a158_1 x158.Gates.length u158_1, .slice a158_2 x158.Outs.length u158_2]) rfl rfl rfl rfl rfl rfl rfl Try.sizeOf27 rfl rfl f374 rfl fun w375 S376 f377 => ⟨trivial, ?_⟩
 refine WO.fin ?_
 refine DN.seq ?_
 refine WC.ret ?_
 have f378 := hE.stp (S3.tr (S7.tr (S19.tr (S30.tr (S34.tr (S37.tr (S44.tr (S74.tr (S161.tr (S164.tr (S168.tr (S172.tr (S176.tr (S179.tr (S187.tr (S230.tr (S273.tr (S278.tr (S280.tr (S285.tr (S290.tr (S295.tr (S302.tr (S324.tr (S368.tr S376))))))))))))))))))))))))) rfl rfl
 have f379 := f371.stp S376 rfl rfl
 have f380 := f372.stp S376 rfl rfl
 have f381 := f373.stp S376 rfl rfl
 refine DN.res (l := [.cell 2 27]) Try.results32 (res_cellA rfl f377 Try.isAgg27 Try.sizeOf27 rfl rfl) rfl ?_
 obtain rfl := Option.some.inj h
 exact ⟨(fun b => ren [(22, 2), (23, 3), (24, 4)] (K367 b)), a158_0, u158_0, a158_1, u158_1, a158_2, u158_2, rfl, (f378.map (ren [(22, 2), (23, 3), (24, 4)]) rfl rfl), (f379.map (ren [(22, 2), (23, 3), (24, 4)]) rfl rfl), (f380.map (ren [(22, 2), (23, 3), (24, 4)]) rfl rfl), (f381.map (ren [(22, 2), (23, 3), (24, 4)]) rfl rfl)⟩

/- loop.example/g00869/spec.l31Choose -/
theorem s_l31Choose_ok {w : World} {κ : Col} {a0_2 : Option Addr} {u0_2 : Nat} {a0_3 : Option Addr} {u0_3 : Nat} {a0_4 : Option Addr} {u0_4 : Nat} {p0 : Circuit} {p1 : Int} {p2 : Int} {p3 : Int} (g0_2 : Rd (Rp.int .i64) κ w 0 a0_2 u0_2 p0.Next) (g0_3 : Oc Gate.ep33 33 κ w 2 a0_3 u0_3 p0.Gates) (g0_4 : Rd (Rp.int .i64) κ w 0 a0_4 u0_4 p0.Outs) {r : Circuit × Int} (h : s_l31Choose p0 p1 p2 p3 = some r) : Ret Try.prog 48 [.agg #[.int .i64 p0.Inputs, .int .i64 p0.Latches, .slice a0_2 p0.Next.length u0_2, .slice a0_3 p0.Gates.length u0_3, .slice a0_4 p0.Outs.length u0_4], .int .i64 p1, .int .i64 p2, .int .i64 p3] w (fun v w' => ∃ (κ' : Col) (ra0 : Option Addr) (ru0 : Nat) (ra1 : Option Addr) (ru1 : Nat) (ra2 : Option Addr) (ru2 : Nat), v = .tuple #[.agg #[.int .i64 r.1.Inputs, .int .i64 r.1.Latches, .slice ra0 r.1.Next.length ru0, .slice ra1 r.1.Gates.length ru1, .slice ra2 r.1.Outs.length ru2], .int .i64 r.2] ∧ Ent κ w κ' w' ∧ Rd (Rp.int .i64) κ' w' 0 ra0 ru0 r.1.Next ∧ Oc Gate.ep33 33 κ' w' 4 ra1 ru1 r.1.Gates ∧ Rd (Rp.int .i64) κ' w' 0 ra2 ru2 r.1.Outs) := by
 unfold s_l31Choose at h
 refine Ret.enter Try.func48 rfl Try.ntmps48 rfl ?_
 dsimp only [envOf]
 have hE := Ent.refl κ w
 refine WC.seq ?_
 refine WC.rs [(0, 1), (1, 1), (2, 2)] rfl ?_
 refine WO.box (κ := κ) 3 rfl rfl rfl rfl rfl rfl rfl fun b4 w1 K2 S3 f4 => ⟨trivial, ?_⟩
 refine WO.alloc (κ := K2) 4 rfl rfl rfl rfl rfl Try.zeroValue27 rfl fun b8 w5 K6 S7 f8 => ⟨trivial, ?_⟩
 refine WO.pn 1 rfl ?_
 refine WO.fin ?_
 refine DN.seq ?_
 refine WC.seq ?_
 refine WC.seq ?_
 refine WC.rs [(0, 2), (1, 2), (2, 2)] rfl ?_
 refine WO.pn 3 rfl ?_
 refine WO.fin ?_
 refine DN.seq ?_
 revert h
 cases ht9 : (p2 == p3) with
 | true =>
  intro h; replace h := cT h
  refine WC.ct rfl ?_
  refine WC.seq ?_
  refine WC.rs [(0, 1), (1, 2), (2, 1), (3, 2)] rfl ?_
  have f10 := f4.stp S7 rfl rfl
  refine WO.k1 trivial rfl rfl rfl rfl (rn_la (cs := [.int .i64 p0.Inputs, .int .i64 p0.Latches, .slice a0_2 p0.Next.length u0_2, .slice a0_3 p0.Gates.length u0_3, .slice a0_4 p0.Outs.length u0_4]) Try.isAgg27 Try.sizeOf27 rfl rfl rfl (haE f10.cells)) ?_
  refine WO.pn 1 rfl ?_
  refine WO.stB0 (κ := K6) 4 (vc := [.int .i64 p0.Inputs, .int .i64 p0.Latches, .slice a0_2 p0.Next.length u0_2, .slice a0_3 p0.Gates.length u0_3, .slice a0_4 p0.Outs.length u0_4]) rfl rfl rfl rfl rfl rfl rfl Try.sizeOf27 rfl rfl f8 rfl fun w11 S12 f13 => ⟨trivial, ?_⟩
  refine WO.pn 1 rfl ?_
  refine WO.fin ?_
  refine DN.seq ?_
  refine WC.ret ?_
  refine DN.retThen ?_
  have f14 := hE.stp (S3.tr (S7.tr S12)) rfl rfl
  have f15 := g0_2.stp (S3.tr (S7.tr S12)) rfl rfl
  have f16 := g0_3.stp (S3.tr (S7.tr S12)) rfl rfl
  have f17 := g0_4.stp (S3.tr (S7.tr S12)) rfl rfl
  refine DN.res (l := [.cell 8 27, .tmp 9]) Try.results48 (res_cellA rfl f13 Try.isAgg27 Try.sizeOf27 rfl (res_tmp rfl rfl)) rfl ?_
  obtain rfl := Option.some.inj h
  exact ⟨(fun b => ren [(2, 4)] (K6 b)), a0_2, u0_2, a0_3, u0_3, a0_4, u0_4, rfl, (f14.map (ren [(2, 4)]) rfl rfl), (f15.map (ren [(2, 4)]) rfl rfl), (f16.map (ren [(2, 4)]) rfl rfl), (f17.map (ren [(2, 4)]) rfl rfl)⟩
 | false =>
  intro h; replace h := cF h
  refine WC.cf rfl ?_
  refine WC.skip ?_
  refine DN.seq ?_
  refine WC.seq ?_
  refine WC.rs [(0, 1), (1, 2), (2, 2), (3, 1), (4, 2), (5, 2), (6, 2), (7, 1), (8, 2)] rfl ?_
  have f18 := f4.stp S7 rfl rfl
  refine WO.k1 trivial rfl rfl rfl rfl (rn_la (cs := [.int .i64 p0.Inputs, .int .i64 p0.Latches, .slice a0_2 p0.Next.length u0_2, .slice a0_3 p0.Gates.length u0_3, .slice a0_4 p0.Outs.length u0_4]) Try.isAgg27 Try.sizeOf27 rfl rfl rfl (haE f18.cells)) ?_
  refine WO.pn 2 rfl ?_
  obtain ⟨x22, hx22, h⟩ := Option.bind_eq_some_iff.mp h
  have f19 := g0_2.stp (S3.tr S7) rfl rfl
  have f20 := g0_3.stp (S3.tr S7) rfl rfl
  have f21 := g0_4.stp (S3.tr S7) rfl rfl
  refine WO.call rfl rfl rfl rfl rfl rfl Try.call46 (s_l31Join_ok (κ := fun b => mp [(2, 2)] 1 (K6 b)) (p0 := p0) (Sl.map f19 (mp [(2, 2)] 1) rfl rfl) (f20.map (mp [(2, 2)] 1) rfl rfl) (Sl.map f21 (mp [(2, 2)] 1) rfl rfl) hx22) ?_
  rintro _ w22 ⟨k23, a22_0, u22_0, a22_1, u22_1, a22_2, u22_2, rfl, e24, f25, f26, f27⟩
  obtain ⟨K28, S29, m30, z31⟩ := Ent.mixed0 (l := [(2, 2)]) (κ := K6) e24 5 rfl
  refine ⟨trivial, ?_⟩
  have f32 := f25.mx z31
  have f33 := f26.mx Gate.no33 m30 rfl (rfl : 5 + 4 = 9)
  have f34 := f27.mx z31
  refine WO.pn 3 rfl ?_
  have f35 := f18.stp S29 rfl rfl
  refine WO.stB0 (κ := K28) 3 (vc := [.int .i64 x22.1.Inputs, .int .i64 x22.1.Latches, .slice a22_0 x22.1.Next.length u22_0, .slice a22_1 x22.1.Gates.length u22_1, .slice a22_2 x22.1.Outs.length u22_2]) rfl rfl rfl rfl rfl rfl rfl Try.sizeOf27 rfl rfl f35 rfl fun w36 S37 f38 => ⟨trivial, ?_⟩
  refine WO.pn 1 rfl ?_
  refine WO.fin ?_
  refine DN.seq ?_
  refine WC.seq ?_
  refine WC.seq ?_
  refine WC.rs [(0, 2), (1, 2)] rfl ?_
  refine WO.pn 2 rfl ?_
  refine WO.fin ?_
  refine DN.seq ?_
  revert h
  cases ht39 : decide (x22.2 < 0) with
  | true =>
   intro h; replace h := cT h
   refine WC.ct rfl ?_
   refine WC.seq ?_
   refine WC.rs [(0, 2), (1, 1), (2, 2)] rfl ?_
   refine WO.k2 rfl rfl rfl rfl (rn_build (parts := []) (cells := [.int .i64 0, .int .i64 0, .slice none 0 0, .slice none 0 0, .slice none 0 0]) rfl rfl (by kernel_rfl)) ?_
   have f40 := f8.stp (S29.tr S37) rfl rfl
   refine WO.stB0 (κ := K28) 4 (vc := [.int .i64 0, .int .i64 0, .slice none 0 0, .slice none 0 0, .slice none 0 0]) rfl rfl rfl rfl rfl rfl rfl Try.sizeOf27 rfl rfl f40 rfl fun w41 S42 f43 => ⟨trivial, ?_⟩
   refine WO.pn 1 rfl ?_
   refine WO.fin ?_
   refine DN.seq ?_
   refine WC.ret ?_
   refine DN.retThen ?_
   have f44 := hE.stp (S3.tr (S7.tr (S29.tr (S37.tr S42)))) rfl rfl
   refine DN.res (l := [.cell 8 27, .tmp 9]) Try.results48 (res_cellA rfl f43 Try.isAgg27 Try.sizeOf27 rfl (res_tmp rfl rfl)) rfl ?_
   obtain rfl := Option.some.inj h
   exact ⟨K28, none, 0, none, 0, none, 0, rfl, f44, Sl.nil, Ow.nil, Sl.nil⟩
  | false =>
   intro h; replace h := cF h
   refine WC.cf rfl ?_
   refine WC.skip ?_
   refine DN.seq ?_
   refine WC.seq ?_
   refine WC.rx (κ := K28) [3] (some 8) [(1, 2), (3, 2), (0, 0), (2, 1), (4, 1), (5, 2), (6, 2), (7, 2)] [(8, 1), (9, 2)] (by kernel_rfl) (by kernel_rfl) fun w46 S45 => ?_
   refine WO.pn 2 rfl ?_
   have f47 := f38.stp S45 rfl rfl
   refine WO.k0 rfl rfl rfl rfl (rn_la (cs := [.int .i64 x22.1.Inputs, .int .i64 x22.1.Latches, .slice a22_0 x22.1.Next.length u22_0, .slice a22_1 x22.1.Gates.length u22_1, .slice a22_2 x22.1.Outs.length u22_2]) Try.isAgg27 Try.sizeOf27 rfl rfl rfl (haC f47.cells rfl)) ?_
   obtain ⟨x31, hx31, h⟩ := Option.bind_eq_some_iff.mp h
   refine WO.call rfl rfl rfl rfl rfl rfl Try.call73 (s_l31Turn_ok (κ := fun b => mp [] 0 (K28 b)) hx31) ?_
   rintro _ w48 ⟨k49, rfl, e50⟩
   obtain ⟨K51, S52, m53⟩ := Ent.mixed (l := []) (κ := K28) e50 11 rfl
   refine ⟨(S52.cl rfl), ?_⟩
   obtain ⟨x33, hx33, h⟩ := Option.bind_eq_some_iff.mp h
   have f55 := f32.stp (S37.tr (S45.tr S52)) rfl rfl
   have f56 := f33.stp (S37.tr (S45.tr S52)) rfl rfl
   have f57 := f34.stp (S37.tr (S45.tr S52)) rfl rfl
   refine WO.call rfl rfl rfl rfl rfl rfl Try.call46 (s_l31Join_ok (κ := fun b => mp [(9, 2)] 1 (K51 b)) (p0 := x22.1) (Sl.map f55 (mp [(9, 2)] 1) rfl rfl) (f56.map (mp [(9, 2)] 1) rfl rfl) (Sl.map f57 (mp [(9, 2)] 1) rfl rfl) hx33) ?_
   rintro _ w58 ⟨k59, a33_0, u33_0, a33_1, u33_1, a33_2, u33_2, rfl, e60, f61, f62, f63⟩
   obtain ⟨K64, S65, m66, z67⟩ := Ent.mixed0 (l := [(9, 2)]) (κ := K51) e60 13 rfl
   refine ⟨((S52.tr S65).cl rfl), ?_⟩
   have f68 := f61.mx z67
   have f69 := f62.mx Gate.no33 m66 rfl (rfl : 13 + 4 = 17)
   have f70 := f63.mx z67
   refine WO.pn 3 rfl ?_
   refine WO.nx ?_
   have f71 := f47.stp (S52.tr S65) rfl rfl
   refine WO.stB0 (κ := K64) 3 (vc := [.int .i64 x33.1.Inputs, .int .i64 x33.1.Latches, .slice a33_0 x33.1.Next.length u33_0, .slice a33_1 x33.1.Gates.length u33_1, .slice a33_2 x33.1.Outs.length u33_2]) rfl rfl rfl rfl rfl rfl rfl Try.sizeOf27 rfl rfl f71 rfl fun w72 S73 f74 => ⟨trivial, ?_⟩
   refine WO.pn 1 rfl ?_
   refine WO.fin ?_
   refine DN.seq ?_
   refine WC.seq ?_
   refine WC.seq ?_
   refine WC.rs [(0, 2), (1, 2)] rfl ?_
   refine WO.pn 2 rfl ?_
   refine WO.fin ?_
   refine DN.seq ?_
   revert h
   cases ht75 : decide (x33.2 < 0) with
   | true =>
    intro h; replace h := cT h
    refine WC.ct rfl ?_
    refine WC.seq ?_
    refine WC.rs [(0, 2), (1, 1), (2, 2)] rfl ?_
    refine WO.k2 rfl rfl rfl rfl (rn_build (parts := []) (cells := [.int .i64 0, .int .i64 0, .slice none 0 0, .slice none 0 0, .slice none 0 0]) rfl rfl (by kernel_rfl)) ?_
    have f76 := f8.stp (S29.tr (S37.tr (S45.tr (S52.tr (S65.tr S73))))) rfl rfl
    refine WO.stB0 (κ := K64) 4 (vc := [.int .i64 0, .int .i64 0, .slice none 0 0, .slice none 0 0, .slice none 0 0]) rfl rfl rfl rfl rfl rfl rfl Try.sizeOf27 rfl rfl f76 rfl fun w77 S78 f79 => ⟨trivial, ?_⟩
    refine WO.pn 1 rfl ?_
    refine WO.fin ?_
    refine DN.seq ?_
    refine WC.ret ?_
    refine DN.retThen ?_
    have f80 := hE.stp (S3.tr (S7.tr (S29.tr (S37.tr (S45.tr (S52.tr (S65.tr (S73.tr S78)))))))) rfl rfl
    refine DN.res (l := [.cell 8 27, .tmp 9]) Try.results48 (res_cellA rfl f79 Try.isAgg27 Try.sizeOf27 rfl (res_tmp rfl rfl)) rfl ?_
    obtain rfl := Option.some.inj h
    exact ⟨K64, none, 0, none, 0, none, 0, rfl, f80, Sl.nil, Ow.nil, Sl.nil⟩
   | false =>
    intro h; replace h := cF h
    refine WC.cf rfl ?_
    refine WC.skip ?_
    refine DN.seq ?_
    refine WC.seq ?_
    refine WC.rx (κ := K64) [3] (some 9) [(1, 2), (3, 2), (0, 0), (2, 1), (4, 1), (5, 1), (6, 2), (7, 2), (8, 2)] [(9, 1), (10, 2)] (by kernel_rfl) (by kernel_rfl) fun w82 S81 => ?_
    refine WO.pn 2 rfl ?_
    have f83 := f74.stp S81 rfl rfl
    refine WO.k0 rfl rfl rfl rfl (rn_la (cs := [.int .i64 x33.1.Inputs, .int .i64 x33.1.Latches, .slice a33_0 x33.1.Next.length u33_0, .slice a33_1 x33.1.Gates.length u33_1, .slice a33_2 x33.1.Outs.length u33_2]) Try.isAgg27 Try.sizeOf27 rfl rfl rfl (haC f83.cells rfl)) ?_
    obtain ⟨x42, hx42, h⟩ := Option.bind_eq_some_iff.mp h
    refine WO.call rfl rfl rfl rfl rfl rfl Try.call73 (s_l31Turn_ok (κ := fun b => mp [] 0 (K64 b)) hx42) ?_
    rintro _ w84 ⟨k85, rfl, e86⟩
    obtain ⟨K87, S88, m89⟩ := Ent.mixed (l := []) (κ := K64) e86 19 rfl
    refine ⟨(S88.cl rfl), ?_⟩
    obtain ⟨x44, hx44, h⟩ := Option.bind_eq_some_iff.mp h
    refine WO.call rfl rfl rfl rfl rfl rfl Try.call73 (s_l31Turn_ok (κ := fun b => mp [] 0 (K87 b)) hx44) ?_
    rintro _ w91 ⟨k92, rfl, e93⟩
    obtain ⟨K94, S95, m96⟩ := Ent.mixed (l := []) (κ := K87) e93 21 rfl
    refine ⟨((S88.tr S95).cl rfl), ?_⟩
    obtain ⟨x45, hx45, h⟩ := Option.bind_eq_some_iff.mp h
    have f98 := f68.stp (S73.tr (S81.tr (S88.tr S95))) rfl rfl
    have f99 := f69.stp (S73.tr (S81.tr (S88.tr S95))) rfl rfl
    have f100 := f70.stp (S73.tr (S81.tr (S88.tr S95))) rfl rfl
    refine WO.call rfl rfl rfl rfl rfl rfl Try.call46 (s_l31Join_ok (κ := fun b => mp [(17, 2)] 1 (K94 b)) (p0 := x33.1) (Sl.map f98 (mp [(17, 2)] 1) rfl rfl) (f99.map (mp [(17, 2)] 1) rfl rfl) (Sl.map f100 (mp [(17, 2)] 1) rfl rfl) hx45) ?_
    rintro _ w101 ⟨k102, a45_0, u45_0, a45_1, u45_1, a45_2, u45_2, rfl, e103, f104, f105, f106⟩
    obtain ⟨K107, S108, m109, z110⟩ := Ent.mixed0 (l := [(17, 2)]) (κ := K94) e103 23 rfl
    refine ⟨((S88.tr (S95.tr S108)).cl rfl), ?_⟩
    have f111 := f104.mx z110
    have f112 := f105.mx Gate.no33 m109 rfl (rfl : 23 + 4 = 27)
    have f113 := f106.mx z110
    refine WO.pn 3 rfl ?_
    refine WO.nx ?_
    have f114 := f83.stp (S88.tr (S95.tr S108)) rfl rfl
    refine WO.stB0 (κ := K107) 3 (vc := [.int .i64 x45.1.Inputs, .int .i64 x45.1.Latches, .slice a45_0 x45.1.Next.length u45_0, .slice a45_1 x45.1.Gates.length u45_1, .slice a45_2 x45.1.Outs.length u45_2]) rfl rfl rfl rfl rfl rfl rfl Try.sizeOf27 rfl rfl f114 rfl fun w115 S116 f117 => ⟨trivial, ?_⟩
    refine WO.pn 1 rfl ?_
    refine WO.fin ?_
    refine DN.seq ?_
    refine WC.seq ?_
    refine WC.seq ?_
    refine WC.rs [(0, 2), (1, 2)] rfl ?_
    refine WO.pn 2 rfl ?_
    refine WO.fin ?_
    refine DN.seq ?_
    revert h
    cases ht118 : decide (x45.2 < 0) with
    | true =>
     intro h; replace h := cT h
     refine WC.ct rfl ?_
     refine WC.seq ?_
     refine WC.rs [(0, 2), (1, 1), (2, 2)] rfl ?_
     refine WO.k2 rfl rfl rfl rfl (rn_build (parts := []) (cells := [.int .i64 0, .int .i64 0, .slice none 0 0, .slice none 0 0, .slice none 0 0]) rfl rfl (by kernel_rfl)) ?_
     have f119 := f8.stp (S29.tr (S37.tr (S45.tr (S52.tr (S65.tr (S73.tr (S81.tr (S88.tr (S95.tr (S108.tr S116)))))))))) rfl rfl
     refine WO.stB0 (κ := K107) 4 (vc := [.int .i64 0, .int .i64 0, .slice none 0 0, .slice none 0 0, .slice none 0 0]) rfl rfl rfl rfl rfl rfl rfl Try.sizeOf27 rfl rfl f119 rfl fun w120 S121 f122 => ⟨trivial, ?_⟩
     refine WO.pn 1 rfl ?_
     refine WO.fin ?_
     refine DN.seq ?_
     refine WC.ret ?_
     refine DN.retThen ?_
     have f123 := hE.stp (S3.tr (S7.tr (S29.tr (S37.tr (S45.tr (S52.tr (S65.tr (S73.tr (S81.tr (S88.tr (S95.tr (S108.tr (S116.tr S121))))))))))))) rfl rfl
     refine DN.res (l := [.cell 8 27, .tmp 9]) Try.results48 (res_cellA rfl f122 Try.isAgg27 Try.sizeOf27 rfl (res_tmp rfl rfl)) rfl ?_
     obtain rfl := Option.some.inj h
     exact ⟨K107, none, 0, none, 0, none, 0, rfl, f123, Sl.nil, Ow.nil, Sl.nil⟩
    | false =>
     intro h; replace h := cF h
     refine WC.cf rfl ?_
     refine WC.skip ?_
     refine DN.seq ?_
     refine WC.seq ?_
     refine WC.rx (κ := K107) [3] none [(1, 2), (0, 0), (2, 1), (3, 1), (4, 2)] [] (by kernel_rfl) (by kernel_rfl) fun w125 S124 => ?_
     refine WO.pn 1 rfl ?_
     have f126 := f117.stp S124 rfl rfl
     refine WO.k0 rfl rfl rfl rfl (rn_la (cs := [.int .i64 x45.1.Inputs, .int .i64 x45.1.Latches, .slice a45_0 x45.1.Next.length u45_0, .slice a45_1 x45.1.Gates.length u45_1, .slice a45_2 x45.1.Outs.length u45_2]) Try.isAgg27 Try.sizeOf27 rfl rfl rfl (haC f126.cells rfl)) ?_
     obtain ⟨x53, hx53, h⟩ := Option.bind_eq_some_iff.mp h
     refine WO.call rfl rfl rfl rfl rfl rfl Try.call73 (s_l31Turn_ok (κ := fun b => mp [] 0 (K107 b)) hx53) ?_
     rintro _ w127 ⟨k128, rfl, e129⟩
     obtain ⟨K130, S131, m132⟩ := Ent.mixed (l := []) (κ := K107) e129 29 rfl
     refine ⟨(S131.cl rfl), ?_⟩
     have f134 := f8.stp (S29.tr (S37.tr (S45.tr (S52.tr (S65.tr (S73.tr (S81.tr (S88.tr (S95.tr (S108.tr (S116.tr (S124.tr S131)))))))))))) rfl rfl
     refine WO.stB0 (κ := K130) 4 (vc := [.int .i64 x45.1.Inputs, .int .i64 x45.1.Latches, .slice a45_0 x45.1.Next.length u45_0, .slice a45_1 x45.1.Gates.length u45_1, .slice a45_2 x45.1.Outs.length u45_2]) rfl rfl rfl rfl rfl rfl rfl Try.sizeOf27 rfl rfl f134 rfl fun w135 S136 f137 => ⟨((S131.tr S136).cl rfl), ?_⟩
     refine WO.pn 1 rfl ?_
     refine WO.nx ?_
     refine WO.fin ?_
     refine DN.seq ?_
     refine WC.ret ?_
     have f138 := hE.stp (S3.tr (S7.tr (S29.tr (S37.tr (S45.tr (S52.tr (S65.tr (S73.tr (S81.tr (S88.tr (S95.tr (S108.tr (S116.tr (S124.tr (S131.tr S136))))))))))))))) rfl rfl
     have f139 := f111.stp (S116.tr (S124.tr (S131.tr S136))) rfl rfl
     have f140 := f112.stp (S116.tr (S124.tr (S131.tr S136))) rfl rfl
     have f141 := f113.stp (S116.tr (S124.tr (S131.tr S136))) rfl rfl
     refine DN.res (l := [.cell 8 27, .tmp 9]) Try.results48 (res_cellA rfl f137 Try.isAgg27 Try.sizeOf27 rfl (res_tmp rfl rfl)) rfl ?_
     obtain rfl := Option.some.inj h
     exact ⟨(fun b => ren [(27, 4)] (K130 b)), a45_0, u45_0, a45_1, u45_1, a45_2, u45_2, rfl, (f138.map (ren [(27, 4)]) rfl rfl), (f139.map (ren [(27, 4)]) rfl rfl), (f140.map (ren [(27, 4)]) rfl rfl), (f141.map (ren [(27, 4)]) rfl rfl)⟩

end Go.Proofs.Ythjkonkcdfdfaaa
