/- The walks, part 1. By program. -/
import Derived.Test.YthjkonkcdfdfaaaFnsT0
set_option linter.unusedVariables false
set_option linter.unusedSimpArgs false
namespace Go.Proofs.Ythjkonkcdfdfaaa
open Go Go.Wk Go.Proofs
set_option maxRecDepth 100000
set_option maxHeartbeats 1000000

/- loop.example/g00869/impl.newBuilder -/
theorem i_newBuilder_ok {w : World} {κ : Col} {a0_2 : Option Addr} {u0_2 : Nat} {a0_3 : Option Addr} {u0_3 : Nat} {a0_4 : Option Addr} {u0_4 : Nat} {p0 : Circuit} (g0_2 : Rd (Rp.int .i64) κ w 0 a0_2 u0_2 p0.Next) (g0_3 : Rd Gate.rp κ w 0 a0_3 u0_3 p0.Gates) (g0_4 : Rd (Rp.int .i64) κ w 0 a0_4 u0_4 p0.Outs) {r : builder} (h : i_newBuilder p0 = some r) : Ret Try.prog 43 [.agg #[.int .i64 p0.Inputs, .int .i64 p0.Latches, .slice a0_2 p0.Next.length u0_2, .slice a0_3 p0.Gates.length u0_3, .slice a0_4 p0.Outs.length u0_4]] w (fun v w' => ∃ (κ' : Col) (ra0 : Option Addr) (ru0 : Nat) (ra1 : Option Addr) (ru1 : Nat) (ra2 : Option Addr) (ru2 : Nat) (rm3 : Nat) (rb4 : Nat), v = .pointer (some ⟨rb4, 0, none⟩) ∧ Ent κ w κ' w' ∧ Oc (Ep.int .i64) 2 κ' w' 2 ra0 ru0 r.c.Next ∧ Oc Gate.ep33 33 κ' w' 3 ra1 ru1 r.c.Gates ∧ Oc (Ep.int .i64) 2 κ' w' 4 ra2 ru2 r.c.Outs ∧ Mc kwGate kvGate (fun v : Int => .int .i64 v) κ' w' 5 rm3 r.known ∧ Bc κ' w' 6 rb4 72 [.int .i64 r.c.Inputs, .int .i64 r.c.Latches, .slice ra0 r.c.Next.length ru0, .slice ra1 r.c.Gates.length ru1, .slice ra2 r.c.Outs.length ru2, .bool r.full, .map (some rm3)]) := by
 unfold i_newBuilder at h
 refine Ret.enter Try.func43 rfl Try.ntmps43 rfl ?_
 dsimp only [envOf]
 have hE := Ent.refl κ w
 refine WC.seq ?_
 refine WC.rs [(0, 1), (1, 2)] rfl ?_
 refine WO.box (κ := κ) 2 rfl rfl rfl rfl rfl rfl rfl fun b1 w1 K2 S3 f4 => ⟨trivial, ?_⟩
 refine WO.pn 1 rfl ?_
 refine WO.fin ?_
 refine DN.seq ?_
 refine WC.seq ?_
 refine WC.rs [(0, 1), (1, 2), (2, 1), (3, 1), (4, 2), (5, 1)] rfl ?_
 refine WO.bl0 (κ := K2) (E := (Ep.int .i64)) 3 rfl rfl rfl rfl rfl Try.underlying24 Tryinfo2 rfl fun a7 u7 w5 K6 S7 f8 => ⟨trivial, ?_⟩
 refine WO.k2 rfl rfl rfl rfl (rn_fieldAddr Try.runUnderlying27 rfl Try.sizeOf24 rfl rfl) ?_
 have f9 := f4.stp S7 rfl rfl
 refine WO.k1 trivial rfl rfl rfl rfl (rn_ld Try.isAgg24 rfl rfl (hvE (f9.ld 2 rfl rfl))) ?_
 obtain ⟨x10, hx10, h⟩ := Option.bind_eq_some_iff.mp h
 have f10 := g0_2.stp (S3.tr S7) rfl rfl
 refine WO.app (κ := K6) (E := (Ep.int .i64)) 3 [] rfl rfl rfl rfl rfl rfl rfl rfl rfl Try.underlying24 Tryinfo2 rfl rfl rfl rfl f8 (Sl.srcP (pu_int _) f10) sy_false hx10 rfl fun a10 u10 w11 K12 S13 f14 => ⟨trivial, ?_⟩
 refine WO.k2 rfl rfl rfl rfl (rn_fieldAddr Try.runUnderlying27 rfl Try.sizeOf24 rfl rfl) ?_
 have f15 := f9.stp S13 rfl rfl
 refine WO.stB (κ := K12) 2 (off := 2) (vc := [.slice a10 x10.length u10]) (cs' := [.int .i64 p0.Inputs, .int .i64 p0.Latches, .slice a10 x10.length u10, .slice a0_3 p0.Gates.length u0_3, .slice a0_4 p0.Outs.length u0_4]) rfl rfl rfl rfl rfl rfl rfl Try.sizeOf24 rfl rfl f15 rfl rfl fun w16 S17 f18 => ⟨trivial, ?_⟩
 refine WO.fin ?_
 refine DN.seq ?_
 refine WC.seq ?_
 refine WC.rs [(0, 1), (1, 2), (2, 1), (3, 1), (4, 2), (5, 1)] rfl ?_
 refine WO.bl0 (κ := K12) (E := Gate.ep33) 4 rfl rfl rfl rfl rfl Try.underlying25 Tryinfo33 rfl fun a12 u12 w19 K20 S21 f22 => ⟨trivial, ?_⟩
 refine WO.k2 rfl rfl rfl rfl (rn_fieldAddr Try.runUnderlying27 rfl Try.sizeOf25 rfl rfl) ?_
 have f23 := f18.stp S21 rfl rfl
 refine WO.k1 trivial rfl rfl rfl rfl (rn_ld Try.isAgg25 rfl rfl (hvE (f23.ld 3 rfl rfl))) ?_
 obtain ⟨x15, hx15, h⟩ := Option.bind_eq_some_iff.mp h
 have f24 := g0_3.stp (S3.tr (S7.tr (S13.tr (S17.tr S21)))) rfl rfl
 refine WO.app (κ := K20) (E := Gate.ep33) 4 [] rfl rfl rfl rfl rfl rfl rfl rfl rfl Try.underlying25 Tryinfo33 rfl rfl rfl rfl f22 (Sl.srcP Gate.pu33 f24) sy_false hx15 rfl fun a15 u15 w25 K26 S27 f28 => ⟨trivial, ?_⟩
 refine WO.k2 rfl rfl rfl rfl (rn_fieldAddr Try.runUnderlying27 rfl Try.sizeOf25 rfl rfl) ?_
 have f29 := f23.stp S27 rfl rfl
 refine WO.stB (κ := K26) 2 (off := 3) (vc := [.slice a15 x15.length u15]) (cs' := [.int .i64 p0.Inputs, .int .i64 p0.Latches, .slice a10 x10.length u10, .slice a15 x15.length u15, .slice a0_4 p0.Outs.length u0_4]) rfl rfl rfl rfl rfl rfl rfl Try.sizeOf25 rfl rfl f29 rfl rfl fun w30 S31 f32 => ⟨trivial, ?_⟩
 refine WO.fin ?_
 refine DN.seq ?_
 refine WC.seq ?_
 refine WC.rs [(0, 1), (1, 2), (2, 1), (3, 1), (4, 2), (5, 1)] rfl ?_
 refine WO.bl0 (κ := K26) (E := (Ep.int .i64)) 5 rfl rfl rfl rfl rfl Try.underlying24 Tryinfo2 rfl fun a17 u17 w33 K34 S35 f36 => ⟨trivial, ?_⟩
 refine WO.k2 rfl rfl rfl rfl (rn_fieldAddr Try.runUnderlying27 rfl Try.sizeOf24 rfl rfl) ?_
 have f37 := f32.stp S35 rfl rfl
 refine WO.k1 trivial rfl rfl rfl rfl (rn_ld Try.isAgg24 rfl rfl (hvE (f37.ld 4 rfl rfl))) ?_
 obtain ⟨x20, hx20, h⟩ := Option.bind_eq_some_iff.mp h
 have f38 := g0_4.stp (S3.tr (S7.tr (S13.tr (S17.tr (S21.tr (S27.tr (S31.tr S35))))))) rfl rfl
 refine WO.app (κ := K34) (E := (Ep.int .i64)) 5 [] rfl rfl rfl rfl rfl rfl rfl rfl rfl Try.underlying24 Tryinfo2 rfl rfl rfl rfl f36 (Sl.srcP (pu_int _) f38) sy_false hx20 rfl fun a20 u20 w39 K40 S41 f42 => ⟨trivial, ?_⟩
 refine WO.k2 rfl rfl rfl rfl (rn_fieldAddr Try.runUnderlying27 rfl Try.sizeOf24 rfl rfl) ?_
 have f43 := f37.stp S41 rfl rfl
 refine WO.stB (κ := K40) 2 (off := 4) (vc := [.slice a20 x20.length u20]) (cs' := [.int .i64 p0.Inputs, .int .i64 p0.Latches, .slice a10 x10.length u10, .slice a15 x15.length u15, .slice a20 x20.length u20]) rfl rfl rfl rfl rfl rfl rfl Try.sizeOf24 rfl rfl f43 rfl rfl fun w44 S45 f46 => ⟨trivial, ?_⟩
 refine WO.fin ?_
 refine DN.seq ?_
 refine WC.seq ?_
 refine WC.rs [(0, 1), (1, 1), (2, 2), (3, 1), (4, 2)] rfl ?_
 refine WO.k1 trivial rfl rfl rfl rfl (rn_la (cs := [.int .i64 p0.Inputs, .int .i64 p0.Latches, .slice a10 x10.length u10, .slice a15 x15.length u15, .slice a20 x20.length u20]) Try.isAgg27 Try.sizeOf27 rfl rfl rfl (haE f46.cells)) ?_
 refine WO.mkmap (κ := K40) 6 rfl rfl rfl rfl rfl kwGate kvGate (fun v : Int => .int .i64 v) fun mb23 w47 K48 S49 f50 => ⟨trivial, ?_⟩
 refine WO.k2 rfl rfl rfl rfl (rn_build (parts := [(0, .tmp 22), (2, .tmp 23)]) (cells := [.int .i64 p0.Inputs, .int .i64 p0.Latches, .slice a10 x10.length u10, .slice a15 x15.length u15, .slice a20 x20.length u20, .bool false, .map (some mb23)]) rfl rfl (by kernel_rfl)) ?_
 refine WO.box (κ := K48) 7 rfl rfl rfl rfl rfl rfl rfl fun b25 w51 K52 S53 f54 => ⟨trivial, ?_⟩
 refine WO.pn 1 rfl ?_
 refine WO.fin ?_
 refine DN.seq ?_
 refine WC.seq ?_
 refine WC.rs [(0, 2), (1, 1), (2, 2), (3, 2), (4, 1), (5, 2), (6, 2)] rfl ?_
 refine WO.k2 rfl rfl rfl rfl (rn_fieldAddr Try.runUnderlying27 rfl Try.sizeOf2 rfl rfl) ?_
 have f55 := f46.stp (S49.tr S53) rfl rfl
 refine WO.k1 trivial rfl rfl rfl rfl (rn_ld Try.isAgg2 rfl rfl (hvE (f55.ld 0 rfl rfl))) ?_
 refine WO.pn 1 rfl ?_
 refine WO.k2 rfl rfl rfl rfl (rn_fieldAddr Try.runUnderlying27 rfl Try.sizeOf2 rfl rfl) ?_
 refine WO.k1 trivial rfl rfl rfl rfl (rn_ld Try.isAgg2 rfl rfl (hvE (f55.ld 1 rfl rfl))) ?_
 refine WO.pn 2 rfl ?_
 refine WO.fin ?_
 refine DN.seq ?_
 refine WC.seq ?_
 refine WC.seq ?_
 refine WC.rs [(0, 2), (1, 1), (2, 2), (3, 2)] rfl ?_
 refine WO.k2 rfl rfl rfl rfl (rn_fieldAddr Try.runUnderlying27 rfl Try.sizeOf25 rfl rfl) ?_
 refine WO.k1 trivial rfl rfl rfl rfl (rn_ld Try.isAgg25 rfl rfl (hvE (f55.ld 3 rfl rfl))) ?_
 refine WO.k2 rfl rfl rfl rfl (rn_len Try.runUnderlying25 rfl rfl) ?_
 refine WO.pn 1 rfl ?_
 refine WO.fin ?_
 refine DN.seq ?_
 have hN56 : (x15.length : Int) ≤ 9223372036854775807 := f28.len_le
 obtain ⟨q2, hq58, hK57⟩ := Option.bind_eq_some_iff.mp h
 clear h
 refine WC.meet (fun L w' => ∃ (κ' : Col) (s3 : (List (Gate × Int))), L = [(3, .pointer (some ⟨b25, 0, none⟩))] ∧ Stp [6, 8, 11] K52 w51 κ' w' ∧ Mc kwGate kvGate (fun v : Int => .int .i64 v) κ' w' 6 mb23 s3 ∧ q2 = Sum.inr s3) ?_ ?_
 ·
  refine WC.block ?_
  have f69 := f50.stp S53 rfl rfl
  refine WC.loop (fun k L w' => ∃ (κ' : Col) (v35 : Int) (s1 : (List (Gate × Int))), L = [(3, .pointer (some ⟨b25, 0, none⟩)), (4, .int .i64 (IntKind.i64.wrap ((IntKind.i64.wrap (1 + p0.Inputs)) + p0.Latches))), (33, .slice a15 x15.length u15), (34, .int .i64 (x15.length : Int)), (35, .int .i64 v35)] ∧ Stp [6, 8, 11] K52 w51 κ' w' ∧ Mc kwGate kvGate (fun v : Int => .int .i64 v) κ' w' 6 mb23 s1 ∧ 0 ≤ v35 ∧ Int.toNat ((x15.length : Int) - v35) = k ∧ cntM (i_newBuilder_b0 p0 x10 x15 x20) k v35 s1 = some q2) ⟨_, _, ⟨K52, 0, (([] : List (Gate × Int)) : (List (Gate × Int))), rfl, (Stp.refl _ _).wk rfl, f69, (by decide), (by simp), hq58⟩, fun a ha => (ha.more (ha.more (ha.more (ha.more (ha.more ha.nil rfl) rfl) rfl) rfl) rfl)⟩ ?_
  rintro k _ w64 ⟨K65, v35, s1, rfl, S66, f67, hj56, hJ56, h⟩
  rcases k with _ | k
  ·
   have hk70 := h; obtain ⟨o56, h⟩ := ex_eq (Sum.inr (Sum.inl s1) : builder ⊕ (((List (Gate × Int))) ⊕ ((List (Gate × Int)))))
   have hc56 : decide (v35 < (x15.length : Int)) = false := decide_eq_false (by omega)
   refine WC.seq ?_
   refine WC.rs [(0, 2)] rfl ?_
   refine WO.pn 1 rfl ?_
   refine WO.fin ?_
   refine DN.seq ?_
   refine WC.seq ?_
   refine WC.cf' rfl hc56 ?_
   refine WC.exit ?_
   refine DN.exitThen ?_
   refine DN.exitThen ?_
   obtain rfl := Option.some.inj h
   have h := hk70
   refine DN.hit ?_
   obtain rfl := Option.some.inj h
   exact DN.meet _ ⟨K65, (s1 : (List (Gate × Int))), rfl, S66.wk rfl, f67, rfl⟩ fun a ha => (ha.more ha.nil rfl)
  ·
   obtain ⟨o56, h, hk70⟩ := Option.bind_eq_some_iff.mp h; unfold i_newBuilder_b0 at h
   have hc56 : decide (v35 < (x15.length : Int)) = true := decide_eq_true (by omega)
   refine WC.seq ?_
   refine WC.rs [(0, 2)] rfl ?_
   refine WO.pn 1 rfl ?_
   refine WO.fin ?_
   refine DN.seq ?_
   refine WC.seq ?_
   refine WC.ct' rfl hc56 ?_
   refine WC.skip ?_
   refine DN.seq ?_
   refine WC.seq ?_
   refine WC.block ?_
   refine WC.seq ?_
   refine WC.rs [(0, 2), (1, 2), (2, 1), (3, 1), (4, 2), (5, 1)] rfl ?_
   refine WO.pn 1 rfl ?_
   obtain ⟨x38, hx38, h⟩ := Option.bind_eq_some_iff.mp h
   refine WO.k2 rfl rfl rfl rfl (rn_index f28.rdc hx38 Try.runUnderlying25 Try.sizeOf33 rfl rfl rfl rfl) ?_
   have f71 := f28.stp (S31.tr (S35.tr (S41.tr (S45.tr (S49.tr (S53.tr S66)))))) rfl rfl
   obtain ⟨cse72, hre72, hle72⟩ := (f71.rdc).gSt hx38
   obtain rfl := Gate.un hre72
   refine WO.k1 trivial rfl rfl rfl rfl (rn_la (cs := [.int .i64 x38.A, .int .i64 x38.B]) Try.isAgg33 Try.sizeOf33 rfl rfl rfl (haE hle72)) ?_
   refine WO.alloc (κ := K65) 8 rfl rfl rfl rfl rfl Try.zeroValue33 rfl fun b6 w73 K74 S75 f76 => ⟨trivial, ?_⟩
   refine WO.pn 1 rfl ?_
   refine WO.stB0 (κ := K74) 8 (vc := [.int .i64 x38.A, .int .i64 x38.B]) rfl rfl rfl rfl rfl rfl rfl Try.sizeOf33 rfl rfl f76 rfl fun w77 S78 f79 => ⟨trivial, ?_⟩
   refine WO.fin ?_
   refine DN.seq ?_
   refine WC.rs [(0, 2), (1, 1), (2, 2), (3, 2), (4, 2), (5, 2), (6, 1)] rfl ?_
   refine WO.pn 1 rfl ?_
   refine WO.k1 trivial rfl rfl rfl rfl (rn_la (cs := [.int .i64 x38.A, .int .i64 x38.B]) Try.isAgg33 Try.sizeOf33 rfl rfl rfl (haE f79.cells)) ?_
   refine WO.pn 4 rfl ?_
   obtain ⟨x46, hx46, h⟩ := Option.bind_eq_some_iff.mp h
   have f80 := f14.stp (S17.tr (S21.tr (S27.tr (S31.tr (S35.tr (S41.tr (S45.tr (S49.tr (S53.tr (S66.tr (S75.tr S78))))))))))) rfl rfl
   have f81 := f71.stp (S75.tr S78) rfl rfl
   have f82 := f42.stp (S45.tr (S49.tr (S53.tr (S66.tr (S75.tr S78))))) rfl rfl
   have f83 := f67.stp (S75.tr S78) rfl rfl
   have f84 := f54.stp (S66.tr (S75.tr S78)) rfl rfl
   refine WO.call rfl rfl rfl rfl rfl rfl Try.call72 (i_builder_learn_ok (κ := fun b => mp [(6, 2)] 0 (K74 b)) (p1 := x38) (p0 := (⟨(⟨p0.Inputs, p0.Latches, x10, x15, x20⟩ : Circuit), false, s1⟩ : builder)) (Sl.map f80.rdc (mp [(6, 2)] 0) rfl rfl) (Sl.map f81.rdc (mp [(6, 2)] 0) rfl rfl) (Sl.map f82.rdc (mp [(6, 2)] 0) rfl rfl) (f83.map (mp [(6, 2)] 0) rfl rfl) (f84.map (mp [(6, 2)] 0) rfl rfl) hx46) ?_
   rintro _ w85 ⟨k86, rfl, e87, f88⟩
   obtain ⟨K89, S90, m91⟩ := Ent.mixed (l := [(6, 2)]) (κ := K74) e87 9 rfl
   refine ⟨trivial, ?_⟩
   have f93 := f88.mx' m91 rfl (rfl : 9 + 2 = 11)
   refine WO.fin ?_
   refine DN.block ?_
   refine DN.seq ?_
   refine WC.rs [(0, 2), (1, 2)] rfl ?_
   refine WO.pn 2 rfl ?_
   refine WO.fin ?_
   have hw56 : IntKind.wrap .i64 (v35 + 1) = v35 + 1 := wr1 hj56 (of_decide_eq_true hc56) hN56
   rw [hw56]
   have hc56 := of_decide_eq_true hc56
   obtain rfl := Option.some.inj h
   refine DN.round fun a ha => ?_
   exact ⟨k, _, Nat.lt_succ_self _, ⟨(fun b => ren [(11, 6)] (K89 b)), v35 + 1, (x46 : (List (Gate × Int))), rfl, (Stp.ren ((S66.tr (S75.tr (S78.tr S90))).wk rfl) [(11, 6)] rfl), (f93.map (ren [(11, 6)]) rfl rfl), by omega, by omega, hk70⟩, (ha.more (ha.more (ha.more (ha.more (ha.more ha.nil rfl) rfl) rfl) rfl) rfl)⟩
 rintro _ w59 ⟨K60, s3, rfl, S61, f62, rfl⟩
 have h := hK57
 dsimp only [aft] at h
 refine DN.seq ?_
 refine WC.seq ?_
 refine WC.rs [(0, 2), (1, 2)] rfl ?_
 refine WO.pn 2 rfl ?_
 refine WO.fin ?_
 refine DN.seq ?_
 refine WC.ret ?_
 have f94 := hE.stp (S3.tr (S7.tr (S13.tr (S17.tr (S21.tr (S27.tr (S31.tr (S35.tr (S41.tr (S45.tr (S49.tr (S53.tr S61)))))))))))) rfl rfl
 have f95 := f14.stp (S17.tr (S21.tr (S27.tr (S31.tr (S35.tr (S41.tr (S45.tr (S49.tr (S53.tr S61))))))))) rfl rfl
 have f96 := f28.stp (S31.tr (S35.tr (S41.tr (S45.tr (S49.tr (S53.tr S61)))))) rfl rfl
 have f97 := f42.stp (S45.tr (S49.tr (S53.tr S61))) rfl rfl
 have f98 := f54.stp S61 rfl rfl
 refine DN.res (l := [.tmp 2]) Try.results43 (res_tmp rfl rfl) rfl ?_
 obtain rfl := Option.some.inj h
 exact ⟨(fun b => ren [(3, 2), (4, 3), (5, 4), (6, 5), (7, 6)] (K60 b)), a10, u10, a15, u15, a20, u20, mb23, b25, rfl, (f94.map (ren [(3, 2), (4, 3), (5, 4), (6, 5), (7, 6)]) rfl rfl), (f95.map (ren [(3, 2), (4, 3), (5, 4), (6, 5), (7, 6)]) rfl rfl), (f96.map (ren [(3, 2), (4, 3), (5, 4), (6, 5), (7, 6)]) rfl rfl), (f97.map (ren [(3, 2), (4, 3), (5, 4), (6, 5), (7, 6)]) rfl rfl), (f62.map (ren [(3, 2), (4, 3), (5, 4), (6, 5), (7, 6)]) rfl rfl), (f98.map (ren [(3, 2), (4, 3), (5, 4), (6, 5), (7, 6)]) rfl rfl)⟩

/- (*loop.example/g00869/impl.builder).join -/
theorem i_builder_join_ok {w : World} {κ : Col} {a0_0_2 : Option Addr} {u0_0_2 : Nat} {a0_0_3 : Option Addr} {u0_0_3 : Nat} {a0_0_4 : Option Addr} {u0_0_4 : Nat} {mb0_2 : Nat} {p0 : builder} {p1 : Int} {p2 : Int} {b0 : Nat} (g0_0_2 : Rd (Rp.int .i64) κ w 0 a0_0_2 u0_0_2 p0.c.Next) (g0_0_3 : Oc Gate.ep33 33 κ w 2 a0_0_3 u0_0_3 p0.c.Gates) (g0_0_4 : Rd (Rp.int .i64) κ w 0 a0_0_4 u0_0_4 p0.c.Outs) (g0_2 : Mc kwGate kvGate (fun v : Int => .int .i64 v) κ w 3 mb0_2 p0.known) (gb0 : Bc κ w 4 b0 72 [.int .i64 p0.c.Inputs, .int .i64 p0.c.Latches, .slice a0_0_2 p0.c.Next.length u0_0_2, .slice a0_0_3 p0.c.Gates.length u0_0_3, .slice a0_0_4 p0.c.Outs.length u0_0_4, .bool p0.full, .map (some mb0_2)]) {r : Int × (List Gate) × Bool × (List (Gate × Int))} (h : i_builder_join p0 p1 p2 = some r) : Ret Try.prog 44 [.pointer (some ⟨b0, 0, none⟩), .int .i64 p1, .int .i64 p2] w (fun v w' => ∃ (κ' : Col) (ma0 : Option Addr) (mu0 : Nat), v = .int .i64 r.1 ∧ Ent κ w κ' w' ∧ Oc Gate.ep33 33 κ' w' 2 ma0 mu0 r.2.1 ∧ Mc kwGate kvGate (fun v : Int => .int .i64 v) κ' w' 3 mb0_2 r.2.2.2 ∧ Bc κ' w' 4 b0 72 [.int .i64 p0.c.Inputs, .int .i64 p0.c.Latches, .slice a0_0_2 p0.c.Next.length u0_0_2, .slice ma0 r.2.1.length mu0, .slice a0_0_4 p0.c.Outs.length u0_0_4, .bool r.2.2.1, .map (some mb0_2)]) := by
 unfold i_builder_join at h
 refine Ret.enter Try.func44 rfl Try.ntmps44 rfl ?_
 dsimp only [envOf]
 have hE := Ent.refl κ w
 refine WC.seq ?_
 refine WC.rs [(0, 2)] rfl ?_
 refine WO.pn 1 rfl ?_
 refine WO.fin ?_
 refine DN.seq ?_
 refine WC.seq ?_
 refine WC.block ?_
 refine WC.seq ?_
 refine WC.rs [(0, 2), (1, 2), (2, 2), (3, 2), (4, 2), (5, 2), (6, 2), (7, 2), (8, 2), (9, 2), (10, 2), (11, 2), (12, 2)] rfl ?_
 refine WO.pn 3 rfl ?_
 obtain ⟨p17, h, hK1⟩ := Option.bind_eq_some_iff.mp h
 refine WO.meet [(3, 2), (4, 2), (5, 2)] [(6, 2), (7, 2), (8, 2), (9, 2), (10, 2), (11, 2), (12, 2)] (fun L w' => L = [(0, .pointer (some ⟨b0, 0, none⟩)), (1, .int .i64 p1), (2, .int .i64 p2), (17, .bool p17)] ∧ ∃ κ', Stp [] κ w κ' w') trivial ?_ ?_
 ·
  revert h
  cases ht2 : (p1 == 0) with
  | true =>
   intro h; replace h := cT h
   refine WO.pn 3 rfl ?_
   obtain rfl := Option.some.inj h
   exact WO.met _ trivial ⟨rfl, _, (Stp.refl _ _).wk rfl⟩ fun a ha => (ha.more (ha.more (ha.more (ha.more ha.nil rfl) rfl) rfl) rfl)
  | false =>
   intro h; replace h := cF h
   refine WO.pn 3 rfl ?_
   obtain rfl := Option.some.inj h
   exact WO.met _ trivial ⟨rfl, _, (Stp.refl _ _).wk rfl⟩ fun a ha => (ha.more (ha.more (ha.more (ha.more ha.nil rfl) rfl) rfl) rfl)
 rintro _ w3 _ ⟨rfl, K4, S5⟩
 have h := hK1
 refine WO.pn 1 rfl ?_
 obtain ⟨p23, h, hK6⟩ := Option.bind_eq_some_iff.mp h
 refine WO.meet [(7, 2), (8, 2), (9, 2), (10, 2), (11, 2)] [(12, 2)] (fun L w' => L = [(0, .pointer (some ⟨b0, 0, none⟩)), (1, .int .i64 p1), (2, .int .i64 p2), (23, .bool p23)] ∧ ∃ κ', Stp [] K4 w3 κ' w') trivial ?_ ?_
 ·
  revert h
  cases ht7 : p17 with
  | true =>
   intro h; replace h := cT h
   refine WO.pn 5 rfl ?_
   obtain rfl := Option.some.inj h
   exact WO.met _ trivial ⟨rfl, _, (Stp.refl _ _).wk rfl⟩ fun a ha => (ha.more (ha.more (ha.more (ha.more ha.nil rfl) rfl) rfl) rfl)
  | false =>
   intro h; replace h := cF h
   refine WO.pn 5 rfl ?_
   obtain rfl := Option.some.inj h
   exact WO.met _ trivial ⟨rfl, _, (Stp.refl _ _).wk rfl⟩ fun a ha => (ha.more (ha.more (ha.more (ha.more ha.nil rfl) rfl) rfl) rfl)
 rintro _ w8 _ ⟨rfl, K9, S10⟩
 have h := hK6
 refine WO.pn 1 rfl ?_
 refine WO.fin ?_
 refine DN.seq ?_
 revert h
 cases ht11 : p23 with
 | true =>
  intro h; replace h := cT h
  refine WC.ct rfl ?_
  refine WC.seq ?_
  refine WC.rs [(0, 2)] rfl ?_
  refine WO.pn 1 rfl ?_
  refine WO.fin ?_
  refine DN.seq ?_
  refine WC.ret ?_
  refine DN.retBlock ?_
  refine DN.retThen ?_
  have f12 := hE.stp (S5.tr S10) rfl rfl
  have f13 := g0_0_3.stp (S5.tr S10) rfl rfl
  have f14 := g0_2.stp (S5.tr S10) rfl rfl
  have f15 := gb0.stp (S5.tr S10) rfl rfl
  refine DN.res (l := [.tmp 6]) Try.results44 (res_tmp rfl rfl) rfl ?_
  obtain rfl := Option.some.inj h
  exact ⟨K9, a0_0_3, u0_0_3, rfl, f12, f13, f14, f15⟩
 | false =>
  intro h; replace h := cF h
  refine WC.cf rfl ?_
  refine WC.seq ?_
  refine WC.rs [(0, 2), (1, 2), (2, 2)] rfl ?_
  refine WO.pn 3 rfl ?_
  refine WO.fin ?_
  refine DN.seq ?_
  revert h
  cases ht16 : (p1 == 1) with
  | true =>
   intro h; replace h := cT h
   refine WC.ct rfl ?_
   refine WC.seq ?_
   refine WC.rs [(0, 2), (1, 2)] rfl ?_
   refine WO.pn 2 rfl ?_
   refine WO.fin ?_
   refine DN.seq ?_
   refine WC.ret ?_
   refine DN.retBlock ?_
   refine DN.retThen ?_
   have f17 := hE.stp (S5.tr S10) rfl rfl
   have f18 := g0_0_3.stp (S5.tr S10) rfl rfl
   have f19 := g0_2.stp (S5.tr S10) rfl rfl
   have f20 := gb0.stp (S5.tr S10) rfl rfl
   refine DN.res (l := [.tmp 6]) Try.results44 (res_tmp rfl rfl) rfl ?_
   obtain rfl := Option.some.inj h
   exact ⟨K9, a0_0_3, u0_0_3, rfl, f17, f18, f19, f20⟩
  | false =>
   intro h; replace h := cF h
   refine WC.cf rfl ?_
   refine WC.seq ?_
   refine WC.rs [(0, 2), (1, 2), (2, 2), (3, 2), (4, 2), (5, 2), (6, 2), (7, 2)] rfl ?_
   refine WO.pn 3 rfl ?_
   obtain ⟨p35, h, hK21⟩ := Option.bind_eq_some_iff.mp h
   refine WO.meet [(3, 2), (4, 2), (5, 2), (6, 2)] [(7, 2)] (fun L w' => L = [(0, .pointer (some ⟨b0, 0, none⟩)), (1, .int .i64 p1), (2, .int .i64 p2), (35, .bool p35)] ∧ ∃ κ', Stp [] K9 w8 κ' w') trivial ?_ ?_
   ·
    revert h
    cases ht22 : (p2 == 1) with
    | true =>
     intro h; replace h := cT h
     refine WO.pn 4 rfl ?_
     obtain rfl := Option.some.inj h
     exact WO.met _ trivial ⟨rfl, _, (Stp.refl _ _).wk rfl⟩ fun a ha => (ha.more (ha.more (ha.more (ha.more ha.nil rfl) rfl) rfl) rfl)
    | false =>
     intro h; replace h := cF h
     refine WO.pn 4 rfl ?_
     obtain rfl := Option.some.inj h
     exact WO.met _ trivial ⟨rfl, _, (Stp.refl _ _).wk rfl⟩ fun a ha => (ha.more (ha.more (ha.more (ha.more ha.nil rfl) rfl) rfl) rfl)
   rintro _ w23 _ ⟨rfl, K24, S25⟩
   have h := hK21
   refine WO.pn 1 rfl ?_
   refine WO.fin ?_
   refine DN.seq ?_
   revert h
   cases ht26 : p35 with
   | true =>
    intro h; replace h := cT h
    refine WC.ct rfl ?_
    refine WC.seq ?_
    refine WC.rs [(0, 2), (1, 2)] rfl ?_
    refine WO.pn 2 rfl ?_
    refine WO.fin ?_
    refine DN.seq ?_
    refine WC.ret ?_
    refine DN.retBlock ?_
    refine DN.retThen ?_
    have f27 := hE.stp (S5.tr (S10.tr S25)) rfl rfl
    have f28 := g0_0_3.stp (S5.tr (S10.tr S25)) rfl rfl
    have f29 := g0_2.stp (S5.tr (S10.tr S25)) rfl rfl
    have f30 := gb0.stp (S5.tr (S10.tr S25)) rfl rfl
    refine DN.res (l := [.tmp 6]) Try.results44 (res_tmp rfl rfl) rfl ?_
    obtain rfl := Option.some.inj h
    exact ⟨K24, a0_0_3, u0_0_3, rfl, f27, f28, f29, f30⟩
   | false =>
    intro h; replace h := cF h
    refine WC.cf rfl ?_
    refine WC.skip ?_
    refine DN.block ?_
    refine DN.seq ?_
    refine WC.seq ?_
    refine WC.rs [(0, 2), (1, 2), (2, 2), (3, 2), (4, 2), (5, 2), (6, 2), (7, 1), (8, 1)] rfl ?_
    refine WO.pn 2 rfl ?_
    refine WO.k2 rfl rfl rfl rfl (rn_min rfl rfl rfl) ?_
    refine WO.pn 2 rfl ?_
    refine WO.k2 rfl rfl rfl rfl (rn_max rfl rfl rfl) ?_
    refine WO.k2 rfl rfl rfl rfl (rn_build (parts := [(0, .tmp 39), (1, .tmp 42)]) (cells := [.int .i64 (if p2 < p1 then p2 else p1), .int .i64 (if p1 < p2 then p2 else p1)]) rfl rfl (by kernel_rfl)) ?_
    refine WO.alloc (κ := K24) 5 rfl rfl rfl rfl rfl Try.zeroValue33 rfl fun b7 w31 K32 S33 f34 => ⟨trivial, ?_⟩
    refine WO.stB0 (κ := K32) 5 (vc := [.int .i64 (if p2 < p1 then p2 else p1), .int .i64 (if p1 < p2 then p2 else p1)]) rfl rfl rfl rfl rfl rfl rfl Try.sizeOf33 rfl rfl f34 rfl fun w35 S36 f37 => ⟨trivial, ?_⟩
    refine WO.fin ?_
    refine DN.seq ?_
    refine WC.seq ?_
    refine WC.seq ?_
    refine WC.rx (κ := K32) [3, 4, 5] none [(0, 2), (1, 2), (2, 2), (3, 0), (4, 0), (5, 0), (6, 2), (7, 2), (8, 2), (9, 2), (10, 2)] [] (by kernel_rfl) (by kernel_rfl) fun w39 S38 => ?_
    refine WO.pn 1 rfl ?_
    refine WO.k2 rfl rfl rfl rfl (rn_nilCheck rfl rfl) ?_
    refine WO.k2 rfl rfl rfl rfl (rn_fieldAddr Try.runUnderlying72 rfl Try.sizeOf70 rfl rfl) ?_
    have f40 := gb0.stp (S5.tr (S10.tr (S25.tr (S33.tr (S36.tr S38))))) rfl rfl
    refine WO.k0 rfl rfl rfl rfl (rn_ld Try.isAgg70 rfl rfl (hvC (f40.ld 6 rfl rfl) rfl)) ?_
    have f41 := f37.stp S38 rfl rfl
    refine WO.k0 rfl rfl rfl rfl (rn_la (cs := [.int .i64 (if p2 < p1 then p2 else p1), .int .i64 (if p1 < p2 then p2 else p1)]) Try.isAgg33 Try.sizeOf33 rfl rfl rfl (haC f41.cells rfl)) ?_
    have f42 := g0_2.stp (S5.tr (S10.tr (S25.tr (S33.tr (S36.tr S38))))) rfl rfl
    obtain ⟨x50, hx50, h⟩ := Option.bind_eq_some_iff.mp h
    refine WO.k0 rfl rfl rfl rfl (rn_lookup (kf := kvGate) (vf := (fun v : Int => .int .i64 v)) keyEGate Try.runUnderlying70 Try.zeroValue2 rfl rfl rfl (mvC f42 rfl) hx50) ?_
    refine WO.pn 5 rfl ?_
    refine WO.nx ?_
    refine WO.fin ?_
    refine DN.seq ?_
    refine WC.seq ?_
    refine WC.rs [(0, 2)] rfl ?_
    refine WO.pn 1 rfl ?_
    refine WO.fin ?_
    refine DN.seq ?_
    revert h
    cases ht43 : x50.2 with
    | true =>
     intro h; replace h := cT h
     refine WC.ct rfl ?_
     refine WC.seq ?_
     refine WC.rs [(0, 2), (1, 2)] rfl ?_
     refine WO.pn 2 rfl ?_
     refine WO.fin ?_
     refine DN.seq ?_
     refine WC.ret ?_
     refine DN.retThen ?_
     have f44 := hE.stp (S5.tr (S10.tr (S25.tr (S33.tr (S36.tr S38))))) rfl rfl
     have f45 := g0_0_3.stp (S5.tr (S10.tr (S25.tr (S33.tr (S36.tr S38))))) rfl rfl
     refine DN.res (l := [.tmp 6]) Try.results44 (res_tmp rfl rfl) rfl ?_
     obtain rfl := Option.some.inj h
     exact ⟨K32, a0_0_3, u0_0_3, rfl, f44, f45, f42, f40⟩
    | false =>
     intro h; replace h := cF h
     refine WC.cf rfl ?_
     refine WC.skip ?_
     refine DN.seq ?_
     refine WC.seq ?_
     refine WC.seq ?_
     refine WC.rs [(0, 2), (1, 2), (2, 2), (3, 2), (4, 1), (5, 2), (6, 2)] rfl ?_
     refine WO.pn 1 rfl ?_
     refine WO.k2 rfl rfl rfl rfl (rn_nilCheck rfl rfl) ?_
     refine WO.k2 rfl rfl rfl rfl (rn_fieldAddr Try.runUnderlying72 rfl Try.sizeOf27 rfl rfl) ?_
     refine WO.k2 rfl rfl rfl rfl (rn_fieldAddr Try.runUnderlying27 rfl Try.sizeOf25 rfl rfl) ?_
     refine WO.k1 trivial rfl rfl rfl rfl (rn_ld Try.isAgg25 rfl rfl (hvE (f40.ld 3 rfl rfl))) ?_
     refine WO.k2 rfl rfl rfl rfl (rn_len Try.runUnderlying25 rfl rfl) ?_
     refine WO.pn 1 rfl ?_
     refine WO.fin ?_
     refine DN.seq ?_
     revert h
     cases ht46 : decide (8000 ≤ (p0.c.Gates.length : Int)) with
     | true =>
      intro h; replace h := cT h
      refine WC.ct rfl ?_
      refine WC.seq ?_
      refine WC.rs [(0, 2), (1, 2), (2, 2), (3, 1)] rfl ?_
      refine WO.pn 1 rfl ?_
      refine WO.k2 rfl rfl rfl rfl (rn_nilCheck rfl rfl) ?_
      refine WO.k2 rfl rfl rfl rfl (rn_fieldAddr Try.runUnderlying72 rfl Try.sizeOf4 rfl rfl) ?_
      refine WO.stB (κ := K32) 4 (off := 5) (vc := [.bool true]) (cs' := [.int .i64 p0.c.Inputs, .int .i64 p0.c.Latches, .slice a0_0_2 p0.c.Next.length u0_0_2, .slice a0_0_3 p0.c.Gates.length u0_0_3, .slice a0_0_4 p0.c.Outs.length u0_0_4, .bool true, .map (some mb0_2)]) rfl rfl rfl rfl rfl rfl rfl Try.sizeOf4 rfl rfl f40 rfl rfl fun w47 S48 f49 => ⟨trivial, ?_⟩
      refine WO.fin ?_
      refine DN.seq ?_
      refine WC.seq ?_
      refine WC.rs [(0, 2)] rfl ?_
      refine WO.pn 1 rfl ?_
      refine WO.fin ?_
      refine DN.seq ?_
      refine WC.ret ?_
      refine DN.retThen ?_
      have f50 := hE.stp (S5.tr (S10.tr (S25.tr (S33.tr (S36.tr (S38.tr S48)))))) rfl rfl
      have f51 := g0_0_3.stp (S5.tr (S10.tr (S25.tr (S33.tr (S36.tr (S38.tr S48)))))) rfl rfl
      have f52 := f42.stp S48 rfl rfl
      refine DN.res (l := [.tmp 6]) Try.results44 (res_tmp rfl rfl) rfl ?_
      obtain rfl := Option.some.inj h
      exact ⟨K32, a0_0_3, u0_0_3, rfl, f50, f51, f52, f49⟩
     | false =>
      intro h; replace h := cF h
      refine WC.cf rfl ?_
      refine WC.skip ?_
      refine DN.seq ?_
      refine WC.seq ?_
      refine WC.rs [(0, 2), (1, 2), (2, 2), (3, 1), (4, 1), (5, 2), (6, 2)] rfl ?_
      refine WO.pn 1 rfl ?_
      refine WO.k2 rfl rfl rfl rfl (rn_nilCheck rfl rfl) ?_
      refine WO.k2 rfl rfl rfl rfl (rn_fieldAddr Try.runUnderlying72 rfl Try.sizeOf27 rfl rfl) ?_
      refine WO.k1 trivial rfl rfl rfl rfl (rn_la (cs := [.int .i64 p0.c.Inputs, .int .i64 p0.c.Latches, .slice a0_0_2 p0.c.Next.length u0_0_2, .slice a0_0_3 p0.c.Gates.length u0_0_3, .slice a0_0_4 p0.c.Outs.length u0_0_4]) Try.isAgg27 Try.sizeOf27 rfl rfl rfl (haE (f40.lds 0 5 rfl))) ?_
      obtain ⟨x69, hx69, h⟩ := Option.bind_eq_some_iff.mp h
      have f53 := g0_0_2.stp (S5.tr (S10.tr (S25.tr (S33.tr (S36.tr S38))))) rfl rfl
      have f54 := g0_0_3.stp (S5.tr (S10.tr (S25.tr (S33.tr (S36.tr S38))))) rfl rfl
      have f55 := g0_0_4.stp (S5.tr (S10.tr (S25.tr (S33.tr (S36.tr S38))))) rfl rfl
      refine WO.call rfl rfl rfl rfl rfl rfl Try.call36 (i_signalsOf_ok (κ := fun b => mp [] 0 (K32 b)) (p0 := p0.c) (Sl.map f53 (mp [] 0) rfl rfl) (Sl.map f54.rdc (mp [] 0) rfl rfl) (Sl.map f55 (mp [] 0) rfl rfl) hx69) ?_
      rintro _ w56 ⟨k57, rfl, e58⟩
      obtain ⟨K59, S60, m61⟩ := Ent.mixed (l := []) (κ := K32) e58 6 rfl
      refine ⟨trivial, ?_⟩
      refine WO.pn 2 rfl ?_
      refine WO.fin ?_
      refine DN.seq ?_
      refine WC.seq ?_
      refine WC.rx (κ := K59) [4, 5] (some 12) [(0, 2), (1, 2), (2, 2), (3, 2), (4, 2), (5, 0), (6, 0), (7, 1), (8, 1), (9, 2), (10, 2), (11, 2)] [(12, 1)] (by kernel_rfl) (by kernel_rfl) fun w64 S63 => ?_
      refine WO.pn 2 rfl ?_
      refine WO.k2 rfl rfl rfl rfl (rn_nilCheck rfl rfl) ?_
      refine WO.k2 rfl rfl rfl rfl (rn_fieldAddr Try.runUnderlying72 rfl Try.sizeOf27 rfl rfl) ?_
      refine WO.k2 rfl rfl rfl rfl (rn_fieldAddr Try.runUnderlying27 rfl Try.sizeOf25 rfl rfl) ?_
      have f65 := f40.stp (S60.tr S63) rfl rfl
      refine WO.k0 rfl rfl rfl rfl (rn_ld Try.isAgg25 rfl rfl (hvC (f65.ld 3 rfl rfl) rfl)) ?_
      have f66 := f41.stp (S60.tr S63) rfl rfl
      refine WO.k0 rfl rfl rfl rfl (rn_la (cs := [.int .i64 (if p2 < p1 then p2 else p1), .int .i64 (if p1 < p2 then p2 else p1)]) Try.isAgg33 Try.sizeOf33 rfl rfl rfl (haC f66.cells rfl)) ?_
      refine WO.bl (κ := K59) (E := Gate.ep33) 8 [] (parts := [(0, .tmp 77)]) (cells := [.int .i64 (if p2 < p1 then p2 else p1), .int .i64 (if p1 < p2 then p2 else p1)]) (xs := ([(⟨(if p2 < p1 then p2 else p1), (if p1 < p2 then p2 else p1)⟩ : Gate)] : List Gate)) rfl rfl rfl rfl rfl rfl Try.underlying25 Tryinfo33 rfl rfl rfl rfl rfl rfl rfl rfl rfl rfl ⟨[.int .i64 (if p2 < p1 then p2 else p1), .int .i64 (if p1 < p2 then p2 else p1)], [], Zl K59 w64 [], Zl K59 w64 [], rfl, Zl.sp (l1 := []) (l2 := []) rfl, Zl.sr (l1 := []) (l2 := []), ⟨[.int .i64 (if p2 < p1 then p2 else p1)], [.int .i64 (if p1 < p2 then p2 else p1)], Zl K59 w64 [], Zl K59 w64 [], rfl, Zl.sp (l1 := []) (l2 := []) rfl, Zl.sr (l1 := []) (l2 := []), rfl, rfl⟩, rfl⟩ fun a78 u78 w67 K68 S69 f70 => ⟨(S69.cl rfl), ?_⟩
      obtain ⟨x79, hx79, h⟩ := Option.bind_eq_some_iff.mp h
      have f71 := f54.stp (S60.tr (S63.tr S69)) rfl rfl
      refine WO.app (κ := K68) (E := Gate.ep33) 2 [] rfl rfl rfl rfl rfl rfl rfl rfl rfl Try.underlying25 Tryinfo33 rfl rfl rfl rfl f71 (Sl.srcP Gate.pu33 f70.rdc) sy_false hx79 rfl fun a79 u79 w72 K73 S74 f75 => ⟨((S69.tr S74).cl rfl), ?_⟩
      refine WO.k2 rfl rfl rfl rfl (rn_nilCheck rfl rfl) ?_
      refine WO.k2 rfl rfl rfl rfl (rn_fieldAddr Try.runUnderlying72 rfl Try.sizeOf27 rfl rfl) ?_
      refine WO.k2 rfl rfl rfl rfl (rn_fieldAddr Try.runUnderlying27 rfl Try.sizeOf25 rfl rfl) ?_
      refine WO.nx ?_
      have f76 := f65.stp (S69.tr S74) rfl rfl
      refine WO.stB (κ := K73) 4 (off := 3) (vc := [.slice a79 x79.length u79]) (cs' := [.int .i64 p0.c.Inputs, .int .i64 p0.c.Latches, .slice a0_0_2 p0.c.Next.length u0_0_2, .slice a79 x79.length u79, .slice a0_0_4 p0.c.Outs.length u0_0_4, .bool p0.full, .map (some mb0_2)]) rfl rfl rfl rfl rfl rfl rfl Try.sizeOf25 rfl rfl f76 rfl rfl fun w77 S78 f79 => ⟨trivial, ?_⟩
      refine WO.fin ?_
      refine DN.seq ?_
      refine WC.seq ?_
      refine WC.rs [(0, 2), (1, 1), (2, 2), (3, 1)] rfl ?_
      refine WO.pn 1 rfl ?_
      have f80 := f66.stp (S69.tr (S74.tr S78)) rfl rfl
      refine WO.k1 trivial rfl rfl rfl rfl (rn_la (cs := [.int .i64 (if p2 < p1 then p2 else p1), .int .i64 (if p1 < p2 then p2 else p1)]) Try.isAgg33 Try.sizeOf33 rfl rfl rfl (haE f80.cells)) ?_
      refine WO.pn 1 rfl ?_
      obtain ⟨x86, hx86, h⟩ := Option.bind_eq_some_iff.mp h
      have f81 := f53.stp (S60.tr (S63.tr (S69.tr (S74.tr S78)))) rfl rfl
      have f82 := f75.stp S78 rfl rfl
      have f83 := f55.stp (S60.tr (S63.tr (S69.tr (S74.tr S78)))) rfl rfl
      have f84 := f42.stp (S60.tr (S63.tr (S69.tr (S74.tr S78)))) rfl rfl
      refine WO.call rfl rfl rfl rfl rfl rfl Try.call72 (i_builder_learn_ok (κ := fun b => mp [(3, 2)] 0 (K73 b)) (p1 := (⟨(if p2 < p1 then p2 else p1), (if p1 < p2 then p2 else p1)⟩ : Gate)) (p0 := (⟨(⟨p0.c.Inputs, p0.c.Latches, p0.c.Next, x79, p0.c.Outs⟩ : Circuit), p0.full, p0.known⟩ : builder)) (Sl.map f81 (mp [(3, 2)] 0) rfl rfl) (Sl.map f82.rdc (mp [(3, 2)] 0) rfl rfl) (Sl.map f83 (mp [(3, 2)] 0) rfl rfl) (f84.map (mp [(3, 2)] 0) rfl rfl) (f79.map (mp [(3, 2)] 0) rfl rfl) hx86) ?_
      rintro _ w85 ⟨k86, rfl, e87, f88⟩
      obtain ⟨K89, S90, m91⟩ := Ent.mixed (l := [(3, 2)]) (κ := K73) e87 9 rfl
      refine ⟨trivial, ?_⟩
      have f93 := f88.mx' m91 rfl (rfl : 9 + 2 = 11)
      refine WO.fin ?_
      refine DN.seq ?_
      refine WC.seq ?_
      refine WC.rs [(0, 2), (1, 2)] rfl ?_
      refine WO.pn 2 rfl ?_
      refine WO.fin ?_
      refine DN.seq ?_
      refine WC.ret ?_
      have f94 := hE.stp (S5.tr (S10.tr (S25.tr (S33.tr (S36.tr (S38.tr (S60.tr (S63.tr (S69.tr (S74.tr (S78.tr S90))))))))))) rfl rfl
      have f95 := f82.stp S90 rfl rfl
      have f96 := f79.stp S90 rfl rfl
      refine DN.res (l := [.tmp 6]) Try.results44 (res_tmp rfl rfl) rfl ?_
      obtain rfl := Option.some.inj h
      exact ⟨(fun b => ren [(11, 3)] (K89 b)), a79, u79, rfl, (f94.map (ren [(11, 3)]) rfl rfl), (f95.map (ren [(11, 3)]) rfl rfl), (f93.map (ren [(11, 3)]) rfl rfl), (f96.map (ren [(11, 3)]) rfl rfl)⟩

/- loop.example/g00869/impl.withoutUnused -/
theorem i_withoutUnused_ok {w : World} {κ : Col} {a0_2 : Option Addr} {u0_2 : Nat} {a0_3 : Option Addr} {u0_3 : Nat} {a0_4 : Option Addr} {u0_4 : Nat} {p0 : Circuit} {a1 : Option Addr} {u1 : Nat} {p1 : (List Bool)} (g0_2 : Rd (Rp.int .i64) κ w 0 a0_2 u0_2 p0.Next) (g0_3 : Rd Gate.rp κ w 0 a0_3 u0_3 p0.Gates) (g0_4 : Rd (Rp.int .i64) κ w 0 a0_4 u0_4 p0.Outs) (g1 : Rd Rp.bool κ w 0 a1 u1 p1) {r : Circuit} (h : i_withoutUnused p0 p1 = some r) : Ret Try.prog 68 [.agg #[.int .i64 p0.Inputs, .int .i64 p0.Latches, .slice a0_2 p0.Next.length u0_2, .slice a0_3 p0.Gates.length u0_3, .slice a0_4 p0.Outs.length u0_4], .slice a1 p1.length u1] w (fun v w' => ∃ (κ' : Col) (ra0 : Option Addr) (ru0 : Nat) (ra1 : Option Addr) (ru1 : Nat) (ra2 : Option Addr) (ru2 : Nat), v = .agg #[.int .i64 r.Inputs, .int .i64 r.Latches, .slice ra0 r.Next.length ru0, .slice ra1 r.Gates.length ru1, .slice ra2 r.Outs.length ru2] ∧ Ent κ w κ' w' ∧ Oc (Ep.int .i64) 2 κ' w' 2 ra0 ru0 r.Next ∧ Oc Gate.ep33 33 κ' w' 3 ra1 ru1 r.Gates ∧ Oc (Ep.int .i64) 2 κ' w' 4 ra2 ru2 r.Outs) := by
 unfold i_withoutUnused at h
 refine Ret.enter Try.func68 rfl Try.ntmps68 rfl ?_
 dsimp only [envOf]
 have hE := Ent.refl κ w
 refine WC.seq ?_
 refine WC.rs [(0, 1), (1, 1)] rfl ?_
 refine WO.box (κ := κ) 2 rfl rfl rfl rfl rfl rfl rfl fun b2 w1 K2 S3 f4 => ⟨trivial, ?_⟩
 refine WO.alloc (κ := K2) 3 rfl rfl rfl rfl rfl Try.zeroValue27 rfl fun b4 w5 K6 S7 f8 => ⟨trivial, ?_⟩
 refine WO.fin ?_
 refine DN.seq ?_
 refine WC.seq ?_
 refine WC.rs [(0, 2), (1, 1), (2, 2), (3, 2), (4, 1), (5, 2), (6, 2)] rfl ?_
 refine WO.k2 rfl rfl rfl rfl (rn_fieldAddr Try.runUnderlying27 rfl Try.sizeOf2 rfl rfl) ?_
 have f9 := f4.stp S7 rfl rfl
 refine WO.k1 trivial rfl rfl rfl rfl (rn_ld Try.isAgg2 rfl rfl (hvE (f9.ld 0 rfl rfl))) ?_
 refine WO.pn 1 rfl ?_
 refine WO.k2 rfl rfl rfl rfl (rn_fieldAddr Try.runUnderlying27 rfl Try.sizeOf2 rfl rfl) ?_
 refine WO.k1 trivial rfl rfl rfl rfl (rn_ld Try.isAgg2 rfl rfl (hvE (f9.ld 1 rfl rfl))) ?_
 refine WO.pn 2 rfl ?_
 refine WO.fin ?_
 refine DN.seq ?_
 refine WC.seq ?_
 refine WC.rs [(0, 1), (1, 1), (2, 1), (3, 1), (4, 1)] rfl ?_
 refine WO.k1 trivial rfl rfl rfl rfl (rn_la (cs := [.int .i64 p0.Inputs, .int .i64 p0.Latches, .slice a0_2 p0.Next.length u0_2, .slice a0_3 p0.Gates.length u0_3, .slice a0_4 p0.Outs.length u0_4]) Try.isAgg27 Try.sizeOf27 rfl rfl rfl (haE f9.cells)) ?_
 obtain ⟨x23, hx23, h⟩ := Option.bind_eq_some_iff.mp h
 have f10 := g0_2.stp (S3.tr S7) rfl rfl
 have f11 := g0_3.stp (S3.tr S7) rfl rfl
 have f12 := g0_4.stp (S3.tr S7) rfl rfl
 refine WO.call rfl rfl rfl rfl rfl rfl Try.call36 (i_signalsOf_ok (κ := fun b => mp [] 0 (K6 b)) (p0 := p0) (Sl.map f10 (mp [] 0) rfl rfl) (Sl.map f11 (mp [] 0) rfl rfl) (Sl.map f12 (mp [] 0) rfl rfl) hx23) ?_
 rintro _ w13 ⟨k14, rfl, e15⟩
 obtain ⟨K16, S17, m18⟩ := Ent.mixed (l := []) (κ := K6) e15 4 rfl
 refine ⟨trivial, ?_⟩
 obtain ⟨x24, hx24, h⟩ := Option.bind_eq_some_iff.mp h
 refine WO.mk (κ := K16) (E := (Ep.int .i64)) (z := (0 : Int)) 6 rfl rfl rfl rfl rfl rfl rfl Try.underlying24 Tryinfo2 rfl rfl rfl rfl rfl (fun _ _ _ => rfl) (mkS_C hx24) fun a24 u24 w20 K21 S22 f23 => ⟨trivial, ?_⟩
 refine WO.alloc (κ := K21) 7 rfl rfl rfl rfl rfl Try.zeroValue24 rfl fun b6 w24 K25 S26 f27 => ⟨trivial, ?_⟩
 refine WO.stB0 (κ := K25) 7 (vc := [.slice a24 x24.length u24]) rfl rfl rfl rfl rfl rfl rfl Try.sizeOf24 rfl rfl f27 rfl fun w28 S29 f30 => ⟨trivial, ?_⟩
 refine WO.fin ?_
 refine DN.seq ?_
 refine WC.seq ?_
 refine WC.seq ?_
 refine WC.rs [(0, 2), (1, 2)] rfl ?_
 refine WO.pn 2 rfl ?_
 refine WO.fin ?_
 refine DN.seq ?_
 obtain ⟨_, hr31, h⟩ := Option.bind_eq_some_iff.mp h
 have hN31 := rng_ok hr31
 obtain ⟨q2, hq33, hK32⟩ := Option.bind_eq_some_iff.mp h
 clear h
 refine WC.meet (fun L w' => ∃ (κ' : Col) (s3 : (List Int)), L = [(1, .slice a1 p1.length u1), (2, .pointer (some ⟨b2, 0, none⟩)), (4, .pointer (some ⟨b4, 0, none⟩)), (5, .int .i64 (IntKind.i64.wrap ((IntKind.i64.wrap (1 + p0.Inputs)) + p0.Latches))), (6, .pointer (some ⟨b6, 0, none⟩))] ∧ Stp [6] K25 w28 κ' w' ∧ Oc (Ep.int .i64) 2 κ' w' 6 a24 u24 s3 ∧ x24.length = s3.length ∧ q2 = Sum.inr s3) ?_ ?_
 ·
  refine WC.block ?_
  have f44 := f23.stp (S26.tr S29) rfl rfl
  refine WC.loop (fun k L w' => ∃ (κ' : Col) (v26 : Int) (s1 : (List Int)), L = [(1, .slice a1 p1.length u1), (2, .pointer (some ⟨b2, 0, none⟩)), (4, .pointer (some ⟨b4, 0, none⟩)), (5, .int .i64 (IntKind.i64.wrap ((IntKind.i64.wrap (1 + p0.Inputs)) + p0.Latches))), (6, .pointer (some ⟨b6, 0, none⟩)), (25, .int .i64 (IntKind.i64.wrap ((IntKind.i64.wrap (1 + p0.Inputs)) + p0.Latches))), (26, .int .i64 v26)] ∧ Stp [6] K25 w28 κ' w' ∧ Oc (Ep.int .i64) 2 κ' w' 6 a24 u24 s1 ∧ x24.length = s1.length ∧ 0 ≤ v26 ∧ Int.toNat ((IntKind.i64.wrap ((IntKind.i64.wrap (1 + p0.Inputs)) + p0.Latches)) - v26) = k ∧ cntM i_withoutUnused_b0 k v26 s1 = some q2) ⟨_, _, ⟨K25, 0, (x24 : (List Int)), rfl, (Stp.refl _ _).wk rfl, f44, rfl, (by decide), (by simp), hq33⟩, fun a ha => (ha.more (ha.more (ha.more (ha.more (ha.more (ha.more (ha.more ha.nil rfl) rfl) rfl) rfl) rfl) rfl) rfl)⟩ ?_
  rintro k _ w39 ⟨K40, v26, s1, rfl, S41, f42, hn43, hj31, hJ31, h⟩
  rcases k with _ | k
  ·
   have hk45 := h; obtain ⟨o31, h⟩ := ex_eq (Sum.inr (Sum.inl s1) : Circuit ⊕ (((List Int)) ⊕ ((List Int))))
   have hc31 : decide (v26 < (IntKind.i64.wrap ((IntKind.i64.wrap (1 + p0.Inputs)) + p0.Latches))) = false := decide_eq_false (by omega)
   refine WC.seq ?_
   refine WC.rs [(0, 2)] rfl ?_
   refine WO.pn 1 rfl ?_
   refine WO.fin ?_
   refine DN.seq ?_
   refine WC.seq ?_
   refine WC.cf' rfl hc31 ?_
   refine WC.exit ?_
   refine DN.exitThen ?_
   refine DN.exitThen ?_
   obtain rfl := Option.some.inj h
   have h := hk45
   refine DN.hit ?_
   obtain rfl := Option.some.inj h
   exact DN.meet _ ⟨K40, (s1 : (List Int)), rfl, S41.wk rfl, f42, hn43, rfl⟩ fun a ha => (ha.more (ha.more (ha.more (ha.more (ha.more ha.nil rfl) rfl) rfl) rfl) rfl)
  ·
   obtain ⟨o31, h, hk45⟩ := Option.bind_eq_some_iff.mp h; unfold i_withoutUnused_b0 at h
   have hc31 : decide (v26 < (IntKind.i64.wrap ((IntKind.i64.wrap (1 + p0.Inputs)) + p0.Latches))) = true := decide_eq_true (by omega)
   refine WC.seq ?_
   refine WC.rs [(0, 2)] rfl ?_
   refine WO.pn 1 rfl ?_
   refine WO.fin ?_
   refine DN.seq ?_
   refine WC.seq ?_
   refine WC.ct' rfl hc31 ?_
   refine WC.skip ?_
   refine DN.seq ?_
   refine WC.seq ?_
   refine WC.block ?_
   refine WC.seq ?_
   refine WC.rs [(0, 2), (1, 2)] rfl ?_
   refine WO.pn 2 rfl ?_
   refine WO.fin ?_
   refine DN.seq ?_
   refine WC.rs [(0, 1), (1, 2), (2, 2), (3, 2), (4, 1)] rfl ?_
   have f46 := f30.stp S41 rfl rfl
   refine WO.k1 trivial rfl rfl rfl rfl (rn_ld Try.isAgg24 rfl rfl (hvE (f46.ld 0 rfl rfl))) ?_
   refine WO.pn 2 rfl ?_
   obtain ⟨x32, hx32, h⟩ := Option.bind_eq_some_iff.mp h
   refine WO.k2 rfl rfl rfl rfl (rn_index f42.rdc hx32 Try.runUnderlying24 Try.sizeOf2 rfl rfl hn43 rfl) ?_
   obtain ⟨y29, hy29, h⟩ := Option.bind_eq_some_iff.mp h
   refine WO.stI (κ := K40) (E := (Ep.int .i64)) 6 [] rfl rfl rfl rfl rfl rfl rfl rfl Try.sizeOf2 rfl rfl rfl rfl f42 hy29 fun w47 K48 S49 f50 => ⟨trivial, ?_⟩
   have hn51 : x24.length = y29.length := hn43.trans (setI_ok hy29).2.2.2.symm
   refine WO.fin ?_
   refine DN.block ?_
   refine DN.seq ?_
   refine WC.rs [(0, 2), (1, 2)] rfl ?_
   refine WO.pn 2 rfl ?_
   refine WO.fin ?_
   have hw31 : IntKind.wrap .i64 (v26 + 1) = v26 + 1 := wr1 hj31 (of_decide_eq_true hc31) hN31
   rw [hw31]
   have hc31 := of_decide_eq_true hc31
   obtain rfl := Option.some.inj h
   refine DN.round fun a ha => ?_
   exact ⟨k, _, Nat.lt_succ_self _, ⟨K48, v26 + 1, (y29 : (List Int)), rfl, (S41.tr S49).wk rfl, f50, hn51, by omega, by omega, hk45⟩, (ha.more (ha.more (ha.more (ha.more (ha.more (ha.more (ha.more ha.nil rfl) rfl) rfl) rfl) rfl) rfl) rfl)⟩
 rintro _ w34 ⟨K35, s3, rfl, S36, f37, hn38, rfl⟩
 have h := hK32
 dsimp only [aft] at h
 refine DN.seq ?_
 refine WC.seq ?_
 refine WC.rs [(0, 2), (1, 2)] rfl ?_
 refine WO.k2 rfl rfl rfl rfl (rn_makeFunc (first := []) (captured := [.tmp 6]) rfl rfl rfl ⟨_, rfl⟩) ?_
 refine WO.pn 1 rfl ?_
 refine WO.fin ?_
 refine DN.seq ?_
 refine WC.seq ?_
 refine WC.rs [(0, 2), (1, 1), (2, 2), (3, 1), (4, 2), (5, 1), (6, 1)] rfl ?_
 refine WO.k2 rfl rfl rfl rfl (rn_fieldAddr Try.runUnderlying27 rfl Try.sizeOf2 rfl rfl) ?_
 have f52 := f9.stp (S17.tr (S22.tr (S26.tr (S29.tr S36)))) rfl rfl
 refine WO.k1 trivial rfl rfl rfl rfl (rn_ld Try.isAgg2 rfl rfl (hvE (f52.ld 0 rfl rfl))) ?_
 refine WO.k2 rfl rfl rfl rfl (rn_fieldAddr Try.runUnderlying27 rfl Try.sizeOf2 rfl rfl) ?_
 refine WO.k1 trivial rfl rfl rfl rfl (rn_ld Try.isAgg2 rfl rfl (hvE (f52.ld 1 rfl rfl))) ?_
 refine WO.k2 rfl rfl rfl rfl (rn_build (parts := [(0, .tmp 36), (1, .tmp 38)]) (cells := [.int .i64 p0.Inputs, .int .i64 p0.Latches, .slice none 0 0, .slice none 0 0, .slice none 0 0]) rfl rfl (by kernel_rfl)) ?_
 refine WO.alloc (κ := K35) 8 rfl rfl rfl rfl rfl Try.zeroValue27 rfl fun b9 w53 K54 S55 f56 => ⟨trivial, ?_⟩
 refine WO.stB0 (κ := K54) 8 (vc := [.int .i64 p0.Inputs, .int .i64 p0.Latches, .slice none 0 0, .slice none 0 0, .slice none 0 0]) rfl rfl rfl rfl rfl rfl rfl Try.sizeOf27 rfl rfl f56 rfl fun w57 S58 f59 => ⟨trivial, ?_⟩
 refine WO.fin ?_
 refine DN.seq ?_
 refine WC.seq ?_
 refine WC.seq ?_
 refine WC.rs [(0, 2), (1, 1), (2, 2), (3, 2)] rfl ?_
 refine WO.k2 rfl rfl rfl rfl (rn_fieldAddr Try.runUnderlying27 rfl Try.sizeOf25 rfl rfl) ?_
 have f60 := f52.stp (S55.tr S58) rfl rfl
 refine WO.k1 trivial rfl rfl rfl rfl (rn_ld Try.isAgg25 rfl rfl (hvE (f60.ld 3 rfl rfl))) ?_
 refine WO.k2 rfl rfl rfl rfl (rn_len Try.runUnderlying25 rfl rfl) ?_
 refine WO.pn 1 rfl ?_
 refine WO.fin ?_
 refine DN.seq ?_
 have hN61 : (p0.Gates.length : Int) ≤ 9223372036854775807 := f11.len_le
 obtain ⟨q5, hq63, hK62⟩ := Option.bind_eq_some_iff.mp h
 clear h
 refine WC.meet (fun L w' => ∃ (κ' : Col) (s6 : (List Gate) × (List Int)) (las6_0 : Option Addr) (lus6_0 : Nat), L = [(2, .pointer (some ⟨b2, 0, none⟩)), (4, .pointer (some ⟨b4, 0, none⟩)), (8, .func (.func 84) #[] #[.pointer (some ⟨b6, 0, none⟩)]), (9, .pointer (some ⟨b9, 0, none⟩))] ∧ Stp [6, 8, 9, 10] K54 w57 κ' w' ∧ Oc Gate.ep33 33 κ' w' 9 las6_0 lus6_0 s6.1 ∧ Oc (Ep.int .i64) 2 κ' w' 6 a24 u24 s6.2 ∧ x24.length = s6.2.length ∧ Bc κ' w' 8 b9 27 [.int .i64 p0.Inputs, .int .i64 p0.Latches, .slice none 0 0, .slice las6_0 s6.1.length lus6_0, .slice none 0 0] ∧ q5 = Sum.inr s6) ?_ ?_
 ·
  refine WC.block ?_
  have f78 := f37.stp (S55.tr S58) rfl rfl
  refine WC.loop (fun k L w' => ∃ (κ' : Col) (v43 : Int) (s4 : (List Gate) × (List Int)) (las4_0 : Option Addr) (lus4_0 : Nat), L = [(1, .slice a1 p1.length u1), (2, .pointer (some ⟨b2, 0, none⟩)), (4, .pointer (some ⟨b4, 0, none⟩)), (5, .int .i64 (IntKind.i64.wrap ((IntKind.i64.wrap (1 + p0.Inputs)) + p0.Latches))), (6, .pointer (some ⟨b6, 0, none⟩)), (8, .func (.func 84) #[] #[.pointer (some ⟨b6, 0, none⟩)]), (9, .pointer (some ⟨b9, 0, none⟩)), (41, .slice a0_3 p0.Gates.length u0_3), (42, .int .i64 (p0.Gates.length : Int)), (43, .int .i64 v43)] ∧ Stp [6, 8, 9, 10] K54 w57 κ' w' ∧ Oc Gate.ep33 33 κ' w' 9 las4_0 lus4_0 s4.1 ∧ Oc (Ep.int .i64) 2 κ' w' 6 a24 u24 s4.2 ∧ x24.length = s4.2.length ∧ Bc κ' w' 8 b9 27 [.int .i64 p0.Inputs, .int .i64 p0.Latches, .slice none 0 0, .slice las4_0 s4.1.length lus4_0, .slice none 0 0] ∧ 0 ≤ v43 ∧ Int.toNat ((p0.Gates.length : Int) - v43) = k ∧ cntM (i_withoutUnused_b2 p0 p1) k v43 s4 = some q5) ⟨_, _, ⟨K54, 0, ((([] : List Gate) : (List Gate)), (s3 : (List Int))), none, 0, rfl, (Stp.refl _ _).wk rfl, Ow.nil, f78, hn38, f59, (by decide), (by simp), hq63⟩, fun a ha => (ha.more (ha.more (ha.more (ha.more (ha.more (ha.more (ha.more (ha.more (ha.more (ha.more ha.nil rfl) rfl) rfl) rfl) rfl) rfl) rfl) rfl) rfl) rfl)⟩ ?_
  rintro k _ w71 ⟨K72, v43, s4, las4_0, lus4_0, rfl, S73, f74, f75, hn76, f77, hj61, hJ61, h⟩
  rcases k with _ | k
  ·
   have hk79 := h; obtain ⟨o61, h⟩ := ex_eq (Sum.inr (Sum.inl s4) : Circuit ⊕ (((List Gate) × (List Int)) ⊕ ((List Gate) × (List Int))))
   have hc61 : decide (v43 < (p0.Gates.length : Int)) = false := decide_eq_false (by omega)
   refine WC.seq ?_
   refine WC.rs [(0, 2)] rfl ?_
   refine WO.pn 1 rfl ?_
   refine WO.fin ?_
   refine DN.seq ?_
   refine WC.seq ?_
   refine WC.cf' rfl hc61 ?_
   refine WC.exit ?_
   refine DN.exitThen ?_
   refine DN.exitThen ?_
   obtain rfl := Option.some.inj h
   have h := hk79
   refine DN.hit ?_
   obtain rfl := Option.some.inj h
   exact DN.meet _ ⟨K72, ((s4.1 : (List Gate)), (s4.2 : (List Int))), las4_0, lus4_0, rfl, S73.wk rfl, f74, f75, hn76, f77, rfl⟩ fun a ha => (ha.more (ha.more (ha.more (ha.more ha.nil rfl) rfl) rfl) rfl)
  ·
   obtain ⟨o61, h, hk79⟩ := Option.bind_eq_some_iff.mp h; unfold i_withoutUnused_b2 at h
   have hc61 : decide (v43 < (p0.Gates.length : Int)) = true := decide_eq_true (by omega)
   refine WC.seq ?_
   refine WC.rs [(0, 2)] rfl ?_
   refine WO.pn 1 rfl ?_
   refine WO.fin ?_
   refine DN.seq ?_
   refine WC.seq ?_
   refine WC.ct' rfl hc61 ?_
   refine WC.skip ?_
   refine DN.seq ?_
   refine WC.seq ?_
   refine WC.block ?_
   refine WC.seq ?_
   refine WC.rs [(0, 2), (1, 2), (2, 1), (3, 1), (4, 2), (5, 1)] rfl ?_
   refine WO.pn 1 rfl ?_
   obtain ⟨x46, hx46, h⟩ := Option.bind_eq_some_iff.mp h
   refine WO.k2 rfl rfl rfl rfl (rn_index f11 hx46 Try.runUnderlying25 Try.sizeOf33 rfl rfl rfl rfl) ?_
   have f80 := f11.stp (S17.tr (S22.tr (S26.tr (S29.tr (S36.tr (S55.tr (S58.tr S73))))))) rfl rfl
   obtain ⟨cse81, hre81, hle81⟩ := (f80).gSt hx46
   obtain rfl := Gate.un hre81
   refine WO.k1 trivial rfl rfl rfl rfl (rn_la (cs := [.int .i64 x46.A, .int .i64 x46.B]) Try.isAgg33 Try.sizeOf33 rfl rfl rfl (haE hle81)) ?_
   refine WO.alloc (κ := K72) 10 rfl rfl rfl rfl rfl Try.zeroValue33 rfl fun b11 w82 K83 S84 f85 => ⟨trivial, ?_⟩
   refine WO.pn 1 rfl ?_
   refine WO.stB0 (κ := K83) 10 (vc := [.int .i64 x46.A, .int .i64 x46.B]) rfl rfl rfl rfl rfl rfl rfl Try.sizeOf33 rfl rfl f85 rfl fun w86 S87 f88 => ⟨trivial, ?_⟩
   refine WO.fin ?_
   refine DN.seq ?_
   refine WC.seq ?_
   refine WC.rs [(0, 2), (1, 2), (2, 2), (3, 2), (4, 2), (5, 1)] rfl ?_
   refine WO.pn 4 rfl ?_
   obtain ⟨x52, hx52, h⟩ := Option.bind_eq_some_iff.mp h
   refine WO.k2 rfl rfl rfl rfl (rn_index g1 hx52 Try.runUnderlying77 Try.sizeOf4 rfl rfl rfl rfl) ?_
   have f89 := g1.stp (S3.tr (S7.tr (S17.tr (S22.tr (S26.tr (S29.tr (S36.tr (S55.tr (S58.tr (S73.tr (S84.tr S87))))))))))) rfl rfl
   refine WO.k1 trivial rfl rfl rfl rfl (rn_ld Try.isAgg4 rfl rfl (hvE (f89.gBool hx52))) ?_
   refine WO.fin ?_
   refine DN.seq ?_
   obtain ⟨q7, h, hK90⟩ := Option.bind_eq_some_iff.mp h
   refine WC.meet (fun L w' => ∃ (κ' : Col) (laq7_0 : Option Addr) (luq7_0 : Nat), L = [(1, .slice a1 p1.length u1), (2, .pointer (some ⟨b2, 0, none⟩)), (4, .pointer (some ⟨b4, 0, none⟩)), (5, .int .i64 (IntKind.i64.wrap ((IntKind.i64.wrap (1 + p0.Inputs)) + p0.Latches))), (6, .pointer (some ⟨b6, 0, none⟩)), (8, .func (.func 84) #[] #[.pointer (some ⟨b6, 0, none⟩)]), (9, .pointer (some ⟨b9, 0, none⟩)), (41, .slice a0_3 p0.Gates.length u0_3), (42, .int .i64 (p0.Gates.length : Int)), (43, .int .i64 v43)] ∧ Stp [6, 8, 9] K83 w86 κ' w' ∧ Oc Gate.ep33 33 κ' w' 9 laq7_0 luq7_0 q7.1 ∧ Oc (Ep.int .i64) 2 κ' w' 6 a24 u24 q7.2 ∧ x24.length = q7.2.length ∧ Bc κ' w' 8 b9 27 [.int .i64 p0.Inputs, .int .i64 p0.Latches, .slice none 0 0, .slice laq7_0 q7.1.length luq7_0, .slice none 0 0]) ?_ ?_
   ·
    revert h
    cases ht98 : x52 with
    | true =>
     intro h; replace h := cT h
     refine WC.ct rfl ?_
     refine WC.seq ?_
     refine WC.rx (κ := K83) [7, 8] none [(1, 2), (2, 2), (3, 2), (0, 0), (4, 0), (5, 1), (6, 2), (7, 1)] [] (by kernel_rfl) (by kernel_rfl) fun w100 S99 => ?_
     refine WO.pn 3 rfl ?_
     have f101 := f30.stp (S36.tr (S55.tr (S58.tr (S73.tr (S84.tr (S87.tr S99)))))) rfl rfl
     refine WO.k0 rfl rfl rfl rfl (rn_ld Try.isAgg24 rfl rfl (hvC (f101.ld 0 rfl rfl) rfl)) ?_
     have f102 := f77.stp (S84.tr (S87.tr S99)) rfl rfl
     refine WO.k0 rfl rfl rfl rfl (rn_la (cs := [.int .i64 p0.Inputs, .int .i64 p0.Latches, .slice none 0 0, .slice las4_0 s4.1.length lus4_0, .slice none 0 0]) Try.isAgg27 Try.sizeOf27 rfl rfl rfl (haC f102.cells rfl)) ?_
     obtain ⟨x59, hx59, h⟩ := Option.bind_eq_some_iff.mp h
     have f103 := f74.stp (S84.tr (S87.tr S99)) rfl rfl
     refine WO.call rfl rfl rfl rfl rfl rfl Try.call36 (i_signalsOf_ok (κ := fun b => mp [] 0 (K83 b)) (p0 := (⟨p0.Inputs, p0.Latches, ([] : List Int), s4.1, ([] : List Int)⟩ : Circuit)) Sl.nil (Sl.map f103.rdc (mp [] 0) rfl rfl) Sl.nil hx59) ?_
     rintro _ w104 ⟨k105, rfl, e106⟩
     obtain ⟨K107, S108, m109⟩ := Ent.mixed (l := []) (κ := K83) e106 11 rfl
     refine ⟨(S108.cl rfl), ?_⟩
     obtain ⟨x60, hx60, h⟩ := Option.bind_eq_some_iff.mp h
     refine WO.k2 rfl rfl rfl rfl (rn_index f75.rdc hx60 Try.runUnderlying24 Try.sizeOf2 rfl rfl hn76 rfl) ?_
     have f111 := f75.stp (S84.tr (S87.tr (S99.tr S108))) rfl rfl
     obtain ⟨y30, hy30, h⟩ := Option.bind_eq_some_iff.mp h
     refine WO.stI (κ := K107) (E := (Ep.int .i64)) 6 [] rfl rfl rfl rfl rfl rfl rfl rfl Try.sizeOf2 rfl rfl rfl rfl f111 hy30 fun w112 K113 S114 f115 => ⟨((S108.tr S114).cl rfl), ?_⟩
     have hn116 : x24.length = y30.length := hn76.trans (setI_ok hy30).2.2.2.symm
     refine WO.nx ?_
     refine WO.fin ?_
     refine DN.seq ?_
     refine WC.rx (κ := K113) [8, 10] (some 14) [(0, 2), (2, 2), (3, 2), (6, 2), (7, 2), (1, 0), (4, 0), (8, 0), (5, 1), (9, 1), (10, 2), (11, 1), (12, 1), (13, 2)] [(14, 1)] (by kernel_rfl) (by kernel_rfl) fun w118 S117 => ?_
     refine WO.k2 rfl rfl rfl rfl (rn_fieldAddr Try.runUnderlying27 rfl Try.sizeOf25 rfl rfl) ?_
     refine WO.pn 1 rfl ?_
     refine WO.k2 rfl rfl rfl rfl (rn_fieldAddr Try.runUnderlying33 rfl Try.sizeOf2 rfl rfl) ?_
     refine WO.pn 1 rfl ?_
     refine WO.k2 rfl rfl rfl rfl (rn_fieldAddr Try.runUnderlying33 rfl Try.sizeOf2 rfl rfl) ?_
     have f119 := f102.stp (S108.tr (S114.tr S117)) rfl rfl
     refine WO.k0 rfl rfl rfl rfl (rn_ld Try.isAgg25 rfl rfl (hvC (f119.ld 3 rfl rfl) rfl)) ?_
     have f120 := f88.stp (S99.tr (S108.tr (S114.tr S117))) rfl rfl
     refine WO.k0 rfl rfl rfl rfl (rn_ld Try.isAgg2 rfl rfl (hvC (f120.ld 0 rfl rfl) rfl)) ?_
     refine WO.k0 rfl rfl rfl rfl (rn_ld Try.isAgg2 rfl rfl (hvC (f120.ld 1 rfl rfl) rfl)) ?_
     obtain ⟨x66, hx66, h⟩ := Option.bind_eq_some_iff.mp h
     have f121 := f115.stp S117 rfl rfl
     have f122 := f101.stp (S108.tr (S114.tr S117)) rfl rfl
     refine WO.callV rfl rfl rfl rfl rfl rfl rfl rfl Try.call84 (i_withoutUnused_1_ok (κ := fun b => mp [] 0 (K113 b)) (Sl.map f121.rdc (mp [] 0) rfl rfl) (Bc.cast (f122.map (mp [] 0) rfl rfl) (by simp only [hn116])) hx66) ?_
     rintro _ w123 ⟨k124, rfl, e125⟩
     obtain ⟨K126, S127, m128⟩ := Ent.mixed (l := []) (κ := K113) e125 13 rfl
     refine ⟨(S127.cl rfl), ?_⟩
     obtain ⟨x70, hx70, h⟩ := Option.bind_eq_some_iff.mp h
     have f130 := f121.stp S127 rfl rfl
     have f131 := f122.stp S127 rfl rfl
     refine WO.callV rfl rfl rfl rfl rfl rfl rfl rfl Try.call84 (i_withoutUnused_1_ok (κ := fun b => mp [] 0 (K126 b)) (Sl.map f130.rdc (mp [] 0) rfl rfl) (Bc.cast (f131.map (mp [] 0) rfl rfl) (by simp only [hn116])) hx70) ?_
     rintro _ w132 ⟨k133, rfl, e134⟩
     obtain ⟨K135, S136, m137⟩ := Ent.mixed (l := []) (κ := K126) e134 15 rfl
     refine ⟨((S127.tr S136).cl rfl), ?_⟩
     refine WO.k2 rfl rfl rfl rfl (rn_build (parts := [(0, .tmp 66), (1, .tmp 70)]) (cells := [.int .i64 x66, .int .i64 x70]) rfl rfl (by kernel_rfl)) ?_
     refine WO.bl (κ := K135) (E := Gate.ep33) 17 [] (parts := [(0, .tmp 71)]) (cells := [.int .i64 x66, .int .i64 x70]) (xs := ([(⟨x66, x70⟩ : Gate)] : List Gate)) rfl rfl rfl rfl rfl rfl Try.underlying25 Tryinfo33 rfl rfl rfl rfl rfl rfl rfl rfl rfl rfl ⟨[.int .i64 x66, .int .i64 x70], [], Zl K135 w132 [], Zl K135 w132 [], rfl, Zl.sp (l1 := []) (l2 := []) rfl, Zl.sr (l1 := []) (l2 := []), ⟨[.int .i64 x66], [.int .i64 x70], Zl K135 w132 [], Zl K135 w132 [], rfl, Zl.sp (l1 := []) (l2 := []) rfl, Zl.sr (l1 := []) (l2 := []), rfl, rfl⟩, rfl⟩ fun a72 u72 w139 K140 S141 f142 => ⟨((S127.tr (S136.tr S141)).cl rfl), ?_⟩
     obtain ⟨x73, hx73, h⟩ := Option.bind_eq_some_iff.mp h
     have f143 := f103.stp (S108.tr (S114.tr (S117.tr (S127.tr (S136.tr S141))))) rfl rfl
     refine WO.app (κ := K140) (E := Gate.ep33) 9 [] rfl rfl rfl rfl rfl rfl rfl rfl rfl Try.underlying25 Tryinfo33 rfl rfl rfl rfl f143 (Sl.srcP Gate.pu33 f142.rdc) sy_false hx73 rfl fun a73 u73 w144 K145 S146 f147 => ⟨((S127.tr (S136.tr (S141.tr S146))).cl rfl), ?_⟩
     refine WO.k2 rfl rfl rfl rfl (rn_fieldAddr Try.runUnderlying27 rfl Try.sizeOf25 rfl rfl) ?_
     refine WO.nx ?_
     have f148 := f119.stp (S127.tr (S136.tr (S141.tr S146))) rfl rfl
     refine WO.stB (κ := K145) 8 (off := 3) (vc := [.slice a73 x73.length u73]) (cs' := [.int .i64 p0.Inputs, .int .i64 p0.Latches, .slice none 0 0, .slice a73 x73.length u73, .slice none 0 0]) rfl rfl rfl rfl rfl rfl rfl Try.sizeOf25 rfl rfl f148 rfl rfl fun w149 S150 f151 => ⟨trivial, ?_⟩
     refine WO.fin ?_
     have f152 := f147.stp S150 rfl rfl
     have f153 := f130.stp (S136.tr (S141.tr (S146.tr S150))) rfl rfl
     obtain rfl := Option.some.inj h
     exact DN.meet _ ⟨K145, a73, u73, rfl, (S99.tr (S108.tr (S114.tr (S117.tr (S127.tr (S136.tr (S141.tr (S146.tr S150)))))))).wk rfl, f152, f153, hn116, f151⟩ fun a ha => (ha.more (ha.more (ha.more (ha.more (ha.more (ha.more (ha.more (ha.more (ha.more (ha.more ha.nil rfl) rfl) rfl) rfl) rfl) rfl) rfl) rfl) rfl) rfl)
    | false =>
     intro h; replace h := cF h
     refine WC.cf rfl ?_
     refine WC.skip ?_
     have f154 := f74.stp (S84.tr S87) rfl rfl
     have f155 := f75.stp (S84.tr S87) rfl rfl
     have f156 := f77.stp (S84.tr S87) rfl rfl
     obtain rfl := Option.some.inj h
     exact DN.meet _ ⟨K83, las4_0, lus4_0, rfl, (Stp.refl _ _).wk rfl, f154, f155, hn76, f156⟩ fun a ha => (ha.more (ha.more (ha.more (ha.more (ha.more (ha.more (ha.more (ha.more (ha.more (ha.more ha.nil rfl) rfl) rfl) rfl) rfl) rfl) rfl) rfl) rfl) rfl)
   rintro _ w91 ⟨K92, laq7_0, luq7_0, rfl, S93, f94, f95, hn96, f97⟩
   have h := hK90
   refine DN.block ?_
   refine DN.seq ?_
   refine WC.rs [(0, 2), (1, 2)] rfl ?_
   refine WO.pn 2 rfl ?_
   refine WO.fin ?_
   have hw61 : IntKind.wrap .i64 (v43 + 1) = v43 + 1 := wr1 hj61 (of_decide_eq_true hc61) hN61
   rw [hw61]
   have hc61 := of_decide_eq_true hc61
   obtain rfl := Option.some.inj h
   refine DN.round fun a ha => ?_
   exact ⟨k, _, Nat.lt_succ_self _, ⟨K92, v43 + 1, ((q7.1 : (List Gate)), (q7.2 : (List Int))), laq7_0, luq7_0, rfl, (S73.tr (S84.tr (S87.tr S93))).wk rfl, f94, f95, hn96, f97, by omega, by omega, hk79⟩, (ha.more (ha.more (ha.more (ha.more (ha.more (ha.more (ha.more (ha.more (ha.more (ha.more ha.nil rfl) rfl) rfl) rfl) rfl) rfl) rfl) rfl) rfl) rfl)⟩
 rintro _ w64 ⟨K65, s6, las6_0, lus6_0, rfl, S66, f67, f68, hn69, f70, rfl⟩
 have h := hK62
 dsimp only [aft] at h
 refine DN.seq ?_
 refine WC.seq ?_
 refine WC.seq ?_
 refine WC.rs [(0, 2), (1, 1), (2, 2), (3, 2)] rfl ?_
 refine WO.k2 rfl rfl rfl rfl (rn_fieldAddr Try.runUnderlying27 rfl Try.sizeOf24 rfl rfl) ?_
 have f157 := f60.stp S66 rfl rfl
 refine WO.k1 trivial rfl rfl rfl rfl (rn_ld Try.isAgg24 rfl rfl (hvE (f157.ld 2 rfl rfl))) ?_
 refine WO.k2 rfl rfl rfl rfl (rn_len Try.runUnderlying24 rfl rfl) ?_
 refine WO.pn 1 rfl ?_
 refine WO.fin ?_
 refine DN.seq ?_
 have hN158 : (p0.Next.length : Int) ≤ 9223372036854775807 := f10.len_le
 obtain ⟨q9, hq160, hK159⟩ := Option.bind_eq_some_iff.mp h
 clear h
 refine WC.meet (fun L w' => ∃ (κ' : Col) (s10 : (List Int)) (las10_0 : Option Addr) (lus10_0 : Nat), L = [(2, .pointer (some ⟨b2, 0, none⟩)), (4, .pointer (some ⟨b4, 0, none⟩)), (8, .func (.func 84) #[] #[.pointer (some ⟨b6, 0, none⟩)]), (9, .pointer (some ⟨b9, 0, none⟩))] ∧ Stp [8, 10] K65 w64 κ' w' ∧ Oc (Ep.int .i64) 2 κ' w' 10 las10_0 lus10_0 s10 ∧ Bc κ' w' 8 b9 27 [.int .i64 p0.Inputs, .int .i64 p0.Latches, .slice las10_0 s10.length lus10_0, .slice las6_0 s6.1.length lus6_0, .slice none 0 0] ∧ q9 = Sum.inr s10) ?_ ?_
 ·
  refine WC.block ?_
  refine WC.loop (fun k L w' => ∃ (κ' : Col) (v79 : Int) (s8 : (List Int)) (las8_0 : Option Addr) (lus8_0 : Nat), L = [(2, .pointer (some ⟨b2, 0, none⟩)), (4, .pointer (some ⟨b4, 0, none⟩)), (8, .func (.func 84) #[] #[.pointer (some ⟨b6, 0, none⟩)]), (9, .pointer (some ⟨b9, 0, none⟩)), (77, .slice a0_2 p0.Next.length u0_2), (78, .int .i64 (p0.Next.length : Int)), (79, .int .i64 v79)] ∧ Stp [8, 10] K65 w64 κ' w' ∧ Oc (Ep.int .i64) 2 κ' w' 10 las8_0 lus8_0 s8 ∧ Bc κ' w' 8 b9 27 [.int .i64 p0.Inputs, .int .i64 p0.Latches, .slice las8_0 s8.length lus8_0, .slice las6_0 s6.1.length lus6_0, .slice none 0 0] ∧ 0 ≤ v79 ∧ Int.toNat ((p0.Next.length : Int) - v79) = k ∧ cntM (i_withoutUnused_b4 p0 s6) k v79 s8 = some q9) ⟨_, _, ⟨K65, 0, (([] : List Int) : (List Int)), none, 0, rfl, (Stp.refl _ _).wk rfl, Ow.nil, f70, (by decide), (by simp), hq160⟩, fun a ha => (ha.more (ha.more (ha.more (ha.more (ha.more (ha.more (ha.more ha.nil rfl) rfl) rfl) rfl) rfl) rfl) rfl)⟩ ?_
  rintro k _ w166 ⟨K167, v79, s8, las8_0, lus8_0, rfl, S168, f169, f170, hj158, hJ158, h⟩
  rcases k with _ | k
  ·
   have hk171 := h; obtain ⟨o158, h⟩ := ex_eq (Sum.inr (Sum.inl s8) : Circuit ⊕ (((List Int)) ⊕ ((List Int))))
   have hc158 : decide (v79 < (p0.Next.length : Int)) = false := decide_eq_false (by omega)
   refine WC.seq ?_
   refine WC.rs [(0, 2)] rfl ?_
   refine WO.pn 1 rfl ?_
   refine WO.fin ?_
   refine DN.seq ?_
   refine WC.seq ?_
   refine WC.cf' rfl hc158 ?_
   refine WC.exit ?_
   refine DN.exitThen ?_
   refine DN.exitThen ?_
   obtain rfl := Option.some.inj h
   have h := hk171
   refine DN.hit ?_
   obtain rfl := Option.some.inj h
   exact DN.meet _ ⟨K167, (s8 : (List Int)), las8_0, lus8_0, rfl, S168.wk rfl, f169, f170, rfl⟩ fun a ha => (ha.more (ha.more (ha.more (ha.more ha.nil rfl) rfl) rfl) rfl)
  ·
   obtain ⟨o158, h, hk171⟩ := Option.bind_eq_some_iff.mp h; unfold i_withoutUnused_b4 at h
   have hc158 : decide (v79 < (p0.Next.length : Int)) = true := decide_eq_true (by omega)
   refine WC.seq ?_
   refine WC.rs [(0, 2)] rfl ?_
   refine WO.pn 1 rfl ?_
   refine WO.fin ?_
   refine DN.seq ?_
   refine WC.seq ?_
   refine WC.ct' rfl hc158 ?_
   refine WC.skip ?_
   refine DN.seq ?_
   refine WC.seq ?_
   refine WC.block ?_
   refine WC.seq ?_
   refine WC.rs [(0, 2), (1, 1), (2, 2)] rfl ?_
   obtain ⟨x81, hx81, h⟩ := Option.bind_eq_some_iff.mp h
   refine WO.k2 rfl rfl rfl rfl (rn_index f10 hx81 Try.runUnderlying24 Try.sizeOf2 rfl rfl rfl rfl) ?_
   have f172 := f10.stp (S17.tr (S22.tr (S26.tr (S29.tr (S36.tr (S55.tr (S58.tr (S66.tr S168)))))))) rfl rfl
   refine WO.k1 trivial rfl rfl rfl rfl (rn_ld Try.isAgg2 rfl rfl (hvE (f172.gInt hx81))) ?_
   refine WO.pn 1 rfl ?_
   refine WO.fin ?_
   refine DN.seq ?_
   refine WC.rx (κ := K167) [8] (some 8) [(0, 2), (2, 2), (3, 2), (1, 0), (4, 1), (5, 1), (6, 1), (7, 2)] [(8, 1)] (by kernel_rfl) (by kernel_rfl) fun w174 S173 => ?_
   refine WO.k2 rfl rfl rfl rfl (rn_fieldAddr Try.runUnderlying27 rfl Try.sizeOf24 rfl rfl) ?_
   refine WO.pn 2 rfl ?_
   have f175 := f170.stp S173 rfl rfl
   refine WO.k0 rfl rfl rfl rfl (rn_ld Try.isAgg24 rfl rfl (hvC (f175.ld 2 rfl rfl) rfl)) ?_
   obtain ⟨x87, hx87, h⟩ := Option.bind_eq_some_iff.mp h
   have f176 := f68.stp (S168.tr S173) rfl rfl
   have f177 := f30.stp (S36.tr (S55.tr (S58.tr (S66.tr (S168.tr S173))))) rfl rfl
   refine WO.callV rfl rfl rfl rfl rfl rfl rfl rfl Try.call84 (i_withoutUnused_1_ok (κ := fun b => mp [] 0 (K167 b)) (Sl.map f176.rdc (mp [] 0) rfl rfl) (Bc.cast (f177.map (mp [] 0) rfl rfl) (by simp only [hn69])) hx87) ?_
   rintro _ w178 ⟨k179, rfl, e180⟩
   obtain ⟨K181, S182, m183⟩ := Ent.mixed (l := []) (κ := K167) e180 11 rfl
   refine ⟨(S182.cl rfl), ?_⟩
   refine WO.bl (κ := K181) (E := (Ep.int .i64)) 13 [] (parts := [(0, .tmp 87)]) (cells := [.int .i64 x87]) (xs := ([x87] : List Int)) rfl rfl rfl rfl rfl rfl Try.underlying24 Tryinfo2 rfl rfl rfl rfl rfl rfl rfl rfl rfl rfl ⟨[.int .i64 x87], [], Zl K181 w178 [], Zl K181 w178 [], rfl, Zl.sp (l1 := []) (l2 := []) rfl, Zl.sr (l1 := []) (l2 := []), rfl, rfl⟩ fun a88 u88 w185 K186 S187 f188 => ⟨((S182.tr S187).cl rfl), ?_⟩
   obtain ⟨x89, hx89, h⟩ := Option.bind_eq_some_iff.mp h
   have f189 := f169.stp (S173.tr (S182.tr S187)) rfl rfl
   refine WO.app (κ := K186) (E := (Ep.int .i64)) 10 [] rfl rfl rfl rfl rfl rfl rfl rfl rfl Try.underlying24 Tryinfo2 rfl rfl rfl rfl f189 (Sl.srcP (pu_int _) f188.rdc) sy_false hx89 rfl fun a89 u89 w190 K191 S192 f193 => ⟨((S182.tr (S187.tr S192)).cl rfl), ?_⟩
   refine WO.k2 rfl rfl rfl rfl (rn_fieldAddr Try.runUnderlying27 rfl Try.sizeOf24 rfl rfl) ?_
   refine WO.nx ?_
   have f194 := f175.stp (S182.tr (S187.tr S192)) rfl rfl
   refine WO.stB (κ := K191) 8 (off := 2) (vc := [.slice a89 x89.length u89]) (cs' := [.int .i64 p0.Inputs, .int .i64 p0.Latches, .slice a89 x89.length u89, .slice las6_0 s6.1.length lus6_0, .slice none 0 0]) rfl rfl rfl rfl rfl rfl rfl Try.sizeOf24 rfl rfl f194 rfl rfl fun w195 S196 f197 => ⟨trivial, ?_⟩
   refine WO.fin ?_
   refine DN.block ?_
   refine DN.seq ?_
   refine WC.rs [(0, 2), (1, 2)] rfl ?_
   refine WO.pn 2 rfl ?_
   refine WO.fin ?_
   have hw158 : IntKind.wrap .i64 (v79 + 1) = v79 + 1 := wr1 hj158 (of_decide_eq_true hc158) hN158
   rw [hw158]
   have hc158 := of_decide_eq_true hc158
   have f198 := f193.stp S196 rfl rfl
   obtain rfl := Option.some.inj h
   refine DN.round fun a ha => ?_
   exact ⟨k, _, Nat.lt_succ_self _, ⟨K191, v79 + 1, (x89 : (List Int)), a89, u89, rfl, (S168.tr (S173.tr (S182.tr (S187.tr (S192.tr S196))))).wk rfl, f198, f197, by omega, by omega, hk171⟩, (ha.more (ha.more (ha.more (ha.more (ha.more (ha.more (ha.more ha.nil rfl) rfl) rfl) rfl) rfl) rfl) rfl)⟩
 rintro _ w161 ⟨K162, s10, las10_0, lus10_0, rfl, S163, f164, f165, rfl⟩
 have h := hK159
 dsimp only [aft] at h
 refine DN.seq ?_
 refine WC.seq ?_
 refine WC.seq ?_
 refine WC.rs [(0, 2), (1, 1), (2, 2), (3, 2)] rfl ?_
 refine WO.k2 rfl rfl rfl rfl (rn_fieldAddr Try.runUnderlying27 rfl Try.sizeOf24 rfl rfl) ?_
 have f199 := f157.stp S163 rfl rfl
 refine WO.k1 trivial rfl rfl rfl rfl (rn_ld Try.isAgg24 rfl rfl (hvE (f199.ld 4 rfl rfl))) ?_
 refine WO.k2 rfl rfl rfl rfl (rn_len Try.runUnderlying24 rfl rfl) ?_
 refine WO.pn 1 rfl ?_
 refine WO.fin ?_
 refine DN.seq ?_
 have hN200 : (p0.Outs.length : Int) ≤ 9223372036854775807 := f12.len_le
 obtain ⟨q12, hq202, hK201⟩ := Option.bind_eq_some_iff.mp h
 clear h
 refine WC.meet (fun L w' => ∃ (κ' : Col) (s13 : (List Int)) (las13_0 : Option Addr) (lus13_0 : Nat), L = [(4, .pointer (some ⟨b4, 0, none⟩)), (9, .pointer (some ⟨b9, 0, none⟩))] ∧ Stp [8, 11] K162 w161 κ' w' ∧ Oc (Ep.int .i64) 2 κ' w' 11 las13_0 lus13_0 s13 ∧ Bc κ' w' 8 b9 27 [.int .i64 p0.Inputs, .int .i64 p0.Latches, .slice las10_0 s10.length lus10_0, .slice las6_0 s6.1.length lus6_0, .slice las13_0 s13.length lus13_0] ∧ q12 = Sum.inr s13) ?_ ?_
 ·
  refine WC.block ?_
  refine WC.loop (fun k L w' => ∃ (κ' : Col) (v95 : Int) (s11 : (List Int)) (las11_0 : Option Addr) (lus11_0 : Nat), L = [(4, .pointer (some ⟨b4, 0, none⟩)), (8, .func (.func 84) #[] #[.pointer (some ⟨b6, 0, none⟩)]), (9, .pointer (some ⟨b9, 0, none⟩)), (93, .slice a0_4 p0.Outs.length u0_4), (94, .int .i64 (p0.Outs.length : Int)), (95, .int .i64 v95)] ∧ Stp [8, 11] K162 w161 κ' w' ∧ Oc (Ep.int .i64) 2 κ' w' 11 las11_0 lus11_0 s11 ∧ Bc κ' w' 8 b9 27 [.int .i64 p0.Inputs, .int .i64 p0.Latches, .slice las10_0 s10.length lus10_0, .slice las6_0 s6.1.length lus6_0, .slice las11_0 s11.length lus11_0] ∧ 0 ≤ v95 ∧ Int.toNat ((p0.Outs.length : Int) - v95) = k ∧ cntM (i_withoutUnused_b6 p0 s6) k v95 s11 = some q12) ⟨_, _, ⟨K162, 0, (([] : List Int) : (List Int)), none, 0, rfl, (Stp.refl _ _).wk rfl, Ow.nil, f165, (by decide), (by simp), hq202⟩, fun a ha => (ha.more (ha.more (ha.more (ha.more (ha.more (ha.more ha.nil rfl) rfl) rfl) rfl) rfl) rfl)⟩ ?_
  rintro k _ w208 ⟨K209, v95, s11, las11_0, lus11_0, rfl, S210, f211, f212, hj200, hJ200, h⟩
  rcases k with _ | k
  ·
   have hk213 := h; obtain ⟨o200, h⟩ := ex_eq (Sum.inr (Sum.inl s11) : Circuit ⊕ (((List Int)) ⊕ ((List Int))))
   have hc200 : decide (v95 < (p0.Outs.length : Int)) = false := decide_eq_false (by omega)
   refine WC.seq ?_
   refine WC.rs [(0, 2)] rfl ?_
   refine WO.pn 1 rfl ?_
   refine WO.fin ?_
   refine DN.seq ?_
   refine WC.seq ?_
   refine WC.cf' rfl hc200 ?_
   refine WC.exit ?_
   refine DN.exitThen ?_
   refine DN.exitThen ?_
   obtain rfl := Option.some.inj h
   have h := hk213
   refine DN.hit ?_
   obtain rfl := Option.some.inj h
   exact DN.meet _ ⟨K209, (s11 : (List Int)), las11_0, lus11_0, rfl, S210.wk rfl, f211, f212, rfl⟩ fun a ha => (ha.more (ha.more ha.nil rfl) rfl)
  ·
   obtain ⟨o200, h, hk213⟩ := Option.bind_eq_some_iff.mp h; unfold i_withoutUnused_b6 at h
   have hc200 : decide (v95 < (p0.Outs.length : Int)) = true := decide_eq_true (by omega)
   refine WC.seq ?_
   refine WC.rs [(0, 2)] rfl ?_
   refine WO.pn 1 rfl ?_
   refine WO.fin ?_
   refine DN.seq ?_
   refine WC.seq ?_
   refine WC.ct' rfl hc200 ?_
   refine WC.skip ?_
   refine DN.seq ?_
   refine WC.seq ?_
   refine WC.block ?_
   refine WC.seq ?_
   refine WC.rs [(0, 2), (1, 1), (2, 2)] rfl ?_
   obtain ⟨x97, hx97, h⟩ := Option.bind_eq_some_iff.mp h
   refine WO.k2 rfl rfl rfl rfl (rn_index f12 hx97 Try.runUnderlying24 Try.sizeOf2 rfl rfl rfl rfl) ?_
   have f214 := f12.stp (S17.tr (S22.tr (S26.tr (S29.tr (S36.tr (S55.tr (S58.tr (S66.tr (S163.tr S210))))))))) rfl rfl
   refine WO.k1 trivial rfl rfl rfl rfl (rn_ld Try.isAgg2 rfl rfl (hvE (f214.gInt hx97))) ?_
   refine WO.pn 1 rfl ?_
   refine WO.fin ?_
   refine DN.seq ?_
   refine WC.rx (κ := K209) [8] (some 8) [(0, 2), (2, 2), (3, 2), (1, 0), (4, 1), (5, 1), (6, 1), (7, 2)] [(8, 1)] (by kernel_rfl) (by kernel_rfl) fun w216 S215 => ?_
   refine WO.k2 rfl rfl rfl rfl (rn_fieldAddr Try.runUnderlying27 rfl Try.sizeOf24 rfl rfl) ?_
   refine WO.pn 2 rfl ?_
   have f217 := f212.stp S215 rfl rfl
   refine WO.k0 rfl rfl rfl rfl (rn_ld Try.isAgg24 rfl rfl (hvC (f217.ld 4 rfl rfl) rfl)) ?_
   obtain ⟨x103, hx103, h⟩ := Option.bind_eq_some_iff.mp h
   have f218 := f68.stp (S163.tr (S210.tr S215)) rfl rfl
   have f219 := f30.stp (S36.tr (S55.tr (S58.tr (S66.tr (S163.tr (S210.tr S215)))))) rfl rfl
   refine WO.callV rfl rfl rfl rfl rfl rfl rfl rfl Try.call84 (i_withoutUnused_1_ok (κ := fun b => mp [] 0 (K209 b)) (Sl.map f218.rdc (mp [] 0) rfl rfl) (Bc.cast (f219.map (mp [] 0) rfl rfl) (by simp only [hn69])) hx103) ?_
   rintro _ w220 ⟨k221, rfl, e222⟩
   obtain ⟨K223, S224, m225⟩ := Ent.mixed (l := []) (κ := K209) e222 12 rfl
   refine ⟨(S224.cl rfl), ?_⟩
   refine WO.bl (κ := K223) (E := (Ep.int .i64)) 14 [] (parts := [(0, .tmp 103)]) (cells := [.int .i64 x103]) (xs := ([x103] : List Int)) rfl rfl rfl rfl rfl rfl Try.underlying24 Tryinfo2 rfl rfl rfl rfl rfl rfl rfl rfl rfl rfl ⟨[.int .i64 x103], [], Zl K223 w220 [], Zl K223 w220 [], rfl, Zl.sp (l1 := []) (l2 := []) rfl, Zl.sr (l1 := []) (l2 := []), rfl, rfl⟩ fun a104 u104 w227 K228 S229 f230 => ⟨((S224.tr S229).cl rfl), ?_⟩
   obtain ⟨x105, hx105, h⟩ := Option.bind_eq_some_iff.mp h
   have f231 := f211.stp (S215.tr (S224.tr S229)) rfl rfl
   refine WO.app (κ := K228) (E := (Ep.int .i64)) 11 [] rfl rfl rfl rfl rfl rfl rfl rfl rfl Try.underlying24 Tryinfo2 rfl rfl rfl rfl f231 (Sl.srcP (pu_int _) f230.rdc) sy_false hx105 rfl fun a105 u105 w232 K233 S234 f235 => ⟨((S224.tr (S229.tr S234)).cl rfl), ?_⟩
   refine WO.k2 rfl rfl rfl rfl (rn_fieldAddr Try.runUnderlying27 rfl Try.sizeOf24 rfl rfl) ?_
   refine WO.nx ?_
   have f236 := f217.stp (S224.tr (S229.tr S234)) rfl rfl
   refine WO.stB (κ := K233) 8 (off := 4) (vc := [.slice a105 x105.length u105]) (cs' := [.int .i64 p0.Inputs, .int .i64 p0.Latches, .slice las10_0 s10.length lus10_0, .slice las6_0 s6.1.length lus6_0, .slice a105 x105.length u105]) rfl rfl rfl rfl rfl rfl rfl Try.sizeOf24 rfl rfl f236 rfl rfl fun w237 S238 f239 => ⟨trivial, ?_⟩
   refine WO.fin ?_
   refine DN.block ?_
   refine DN.seq ?_
   refine WC.rs [(0, 2), (1, 2)] rfl ?_
   refine WO.pn 2 rfl ?_
   refine WO.fin ?_
   have hw200 : IntKind.wrap .i64 (v95 + 1) = v95 + 1 := wr1 hj200 (of_decide_eq_true hc200) hN200
   rw [hw200]
   have hc200 := of_decide_eq_true hc200
   have f240 := f235.stp S238 rfl rfl
   obtain rfl := Option.some.inj h
   refine DN.round fun a ha => ?_
   exact ⟨k, _, Nat.lt_succ_self _, ⟨K233, v95 + 1, (x105 : (List Int)), a105, u105, rfl, (S210.tr (S215.tr (S224.tr (S229.tr (S234.tr S238))))).wk rfl, f240, f239, by omega, by omega, hk213⟩, (ha.more (ha.more (ha.more (ha.more (ha.more (ha.more ha.nil rfl) rfl) rfl) rfl) rfl) rfl)⟩
 rintro _ w203 ⟨K204, s13, las13_0, lus13_0, rfl, S205, f206, f207, rfl⟩
 have h := hK201
 dsimp only [aft] at h
 refine DN.seq ?_
 refine WC.seq ?_
 refine WC.rs [(0, 1), (1, 1)] rfl ?_
 refine WO.k1 trivial rfl rfl rfl rfl (rn_la (cs := [.int .i64 p0.Inputs, .int .i64 p0.Latches, .slice las10_0 s10.length lus10_0, .slice las6_0 s6.1.length lus6_0, .slice las13_0 s13.length lus13_0]) Try.isAgg27 Try.sizeOf27 rfl rfl rfl (haE f207.cells)) ?_
 have f241 := f8.stp (S17.tr (S22.tr (S26.tr (S29.tr (S36.tr (S55.tr (S58.tr (S66.tr (S163.tr S205))))))))) rfl rfl
 refine WO.stB0 (κ := K204) 3 (vc := [.int .i64 p0.Inputs, .int .i64 p0.Latches, .slice las10_0 s10.length lus10_0, .slice las6_0 s6.1.length lus6_0, .slice las13_0 s13.length lus13_0]) rfl rfl rfl rfl rfl rfl rfl Try.sizeOf27 rfl rfl f241 rfl fun w242 S243 f244 => ⟨trivial, ?_⟩
 refine WO.fin ?_
 refine DN.seq ?_
 refine WC.ret ?_
 have f245 := hE.stp (S3.tr (S7.tr (S17.tr (S22.tr (S26.tr (S29.tr (S36.tr (S55.tr (S58.tr (S66.tr (S163.tr (S205.tr S243)))))))))))) rfl rfl
 have f246 := f164.stp (S205.tr S243) rfl rfl
 have f247 := f67.stp (S163.tr (S205.tr S243)) rfl rfl
 have f248 := f206.stp S243 rfl rfl
 refine DN.res (l := [.cell 4 27]) Try.results68 (res_cellA rfl f244 Try.isAgg27 Try.sizeOf27 rfl rfl) rfl ?_
 obtain rfl := Option.some.inj h
 exact ⟨(fun b => ren [(10, 2), (9, 3), (11, 4)] (K204 b)), las10_0, lus10_0, las6_0, lus6_0, las13_0, lus13_0, rfl, (f245.map (ren [(10, 2), (9, 3), (11, 4)]) rfl rfl), (f246.map (ren [(10, 2), (9, 3), (11, 4)]) rfl rfl), (f247.map (ren [(10, 2), (9, 3), (11, 4)]) rfl rfl), (f248.map (ren [(10, 2), (9, 3), (11, 4)]) rfl rfl)⟩

/- loop.example/g00869/spec.l31Number -/
theorem s_l31Number_ok {w : World} {κ : Col} {a0 : Option Addr} {u0 : Nat} {p0 : (List Bool)} {a1 : Option Addr} {u1 : Nat} {p1 : (List Int)} (g0 : Rd Rp.bool κ w 0 a0 u0 p0) (g1 : Rd (Rp.int .i64) κ w 0 a1 u1 p1) {r : Int} (h : s_l31Number p0 p1 = some r) : Ret Try.prog 71 [.slice a0 p0.length u0, .slice a1 p1.length u1] w (fun v w' => ∃ (κ' : Col), v = .int .i64 r ∧ Ent κ w κ' w') := by
 unfold s_l31Number at h
 refine Ret.enter Try.func71 rfl Try.ntmps71 rfl ?_
 dsimp only [envOf]
 have hE := Ent.refl κ w
 refine WC.seq ?_
 refine WC.rs [(0, 2)] rfl ?_
 refine WO.pn 1 rfl ?_
 refine WO.fin ?_
 refine DN.seq ?_
 refine WC.seq ?_
 refine WC.rs [(0, 2)] rfl ?_
 refine WO.pn 1 rfl ?_
 refine WO.fin ?_
 refine DN.seq ?_
 refine WC.seq ?_
 refine WC.seq ?_
 refine WC.rs [(0, 2)] rfl ?_
 refine WO.pn 1 rfl ?_
 refine WO.fin ?_
 refine DN.seq ?_
 have hN1 : (p1.length : Int) ≤ 9223372036854775807 := g1.len_le
 obtain ⟨q2, hq3, hK2⟩ := Option.bind_eq_some_iff.mp h
 clear h
 refine WC.meet (fun L w' => ∃ (κ' : Col) (s3 : Int), L = [(5, .int .i64 s3)] ∧ Stp [] κ w κ' w' ∧ q2 = Sum.inr s3) ?_ ?_
 ·
  refine WC.block ?_
  refine WC.loop (fun k L w' => ∃ (κ' : Col) (v6 : Int) (s1 : Int), L = [(0, .slice a0 p0.length u0), (1, .slice a1 p1.length u1), (5, .int .i64 s1), (6, .int .i64 v6)] ∧ Stp [] κ w κ' w' ∧ 0 ≤ v6 ∧ Int.toNat ((p1.length : Int) - v6) = k ∧ cntM (s_l31Number_b0 p0 p1) k v6 s1 = some q2) ⟨_, _, ⟨κ, 0, (0 : Int), rfl, (Stp.refl _ _).wk rfl, (by decide), (by simp), hq3⟩, fun a ha => (ha.more (ha.more (ha.more (ha.more ha.nil rfl) rfl) rfl) rfl)⟩ ?_
  rintro k _ w7 ⟨K8, v6, s1, rfl, S9, hj1, hJ1, h⟩
  rcases k with _ | k
  ·
   have hk10 := h; obtain ⟨o1, h⟩ := ex_eq (Sum.inr (Sum.inl s1) : Int ⊕ ((Int) ⊕ (Int)))
   have hc1 : decide (v6 < (p1.length : Int)) = false := decide_eq_false (by omega)
   refine WC.seq ?_
   refine WC.seq ?_
   refine WC.rs [(0, 2), (1, 2), (2, 2), (3, 2)] rfl ?_
   refine WO.pn 2 rfl ?_
   refine WO.k2 rfl rfl rfl rfl (rn_len Try.runUnderlying24 rfl rfl) ?_
   refine WO.pn 1 rfl ?_
   refine WO.fin ?_
   refine DN.seq ?_
   refine WC.cf' rfl hc1 ?_
   refine WC.exit ?_
   refine DN.exitThen ?_
   refine DN.exitThen ?_
   obtain rfl := Option.some.inj h
   have h := hk10
   refine DN.hit ?_
   obtain rfl := Option.some.inj h
   exact DN.meet _ ⟨K8, (s1 : Int), rfl, S9.wk rfl, rfl⟩ fun a ha => (ha.more ha.nil rfl)
  ·
   obtain ⟨o1, h, hk10⟩ := Option.bind_eq_some_iff.mp h; unfold s_l31Number_b0 at h
   have hc1 : decide (v6 < (p1.length : Int)) = true := decide_eq_true (by omega)
   refine WC.seq ?_
   refine WC.seq ?_
   refine WC.rs [(0, 2), (1, 2), (2, 2), (3, 2)] rfl ?_
   refine WO.pn 2 rfl ?_
   refine WO.k2 rfl rfl rfl rfl (rn_len Try.runUnderlying24 rfl rfl) ?_
   refine WO.pn 1 rfl ?_
   refine WO.fin ?_
   refine DN.seq ?_
   refine WC.ct' rfl hc1 ?_
   refine WC.skip ?_
   refine DN.seq ?_
   refine WC.seq ?_
   refine WC.block ?_
   refine WC.seq ?_
   refine WC.rs [(0, 2), (1, 2), (2, 2), (3, 2), (4, 1), (5, 1)] rfl ?_
   refine WO.pn 3 rfl ?_
   obtain ⟨x16, hx16, h⟩ := Option.bind_eq_some_iff.mp h
   refine WO.k2 rfl rfl rfl rfl (rn_index g1 hx16 Try.runUnderlying24 Try.sizeOf2 rfl rfl rfl rfl) ?_
   have f11 := g1.stp S9 rfl rfl
   refine WO.k1 trivial rfl rfl rfl rfl (rn_ld Try.isAgg2 rfl rfl (hvE (f11.gInt hx16))) ?_
   obtain ⟨x18, hx18, h⟩ := Option.bind_eq_some_iff.mp h
   have f12 := g0.stp S9 rfl rfl
   refine WO.call rfl rfl rfl rfl rfl rfl Try.call70 (s_l31True_ok (κ := fun b => mp [] 0 (K8 b)) (Sl.map f12 (mp [] 0) rfl rfl) hx18) ?_
   rintro _ w13 ⟨k14, rfl, e15⟩
   obtain ⟨K16, S17, m18⟩ := Ent.mixed (l := []) (κ := K8) e15 2 rfl
   refine ⟨trivial, ?_⟩
   refine WO.fin ?_
   refine DN.seq ?_
   obtain ⟨q4, h, hK20⟩ := Option.bind_eq_some_iff.mp h
   refine WC.meet (fun L w' => ∃ (κ' : Col), L = [(0, .slice a0 p0.length u0), (1, .slice a1 p1.length u1), (5, .int .i64 q4), (6, .int .i64 v6)] ∧ Stp [] K16 w13 κ' w') ?_ ?_
   ·
    revert h
    cases ht24 : x18 with
    | true =>
     intro h; replace h := cT h
     refine WC.ct rfl ?_
     refine WC.rs [(0, 2), (1, 2), (2, 1), (3, 2), (4, 2)] rfl ?_
     refine WO.pn 2 rfl ?_
     obtain ⟨x21, hx21, h⟩ := Option.bind_eq_some_iff.mp h
     refine WO.call rfl rfl rfl rfl rfl rfl Try.call39 (s_l31Pow_ok (κ := fun b => mp [] 0 (K16 b)) hx21) ?_
     rintro _ w25 ⟨k26, rfl, e27⟩
     obtain ⟨K28, S29, m30⟩ := Ent.mixed (l := []) (κ := K16) e27 4 rfl
     refine ⟨trivial, ?_⟩
     refine WO.pn 2 rfl ?_
     refine WO.fin ?_
     obtain rfl := Option.some.inj h
     exact DN.meet _ ⟨K28, rfl, S29.wk rfl⟩ fun a ha => (ha.more (ha.more (ha.more (ha.more ha.nil rfl) rfl) rfl) rfl)
    | false =>
     intro h; replace h := cF h
     refine WC.cf rfl ?_
     refine WC.skip ?_
     obtain rfl := Option.some.inj h
     exact DN.meet _ ⟨K16, rfl, (Stp.refl _ _).wk rfl⟩ fun a ha => (ha.more (ha.more (ha.more (ha.more ha.nil rfl) rfl) rfl) rfl)
   rintro _ w21 ⟨K22, rfl, S23⟩
   have h := hK20
   refine DN.block ?_
   refine DN.seq ?_
   refine WC.rs [(0, 2), (1, 2), (2, 2)] rfl ?_
   refine WO.pn 3 rfl ?_
   refine WO.fin ?_
   have hw1 : IntKind.wrap .i64 (v6 + 1) = v6 + 1 := wr1 hj1 (of_decide_eq_true hc1) hN1
   rw [hw1]
   have hc1 := of_decide_eq_true hc1
   obtain rfl := Option.some.inj h
   refine DN.round fun a ha => ?_
   exact ⟨k, _, Nat.lt_succ_self _, ⟨K22, v6 + 1, (q4 : Int), rfl, (S9.tr (S17.tr S23)).wk rfl, by omega, by omega, hk10⟩, (ha.more (ha.more (ha.more (ha.more ha.nil rfl) rfl) rfl) rfl)⟩
 rintro _ w4 ⟨K5, s3, rfl, S6, rfl⟩
 have h := hK2
 dsimp only [aft] at h
 refine DN.seq ?_
 refine WC.seq ?_
 refine WC.rs [(0, 2), (1, 2)] rfl ?_
 refine WO.pn 2 rfl ?_
 refine WO.fin ?_
 refine DN.seq ?_
 refine WC.ret ?_
 have f32 := hE.stp S6 rfl rfl
 refine DN.res (l := [.tmp 4]) Try.results71 (res_tmp rfl rfl) rfl ?_
 obtain rfl := Option.some.inj h
 exact ⟨K5, rfl, f32⟩

/- loop.example/g00869/spec.l23Below -/
theorem s_l23Below_ok {w : World} {κ : Col} {a0 : Option Addr} {u0 : Nat} {p0 : (List Int)} {p1 : Int} (g0 : Rd (Rp.int .i64) κ w 0 a0 u0 p0) {r : Bool} (h : s_l23Below p0 p1 = some r) : Ret Try.prog 57 [.slice a0 p0.length u0, .int .i64 p1] w (fun v w' => ∃ (κ' : Col), v = .bool r ∧ Ent κ w κ' w') := by
 unfold s_l23Below at h
 refine Ret.enter Try.func57 rfl Try.ntmps57 rfl ?_
 dsimp only [envOf]
 have hE := Ent.refl κ w
 refine WC.seq ?_
 refine WC.rs [(0, 2)] rfl ?_
 refine WO.pn 1 rfl ?_
 refine WO.fin ?_
 refine DN.seq ?_
 refine WC.seq ?_
 refine WC.seq ?_
 refine WC.rs [(0, 2)] rfl ?_
 refine WO.pn 1 rfl ?_
 refine WO.fin ?_
 refine DN.seq ?_
 have hN1 : (p0.length : Int) ≤ 9223372036854775807 := g0.len_le
 obtain ⟨q2, hq3, hK2⟩ := Option.bind_eq_some_iff.mp h
 clear h
 refine WC.meet (fun L w' => ∃ (κ' : Col), L = [] ∧ Stp [] κ w κ' w' ∧ q2 = Sum.inr ()) ?_ ?_
 ·
  refine WC.block ?_
  refine WC.loop (fun k L w' => ∃ (κ' : Col) (v5 : Int), L = [(0, .slice a0 p0.length u0), (1, .int .i64 p1), (5, .int .i64 v5)] ∧ Stp [] κ w κ' w' ∧ 0 ≤ v5 ∧ Int.toNat ((p0.length : Int) - v5) = k ∧ cntM (s_l23Below_b0 p0 p1) k v5 () = some q2) ⟨_, _, ⟨κ, 0, rfl, (Stp.refl _ _).wk rfl, (by decide), (by simp), hq3⟩, fun a ha => (ha.more (ha.more (ha.more ha.nil rfl) rfl) rfl)⟩ ?_
  rintro k _ w7 ⟨K8, v5, rfl, S9, hj1, hJ1, h⟩
  rcases k with _ | k
  ·
   have hk10 := h; obtain ⟨o1, h⟩ := ex_eq (Sum.inr (Sum.inl ()) : Bool ⊕ ((Unit) ⊕ (Unit)))
   have hc1 : decide (v5 < (p0.length : Int)) = false := decide_eq_false (by omega)
   refine WC.seq ?_
   refine WC.seq ?_
   refine WC.rs [(0, 2), (1, 2), (2, 2), (3, 2)] rfl ?_
   refine WO.pn 2 rfl ?_
   refine WO.k2 rfl rfl rfl rfl (rn_len Try.runUnderlying24 rfl rfl) ?_
   refine WO.pn 1 rfl ?_
   refine WO.fin ?_
   refine DN.seq ?_
   refine WC.cf' rfl hc1 ?_
   refine WC.exit ?_
   refine DN.exitThen ?_
   refine DN.exitThen ?_
   obtain rfl := Option.some.inj h
   have h := hk10
   refine DN.hit ?_
   obtain rfl := Option.some.inj h
   exact DN.meet _ ⟨K8, rfl, S9.wk rfl, rfl⟩ fun a ha => ha.nil
  ·
   obtain ⟨o1, h, hk10⟩ := Option.bind_eq_some_iff.mp h; unfold s_l23Below_b0 at h
   have hc1 : decide (v5 < (p0.length : Int)) = true := decide_eq_true (by omega)
   refine WC.seq ?_
   refine WC.seq ?_
   refine WC.rs [(0, 2), (1, 2), (2, 2), (3, 2)] rfl ?_
   refine WO.pn 2 rfl ?_
   refine WO.k2 rfl rfl rfl rfl (rn_len Try.runUnderlying24 rfl rfl) ?_
   refine WO.pn 1 rfl ?_
   refine WO.fin ?_
   refine DN.seq ?_
   refine WC.ct' rfl hc1 ?_
   refine WC.skip ?_
   refine DN.seq ?_
   refine WC.seq ?_
   refine WC.block ?_
   refine WC.seq ?_
   refine WC.rs [(0, 2), (1, 2), (2, 2), (3, 1), (4, 2), (5, 2), (6, 1), (7, 2)] rfl ?_
   refine WO.pn 2 rfl ?_
   obtain ⟨x14, hx14, h⟩ := Option.bind_eq_some_iff.mp h
   refine WO.k2 rfl rfl rfl rfl (rn_index g0 hx14 Try.runUnderlying24 Try.sizeOf2 rfl rfl rfl rfl) ?_
   have f11 := g0.stp S9 rfl rfl
   refine WO.k1 trivial rfl rfl rfl rfl (rn_ld Try.isAgg2 rfl rfl (hvE (f11.gInt hx14))) ?_
   refine WO.pn 2 rfl ?_
   obtain ⟨x18, hx18, h⟩ := Option.bind_eq_some_iff.mp h
   refine WO.call rfl rfl rfl rfl rfl rfl Try.call33 (s_l1In_ok (κ := fun b => mp [] 0 (K8 b)) hx18) ?_
   rintro _ w12 ⟨k13, rfl, e14⟩
   obtain ⟨K15, S16, m17⟩ := Ent.mixed (l := []) (κ := K8) e14 2 rfl
   refine ⟨trivial, ?_⟩
   refine WO.pn 1 rfl ?_
   refine WO.fin ?_
   refine DN.seq ?_
   revert h
   cases ht19 : (!x18) with
   | true =>
    intro h; replace h := cT h
    refine WC.ct rfl ?_
    refine WC.seq ?_
    refine WC.rs [(0, 2)] rfl ?_
    refine WO.pn 1 rfl ?_
    refine WO.fin ?_
    refine DN.seq ?_
    refine WC.ret ?_
    refine DN.retBlock ?_
    refine DN.retThen ?_
    refine DN.retThen ?_
    obtain rfl := Option.some.inj h
    obtain rfl := Option.some.inj hk10
    have h := hK2
    dsimp only [aft] at h
    refine DN.retBlock ?_
    refine DN.retMeet ?_
    refine DN.retThen ?_
    have f20 := hE.stp (S9.tr S16) rfl rfl
    refine DN.res (l := [.tmp 4]) Try.results57 (res_tmp rfl rfl) rfl ?_
    obtain rfl := Option.some.inj h
    exact ⟨K15, rfl, f20⟩
   | false =>
    intro h; replace h := cF h
    refine WC.cf rfl ?_
    refine WC.skip ?_
    refine DN.block ?_
    refine DN.seq ?_
    refine WC.rs [(0, 2), (1, 2), (2, 2)] rfl ?_
    refine WO.pn 3 rfl ?_
    refine WO.fin ?_
    have hw1 : IntKind.wrap .i64 (v5 + 1) = v5 + 1 := wr1 hj1 (of_decide_eq_true hc1) hN1
    rw [hw1]
    have hc1 := of_decide_eq_true hc1
    obtain rfl := Option.some.inj h
    refine DN.round fun a ha => ?_
    exact ⟨k, _, Nat.lt_succ_self _, ⟨K15, v5 + 1, rfl, (S9.tr S16).wk rfl, by omega, by omega, hk10⟩, (ha.more (ha.more (ha.more ha.nil rfl) rfl) rfl)⟩
 rintro _ w4 ⟨K5, rfl, S6, rfl⟩
 have h := hK2
 dsimp only [aft] at h
 refine DN.seq ?_
 refine WC.seq ?_
 refine WC.rs [(0, 2)] rfl ?_
 refine WO.pn 1 rfl ?_
 refine WO.fin ?_
 refine DN.seq ?_
 refine WC.ret ?_
 have f21 := hE.stp S6 rfl rfl
 refine DN.res (l := [.tmp 4]) Try.results57 (res_tmp rfl rfl) rfl ?_
 obtain rfl := Option.some.inj h
 exact ⟨K5, rfl, f21⟩

end Go.Proofs.Ythjkonkcdfdfaaa
