/- The walks, part 8. By program. -/
import Derived.Test.YthjkonkcdfdfaaaFnsU6
set_option linter.unusedVariables false
set_option linter.unusedSimpArgs false
namespace Go.Proofs.Ythjkonkcdfdfaaa
open Go Go.Wk Go.Proofs
set_option maxRecDepth 100000
set_option maxHeartbeats 1000000

/- loop.example/g00869/impl.CircuitMeets -/
theorem i_CircuitMeets_ok {w : World} {κ : Col} {p0 : Sig} {a1_2 : Option Addr} {u1_2 : Nat} {a1_3 : Option Addr} {u1_3 : Nat} {a1_4 : Option Addr} {u1_4 : Nat} {p1 : Circuit} {a2_0 : Option Addr} {u2_0 : Nat} {a2_1 : Option Addr} {u2_1 : Nat} {p2 : Machine} (g1_2 : Rd (Rp.int .i64) κ w 0 a1_2 u1_2 p1.Next) (g1_3 : Rd Gate.rp κ w 0 a1_3 u1_3 p1.Gates) (g1_4 : Rd (Rp.int .i64) κ w 0 a1_4 u1_4 p1.Outs) (g2_0 : Rd (Rp.sl (Rp.int .i64)) κ w 0 a2_0 u2_0 p2.Next) (g2_1 : Rd (Rp.sl (Rp.int .i64)) κ w 0 a2_1 u2_1 p2.Out) {r : Bool} (h : i_CircuitMeets p0 p1 p2 = some r) : Ret Try.prog 24 [.agg #[.int .i64 p0.In, .int .i64 p0.Out], .agg #[.int .i64 p1.Inputs, .int .i64 p1.Latches, .slice a1_2 p1.Next.length u1_2, .slice a1_3 p1.Gates.length u1_3, .slice a1_4 p1.Outs.length u1_4], .agg #[.slice a2_0 p2.Next.length u2_0, .slice a2_1 p2.Out.length u2_1]] w (fun v w' => ∃ (κ' : Col), v = .bool r ∧ Ent κ w κ' w') := by
 unfold i_CircuitMeets at h
 refine Ret.enter Try.func24 rfl Try.ntmps24 rfl ?_
 dsimp only [envOf]
 have hE := Ent.refl κ w
 refine WC.seq ?_
 refine WC.rs [(0, 1), (1, 1), (2, 1), (3, 2)] rfl ?_
 refine WO.box (κ := κ) 2 rfl rfl rfl rfl rfl rfl rfl fun b3 w1 K2 S3 f4 => ⟨trivial, ?_⟩
 refine WO.box (κ := K2) 3 rfl rfl rfl rfl rfl rfl rfl fun b4 w5 K6 S7 f8 => ⟨trivial, ?_⟩
 refine WO.box (κ := K6) 4 rfl rfl rfl rfl rfl rfl rfl fun b5 w9 K10 S11 f12 => ⟨trivial, ?_⟩
 refine WO.pn 1 rfl ?_
 refine WO.fin ?_
 refine DN.seq ?_
 refine WC.seq ?_
 refine WC.seq ?_
 refine WC.rs [(0, 1), (1, 1), (2, 2), (3, 2), (4, 1), (5, 1), (6, 1), (7, 2), (8, 2), (9, 2), (10, 1), (11, 1), (12, 2), (13, 2), (14, 2), (15, 2), (16, 1), (17, 2), (18, 1), (19, 2), (20, 2), (21, 2), (22, 2), (23, 1), (24, 2), (25, 2), (26, 1), (27, 2), (28, 2)] rfl ?_
 have f13 := f4.stp (S7.tr S11) rfl rfl
 refine WO.k1 trivial rfl rfl rfl rfl (rn_la (cs := [.int .i64 p0.In, .int .i64 p0.Out]) Try.isAgg43 Try.sizeOf43 rfl rfl rfl (haE f13.cells)) ?_
 obtain ⟨x15, hx15, h⟩ := Option.bind_eq_some_iff.mp h
 refine WO.call rfl rfl rfl rfl rfl rfl Try.call50 (i_isSig_ok (κ := fun b => mp [] 0 (K10 b)) (p0 := p0) hx15) ?_
 rintro _ w14 ⟨k15, rfl, e16⟩
 obtain ⟨K17, S18, m19⟩ := Ent.mixed (l := []) (κ := K10) e16 5 rfl
 refine ⟨trivial, ?_⟩
 refine WO.pn 2 rfl ?_
 obtain ⟨p22, h, hK21⟩ := Option.bind_eq_some_iff.mp h
 refine WO.meet [(4, 1), (5, 1), (6, 1), (7, 2), (8, 2)] [(9, 2), (10, 1), (11, 1), (12, 2), (13, 2), (14, 2), (15, 2), (16, 1), (17, 2), (18, 1), (19, 2), (20, 2), (21, 2), (22, 2), (23, 1), (24, 2), (25, 2), (26, 1), (27, 2), (28, 2)] (fun L w' => L = [(3, .pointer (some ⟨b3, 0, none⟩)), (4, .pointer (some ⟨b4, 0, none⟩)), (5, .pointer (some ⟨b5, 0, none⟩)), (22, .bool p22)] ∧ ∃ κ', Stp [] K17 w14 κ' w') trivial ?_ ?_
 ·
  revert h
  cases ht22 : (!x15) with
  | true =>
   intro h; replace h := cT h
   refine WO.ls rfl rfl rfl rfl ?_
   refine WO.ls rfl rfl rfl rfl ?_
   refine WO.ls rfl rfl rfl rfl ?_
   refine WO.pn 2 rfl ?_
   obtain rfl := Option.some.inj h
   exact WO.met _ trivial ⟨rfl, _, (Stp.refl _ _).wk rfl⟩ fun a ha => (ha.more (ha.more (ha.more (ha.more ha.nil rfl) rfl) rfl) rfl)
  | false =>
   intro h; replace h := cF h
   have f23 := f13.stp S18 rfl rfl
   refine WO.k1 trivial rfl rfl rfl rfl (rn_la (cs := [.int .i64 p0.In, .int .i64 p0.Out]) Try.isAgg43 Try.sizeOf43 rfl rfl rfl (haE f23.cells)) ?_
   have f24 := f12.stp S18 rfl rfl
   refine WO.k1 trivial rfl rfl rfl rfl (rn_la (cs := [.slice a2_0 p2.Next.length u2_0, .slice a2_1 p2.Out.length u2_1]) Try.isAgg46 Try.sizeOf46 rfl rfl rfl (haE f24.cells)) ?_
   obtain ⟨x20, hx20, h⟩ := Option.bind_eq_some_iff.mp h
   have f25 := g2_0.stp (S3.tr (S7.tr (S11.tr S18))) rfl rfl
   have f26 := g2_1.stp (S3.tr (S7.tr (S11.tr S18))) rfl rfl
   refine WO.call rfl rfl rfl rfl rfl rfl Try.call51 (i_isMachine_ok (κ := fun b => mp [] 0 (K17 b)) (p0 := p0) (p1 := p2) (Sl.map f25 (mp [] 0) rfl rfl) (Sl.map f26 (mp [] 0) rfl rfl) hx20) ?_
   rintro _ w27 ⟨k28, rfl, e29⟩
   obtain ⟨K30, S31, m32⟩ := Ent.mixed (l := []) (κ := K17) e29 7 rfl
   refine ⟨trivial, ?_⟩
   refine WO.pn 2 rfl ?_
   obtain rfl := Option.some.inj h
   exact WO.met _ trivial ⟨rfl, _, S31.wk rfl⟩ fun a ha => (ha.more (ha.more (ha.more (ha.more ha.nil rfl) rfl) rfl) rfl)
 rintro _ w34 _ ⟨rfl, K35, S36⟩
 have h := hK21
 refine WO.pn 1 rfl ?_
 obtain ⟨p27, h, hK37⟩ := Option.bind_eq_some_iff.mp h
 refine WO.meet [(10, 1), (11, 1), (12, 2), (13, 2)] [(14, 2), (15, 2), (16, 1), (17, 2), (18, 1), (19, 2), (20, 2), (21, 2), (22, 2), (23, 1), (24, 2), (25, 2), (26, 1), (27, 2), (28, 2)] (fun L w' => L = [(3, .pointer (some ⟨b3, 0, none⟩)), (4, .pointer (some ⟨b4, 0, none⟩)), (5, .pointer (some ⟨b5, 0, none⟩)), (27, .bool p27)] ∧ ∃ κ', Stp [] K35 w34 κ' w') trivial ?_ ?_
 ·
  revert h
  cases ht38 : p22 with
  | true =>
   intro h; replace h := cT h
   refine WO.ls rfl rfl rfl rfl ?_
   refine WO.ls rfl rfl rfl rfl ?_
   refine WO.pn 2 rfl ?_
   obtain rfl := Option.some.inj h
   exact WO.met _ trivial ⟨rfl, _, (Stp.refl _ _).wk rfl⟩ fun a ha => (ha.more (ha.more (ha.more (ha.more ha.nil rfl) rfl) rfl) rfl)
  | false =>
   intro h; replace h := cF h
   have f39 := f8.stp (S11.tr (S18.tr S36)) rfl rfl
   refine WO.k1 trivial rfl rfl rfl rfl (rn_la (cs := [.int .i64 p1.Inputs, .int .i64 p1.Latches, .slice a1_2 p1.Next.length u1_2, .slice a1_3 p1.Gates.length u1_3, .slice a1_4 p1.Outs.length u1_4]) Try.isAgg27 Try.sizeOf27 rfl rfl rfl (haE f39.cells)) ?_
   obtain ⟨x25, hx25, h⟩ := Option.bind_eq_some_iff.mp h
   have f40 := g1_2.stp (S3.tr (S7.tr (S11.tr (S18.tr S36)))) rfl rfl
   have f41 := g1_3.stp (S3.tr (S7.tr (S11.tr (S18.tr S36)))) rfl rfl
   have f42 := g1_4.stp (S3.tr (S7.tr (S11.tr (S18.tr S36)))) rfl rfl
   refine WO.call rfl rfl rfl rfl rfl rfl Try.call31 (i_isCircuit_ok (κ := fun b => mp [] 0 (K35 b)) (p0 := p1) (Sl.map f40 (mp [] 0) rfl rfl) (Sl.map f41 (mp [] 0) rfl rfl) (Sl.map f42 (mp [] 0) rfl rfl) hx25) ?_
   rintro _ w43 ⟨k44, rfl, e45⟩
   obtain ⟨K46, S47, m48⟩ := Ent.mixed (l := []) (κ := K35) e45 7 rfl
   refine ⟨trivial, ?_⟩
   refine WO.pn 2 rfl ?_
   obtain rfl := Option.some.inj h
   exact WO.met _ trivial ⟨rfl, _, S47.wk rfl⟩ fun a ha => (ha.more (ha.more (ha.more (ha.more ha.nil rfl) rfl) rfl) rfl)
 rintro _ w50 _ ⟨rfl, K51, S52⟩
 have h := hK37
 refine WO.pn 1 rfl ?_
 obtain ⟨p34, h, hK53⟩ := Option.bind_eq_some_iff.mp h
 refine WO.meet [(15, 2), (16, 1), (17, 2), (18, 1), (19, 2), (20, 2)] [(21, 2), (22, 2), (23, 1), (24, 2), (25, 2), (26, 1), (27, 2), (28, 2)] (fun L w' => L = [(3, .pointer (some ⟨b3, 0, none⟩)), (4, .pointer (some ⟨b4, 0, none⟩)), (5, .pointer (some ⟨b5, 0, none⟩)), (34, .bool p34)] ∧ ∃ κ', Stp [] K51 w50 κ' w') trivial ?_ ?_
 ·
  revert h
  cases ht54 : p27 with
  | true =>
   intro h; replace h := cT h
   refine WO.pn 1 rfl ?_
   refine WO.ls rfl rfl rfl rfl ?_
   refine WO.pn 1 rfl ?_
   refine WO.ls rfl rfl rfl rfl ?_
   refine WO.pn 2 rfl ?_
   obtain rfl := Option.some.inj h
   exact WO.met _ trivial ⟨rfl, _, (Stp.refl _ _).wk rfl⟩ fun a ha => (ha.more (ha.more (ha.more (ha.more ha.nil rfl) rfl) rfl) rfl)
  | false =>
   intro h; replace h := cF h
   refine WO.k2 rfl rfl rfl rfl (rn_fieldAddr Try.runUnderlying27 rfl Try.sizeOf2 rfl rfl) ?_
   have f55 := f8.stp (S11.tr (S18.tr (S36.tr S52))) rfl rfl
   refine WO.k1 trivial rfl rfl rfl rfl (rn_ld Try.isAgg2 rfl rfl (hvE (f55.ld 0 rfl rfl))) ?_
   refine WO.k2 rfl rfl rfl rfl (rn_fieldAddr Try.runUnderlying43 rfl Try.sizeOf2 rfl rfl) ?_
   have f56 := f13.stp (S18.tr (S36.tr S52)) rfl rfl
   refine WO.k1 trivial rfl rfl rfl rfl (rn_ld Try.isAgg2 rfl rfl (hvE (f56.ld 0 rfl rfl))) ?_
   refine WO.pn 2 rfl ?_
   obtain rfl := Option.some.inj h
   exact WO.met _ trivial ⟨rfl, _, (Stp.refl _ _).wk rfl⟩ fun a ha => (ha.more (ha.more (ha.more (ha.more ha.nil rfl) rfl) rfl) rfl)
 rintro _ w57 _ ⟨rfl, K58, S59⟩
 have h := hK53
 refine WO.pn 1 rfl ?_
 obtain ⟨p42, h, hK60⟩ := Option.bind_eq_some_iff.mp h
 refine WO.meet [(22, 2), (23, 1), (24, 2), (25, 2), (26, 1), (27, 2), (28, 2)] [] (fun L w' => L = [(4, .pointer (some ⟨b4, 0, none⟩)), (5, .pointer (some ⟨b5, 0, none⟩)), (42, .bool p42)] ∧ ∃ κ', Stp [] K58 w57 κ' w') trivial ?_ ?_
 ·
  revert h
  cases ht61 : p34 with
  | true =>
   intro h; replace h := cT h
   refine WO.pn 1 rfl ?_
   refine WO.ls rfl rfl rfl rfl ?_
   refine WO.pn 2 rfl ?_
   refine WO.ls rfl rfl rfl rfl ?_
   refine WO.pn 2 rfl ?_
   obtain rfl := Option.some.inj h
   exact WO.met _ trivial ⟨rfl, _, (Stp.refl _ _).wk rfl⟩ fun a ha => (ha.more (ha.more (ha.more ha.nil rfl) rfl) rfl)
  | false =>
   intro h; replace h := cF h
   refine WO.k2 rfl rfl rfl rfl (rn_fieldAddr Try.runUnderlying27 rfl Try.sizeOf24 rfl rfl) ?_
   have f62 := f8.stp (S11.tr (S18.tr (S36.tr (S52.tr S59)))) rfl rfl
   refine WO.k1 trivial rfl rfl rfl rfl (rn_ld Try.isAgg24 rfl rfl (hvE (f62.ld 4 rfl rfl))) ?_
   refine WO.k2 rfl rfl rfl rfl (rn_len Try.runUnderlying24 rfl rfl) ?_
   refine WO.k2 rfl rfl rfl rfl (rn_fieldAddr Try.runUnderlying43 rfl Try.sizeOf2 rfl rfl) ?_
   have f63 := f13.stp (S18.tr (S36.tr (S52.tr S59))) rfl rfl
   refine WO.k1 trivial rfl rfl rfl rfl (rn_ld Try.isAgg2 rfl rfl (hvE (f63.ld 1 rfl rfl))) ?_
   refine WO.pn 2 rfl ?_
   obtain rfl := Option.some.inj h
   exact WO.met _ trivial ⟨rfl, _, (Stp.refl _ _).wk rfl⟩ fun a ha => (ha.more (ha.more (ha.more ha.nil rfl) rfl) rfl)
 rintro _ w64 _ ⟨rfl, K65, S66⟩
 have h := hK60
 refine WO.fin ?_
 refine DN.seq ?_
 revert h
 cases ht67 : p42 with
 | true =>
  intro h; replace h := cT h
  refine WC.ct rfl ?_
  refine WC.seq ?_
  refine WC.rs [(0, 2)] rfl ?_
  refine WO.pn 1 rfl ?_
  refine WO.fin ?_
  refine DN.seq ?_
  refine WC.ret ?_
  refine DN.retThen ?_
  have f68 := hE.stp (S3.tr (S7.tr (S11.tr (S18.tr (S36.tr (S52.tr (S59.tr S66))))))) rfl rfl
  refine DN.res (l := [.tmp 6]) Try.results24 (res_tmp rfl rfl) rfl ?_
  obtain rfl := Option.some.inj h
  exact ⟨K65, rfl, f68⟩
 | false =>
  intro h; replace h := cF h
  refine WC.cf rfl ?_
  refine WC.skip ?_
  refine DN.seq ?_
  refine WC.seq ?_
  refine WC.rs [(0, 2), (1, 1), (2, 2)] rfl ?_
  refine WO.k2 rfl rfl rfl rfl (rn_build (parts := [(0, .const (.int .i64 0)), (1, .const (.int .i64 0))]) (cells := [.int .i64 0, .int .i64 0]) rfl rfl (by kernel_rfl)) ?_
  refine WO.bl (κ := K65) (E := (Ep.pair (Ep.int .i64) (Ep.int .i64))) 7 [] (parts := [(0, .tmp 43)]) (cells := [.int .i64 0, .int .i64 0]) (xs := ([(0, 0)] : List (Int × Int))) rfl rfl rfl rfl rfl rfl Try.underlying82 Tryinfo81 rfl rfl rfl rfl rfl rfl rfl rfl rfl rfl ⟨[.int .i64 0, .int .i64 0], [], Zl K65 w64 [], Zl K65 w64 [], rfl, Zl.sp (l1 := []) (l2 := []) rfl, Zl.sr (l1 := []) (l2 := []), ⟨[.int .i64 0], [.int .i64 0], Zl K65 w64 [], Zl K65 w64 [], rfl, Zl.sp (l1 := []) (l2 := []) rfl, Zl.sr (l1 := []) (l2 := []), rfl, rfl⟩, rfl⟩ fun a44 u44 w69 K70 S71 f72 => ⟨trivial, ?_⟩
  refine WO.pn 1 rfl ?_
  refine WO.fin ?_
  refine DN.seq ?_
  refine WC.seq ?_
  refine WC.seq ?_
  refine WC.rs [(0, 2)] rfl ?_
  refine WO.pn 1 rfl ?_
  refine WO.fin ?_
  refine DN.seq ?_
  obtain ⟨q2, hq75, hK74⟩ := Option.bind_eq_some_iff.mp h
  clear h
  refine WC.meet (fun L w' => ∃ (κ' : Col) (s3 : (List (Int × Int)) × Int) (las3_0 : Option Addr) (lus3_0 : Nat), L = [] ∧ Stp [7, 10] K70 w69 κ' w' ∧ Oc (Ep.pair (Ep.int .i64) (Ep.int .i64)) 81 κ' w' 7 las3_0 lus3_0 s3.1 ∧ q2 = Sum.inr s3) ?_ ?_
  ·
   refine WC.block ?_
   refine WC.loop (fun k L w' => ∃ (κ' : Col) (s1 : (List (Int × Int)) × Int) (las1_0 : Option Addr) (lus1_0 : Nat), L = [(4, .pointer (some ⟨b4, 0, none⟩)), (5, .pointer (some ⟨b5, 0, none⟩)), (7, .slice las1_0 s1.1.length lus1_0), (8, .int .i64 s1.2)] ∧ Stp [7, 10] K70 w69 κ' w' ∧ Oc (Ep.pair (Ep.int .i64) (Ep.int .i64)) 81 κ' w' 7 las1_0 lus1_0 s1.1 ∧ whileM (i_CircuitMeets_b0 p1 p2) k s1 = some q2) ⟨_, _, ⟨K70, ((([(0, 0)] : List (Int × Int)) : (List (Int × Int))), (0 : Int)), a44, u44, rfl, (Stp.refl _ _).wk rfl, f72, hq75⟩, fun a ha => (ha.more (ha.more (ha.more (ha.more ha.nil rfl) rfl) rfl) rfl)⟩ ?_
   rintro k _ w80 ⟨K81, s1, las1_0, lus1_0, rfl, S82, f83, h⟩
   rcases k with _ | k
   ·
    cases h
   ·
    obtain ⟨o73, h, hk84⟩ := Option.bind_eq_some_iff.mp h; unfold i_CircuitMeets_b0 at h
    refine WC.seq ?_
    refine WC.seq ?_
    refine WC.rs [(0, 2), (1, 2), (2, 2), (3, 2)] rfl ?_
    refine WO.pn 2 rfl ?_
    refine WO.k2 rfl rfl rfl rfl (rn_len Try.runUnderlying82 rfl rfl) ?_
    refine WO.pn 1 rfl ?_
    refine WO.fin ?_
    refine DN.seq ?_
    revert h
    cases ht85 : decide (s1.2 < (s1.1.length : Int)) with
    | true =>
     intro h; replace h := cT h
     refine WC.ct rfl ?_
     refine WC.skip ?_
     refine DN.seq ?_
     refine WC.seq ?_
     refine WC.block ?_
     refine WC.seq ?_
     refine WC.rx (κ := K81) [0, 4, 7] none [(0, 2), (2, 2), (3, 2), (4, 2), (5, 2), (10, 2), (1, 0), (6, 0), (7, 2), (8, 0), (9, 2)] [] (by kernel_rfl) (by kernel_rfl) fun w87 S86 => ?_
     refine WO.k2 rfl rfl rfl rfl (rn_fieldAddr Try.runUnderlying46 rfl Try.sizeOf44 rfl rfl) ?_
     refine WO.pn 2 rfl ?_
     obtain ⟨x55, hx55, h⟩ := Option.bind_eq_some_iff.mp h
     refine WO.k2 rfl rfl rfl rfl (rn_index f83.rdc hx55 Try.runUnderlying82 Try.sizeOf81 rfl rfl rfl rfl) ?_
     refine WO.k2 rfl rfl rfl rfl (rn_indexA Try.runUnderlying81 Try.sizeOf2 rfl rfl rfl rfl) ?_
     refine WO.pn 1 rfl ?_
     have f88 := f12.stp (S18.tr (S36.tr (S52.tr (S59.tr (S66.tr (S71.tr (S82.tr S86))))))) rfl rfl
     refine WO.k0 rfl rfl rfl rfl (rn_ld Try.isAgg44 rfl rfl (hvC (f88.ld 0 rfl rfl) rfl)) ?_
     have f89 := f83.stp S86 rfl rfl
     obtain ⟨cse90, hre90, hle90⟩ := (f89.rdc).gSt hx55
     obtain ⟨_, _, rfl, rfl, rfl⟩ := hre90
     refine WO.k0 rfl rfl rfl rfl (rn_ld Try.isAgg2 rfl rfl (hvC (fun w' hw' => hle90 w' hw' 1 _ rfl) rfl)) ?_
     obtain ⟨x58, hx58, h⟩ := Option.bind_eq_some_iff.mp h
     refine WO.k2 rfl rfl rfl rfl (rn_index g2_0 hx58 Try.runUnderlying44 Try.sizeOf24 rfl rfl rfl rfl) ?_
     have f91 := g2_0.stp (S3.tr (S7.tr (S11.tr (S18.tr (S36.tr (S52.tr (S59.tr (S66.tr (S71.tr (S82.tr S86)))))))))) rfl rfl
     obtain ⟨ax58, ux58, f92, hl93⟩ := f91.gSl hx58
     refine WO.k0 rfl rfl rfl rfl (rn_ld Try.isAgg24 rfl rfl (hvC hl93 rfl)) ?_
     refine WO.k2 rfl rfl rfl rfl (rn_len Try.runUnderlying24 rfl rfl) ?_
     refine WO.nx ?_
     refine WO.fin ?_
     refine DN.seq ?_
     have hN94 : (x58.length : Int) ≤ 9223372036854775807 := f92.len_le
     obtain ⟨q5, hq96, hK95⟩ := Option.bind_eq_some_iff.mp h
     clear h
     refine WC.meet (fun L w' => ∃ (κ' : Col) (s6 : (List (Int × Int))) (las6_0 : Option Addr) (lus6_0 : Nat), L = [(4, .pointer (some ⟨b4, 0, none⟩)), (5, .pointer (some ⟨b5, 0, none⟩)), (7, .slice las6_0 s6.length lus6_0), (8, .int .i64 s1.2)] ∧ Stp [7, 10] K81 w87 κ' w' ∧ Oc (Ep.pair (Ep.int .i64) (Ep.int .i64)) 81 κ' w' 7 las6_0 lus6_0 s6 ∧ q5 = Sum.inr s6) ?_ ?_
     ·
      refine WC.block ?_
      refine WC.loop (fun k L w' => ∃ (κ' : Col) (v61 : Int) (s4 : (List (Int × Int))) (las4_0 : Option Addr) (lus4_0 : Nat), L = [(4, .pointer (some ⟨b4, 0, none⟩)), (5, .pointer (some ⟨b5, 0, none⟩)), (7, .slice las4_0 s4.length lus4_0), (8, .int .i64 s1.2), (59, .slice ax58 x58.length ux58), (60, .int .i64 (x58.length : Int)), (61, .int .i64 v61)] ∧ Stp [7, 10] K81 w87 κ' w' ∧ Oc (Ep.pair (Ep.int .i64) (Ep.int .i64)) 81 κ' w' 7 las4_0 lus4_0 s4 ∧ 0 ≤ v61 ∧ Int.toNat ((x58.length : Int) - v61) = k ∧ cntM (i_CircuitMeets_b2 p1 p2 s1 x58) k v61 s4 = some q5) ⟨_, _, ⟨K81, 0, (s1.1 : (List (Int × Int))), las1_0, lus1_0, rfl, (Stp.refl _ _).wk rfl, f89, (by decide), (by simp), hq96⟩, fun a ha => (ha.more (ha.more (ha.more (ha.more (ha.more (ha.more (ha.more ha.nil rfl) rfl) rfl) rfl) rfl) rfl) rfl)⟩ ?_
      rintro k _ w101 ⟨K102, v61, s4, las4_0, lus4_0, rfl, S103, f104, hj94, hJ94, h⟩
      rcases k with _ | k
      ·
       have hk105 := h; obtain ⟨o94, h⟩ := ex_eq (Sum.inr (Sum.inl s4) : Bool ⊕ (((List (Int × Int))) ⊕ ((List (Int × Int)))))
       have hc94 : decide (v61 < (x58.length : Int)) = false := decide_eq_false (by omega)
       refine WC.seq ?_
       refine WC.rs [(0, 2)] rfl ?_
       refine WO.pn 1 rfl ?_
       refine WO.fin ?_
       refine DN.seq ?_
       refine WC.seq ?_
       refine WC.cf' rfl hc94 ?_
       refine WC.exit ?_
       refine DN.exitThen ?_
       refine DN.exitThen ?_
       obtain rfl := Option.some.inj h
       have h := hk105
       refine DN.hit ?_
       obtain rfl := Option.some.inj h
       exact DN.meet _ ⟨K102, (s4 : (List (Int × Int))), las4_0, lus4_0, rfl, S103.wk rfl, f104, rfl⟩ fun a ha => (ha.more (ha.more (ha.more (ha.more ha.nil rfl) rfl) rfl) rfl)
      ·
       obtain ⟨o94, h, hk105⟩ := Option.bind_eq_some_iff.mp h; unfold i_CircuitMeets_b2 at h
       have hc94 : decide (v61 < (x58.length : Int)) = true := decide_eq_true (by omega)
       refine WC.seq ?_
       refine WC.rs [(0, 2)] rfl ?_
       refine WO.pn 1 rfl ?_
       refine WO.fin ?_
       refine DN.seq ?_
       refine WC.seq ?_
       refine WC.ct' rfl hc94 ?_
       refine WC.skip ?_
       refine DN.seq ?_
       refine WC.seq ?_
       refine WC.block ?_
       refine WC.seq ?_
       refine WC.rs [(0, 2), (1, 2), (2, 1), (3, 2), (4, 2)] rfl ?_
       refine WO.pn 1 rfl ?_
       obtain ⟨x64, hx64, h⟩ := Option.bind_eq_some_iff.mp h
       refine WO.k2 rfl rfl rfl rfl (rn_index f92 hx64 Try.runUnderlying24 Try.sizeOf2 rfl rfl rfl rfl) ?_
       have f106 := f92.stp S103 rfl rfl
       refine WO.k1 trivial rfl rfl rfl rfl (rn_ld Try.isAgg2 rfl rfl (hvE (f106.gInt hx64))) ?_
       refine WO.pn 2 rfl ?_
       refine WO.fin ?_
       refine DN.seq ?_
       refine WC.seq ?_
       refine WC.rx (κ := K102) [0, 3, 7] none [(1, 2), (2, 2), (3, 2), (4, 2), (6, 2), (0, 0), (5, 0), (7, 1), (8, 2), (9, 2), (10, 2), (11, 2), (12, 2)] [] (by kernel_rfl) (by kernel_rfl) fun w108 S107 => ?_
       refine WO.pn 2 rfl ?_
       obtain ⟨x70, hx70, h⟩ := Option.bind_eq_some_iff.mp h
       refine WO.k2 rfl rfl rfl rfl (rn_index f104.rdc hx70 Try.runUnderlying82 Try.sizeOf81 rfl rfl rfl rfl) ?_
       refine WO.k2 rfl rfl rfl rfl (rn_indexA Try.runUnderlying81 Try.sizeOf2 rfl rfl rfl rfl) ?_
       refine WO.pn 1 rfl ?_
       have f109 := f8.stp (S11.tr (S18.tr (S36.tr (S52.tr (S59.tr (S66.tr (S71.tr (S82.tr (S86.tr (S103.tr S107)))))))))) rfl rfl
       refine WO.k0 rfl rfl rfl rfl (rn_la (cs := [.int .i64 p1.Inputs, .int .i64 p1.Latches, .slice a1_2 p1.Next.length u1_2, .slice a1_3 p1.Gates.length u1_3, .slice a1_4 p1.Outs.length u1_4]) Try.isAgg27 Try.sizeOf27 rfl rfl rfl (haC f109.cells rfl)) ?_
       have f110 := f104.stp S107 rfl rfl
       obtain ⟨cse111, hre111, hle111⟩ := (f110.rdc).gSt hx70
       obtain ⟨_, _, rfl, rfl, rfl⟩ := hre111
       refine WO.k0 rfl rfl rfl rfl (rn_ld Try.isAgg2 rfl rfl (hvC (fun w' hw' => hle111 w' hw' 0 _ rfl) rfl)) ?_
       obtain ⟨x74, hx74, h⟩ := Option.bind_eq_some_iff.mp h
       have f112 := g1_2.stp (S3.tr (S7.tr (S11.tr (S18.tr (S36.tr (S52.tr (S59.tr (S66.tr (S71.tr (S82.tr (S86.tr (S103.tr S107)))))))))))) rfl rfl
       have f113 := g1_3.stp (S3.tr (S7.tr (S11.tr (S18.tr (S36.tr (S52.tr (S59.tr (S66.tr (S71.tr (S82.tr (S86.tr (S103.tr S107)))))))))))) rfl rfl
       have f114 := g1_4.stp (S3.tr (S7.tr (S11.tr (S18.tr (S36.tr (S52.tr (S59.tr (S66.tr (S71.tr (S82.tr (S86.tr (S103.tr S107)))))))))))) rfl rfl
       refine WO.call rfl rfl rfl rfl rfl rfl Try.call38 (i_stepOf_ok (κ := fun b => mp [] 0 (K102 b)) (p0 := p1) (Sl.map f112 (mp [] 0) rfl rfl) (Sl.map f113 (mp [] 0) rfl rfl) (Sl.map f114 (mp [] 0) rfl rfl) hx74) ?_
       rintro _ w115 ⟨k116, rfl, e117⟩
       obtain ⟨K118, S119, m120⟩ := Ent.mixed (l := []) (κ := K102) e117 8 rfl
       refine ⟨(S119.cl rfl), ?_⟩
       refine WO.pn 5 rfl ?_
       refine WO.nx ?_
       refine WO.fin ?_
       refine DN.seq ?_
       refine WC.seq ?_
       refine WC.seq ?_
       refine WC.rx (κ := K118) [0, 4, 7] none [(0, 2), (1, 2), (3, 2), (4, 2), (5, 2), (6, 2), (10, 2), (2, 0), (7, 0), (8, 2), (9, 0), (11, 2), (12, 0), (13, 2)] [] (by kernel_rfl) (by kernel_rfl) fun w123 S122 => ?_
       refine WO.pn 1 rfl ?_
       refine WO.k2 rfl rfl rfl rfl (rn_fieldAddr Try.runUnderlying46 rfl Try.sizeOf44 rfl rfl) ?_
       refine WO.pn 2 rfl ?_
       obtain ⟨x82, hx82, h⟩ := Option.bind_eq_some_iff.mp h
       refine WO.k2 rfl rfl rfl rfl (rn_index f110.rdc hx82 Try.runUnderlying82 Try.sizeOf81 rfl rfl rfl rfl) ?_
       refine WO.k2 rfl rfl rfl rfl (rn_indexA Try.runUnderlying81 Try.sizeOf2 rfl rfl rfl rfl) ?_
       refine WO.pn 1 rfl ?_
       have f124 := f88.stp (S103.tr (S107.tr (S119.tr S122))) rfl rfl
       refine WO.k0 rfl rfl rfl rfl (rn_ld Try.isAgg44 rfl rfl (hvC (f124.ld 1 rfl rfl) rfl)) ?_
       have f125 := f110.stp (S119.tr S122) rfl rfl
       obtain ⟨cse126, hre126, hle126⟩ := (f125.rdc).gSt hx82
       obtain ⟨_, _, rfl, rfl, rfl⟩ := hre126
       refine WO.k0 rfl rfl rfl rfl (rn_ld Try.isAgg2 rfl rfl (hvC (fun w' hw' => hle126 w' hw' 1 _ rfl) rfl)) ?_
       obtain ⟨x85, hx85, h⟩ := Option.bind_eq_some_iff.mp h
       refine WO.k2 rfl rfl rfl rfl (rn_index g2_1 hx85 Try.runUnderlying44 Try.sizeOf24 rfl rfl rfl rfl) ?_
       have f127 := g2_1.stp (S3.tr (S7.tr (S11.tr (S18.tr (S36.tr (S52.tr (S59.tr (S66.tr (S71.tr (S82.tr (S86.tr (S103.tr (S107.tr (S119.tr S122)))))))))))))) rfl rfl
       obtain ⟨ax85, ux85, f128, hl129⟩ := f127.gSl hx85
       refine WO.k0 rfl rfl rfl rfl (rn_ld Try.isAgg24 rfl rfl (hvC hl129 rfl)) ?_
       obtain ⟨x88, hx88, h⟩ := Option.bind_eq_some_iff.mp h
       refine WO.k2 rfl rfl rfl rfl (rn_index f128 hx88 Try.runUnderlying24 Try.sizeOf2 rfl rfl rfl rfl) ?_
       refine WO.k0 rfl rfl rfl rfl (rn_ld Try.isAgg2 rfl rfl (hvC (f128.gInt hx88) rfl)) ?_
       refine WO.pn 1 rfl ?_
       refine WO.nx ?_
       refine WO.fin ?_
       refine DN.seq ?_
       revert h
       cases ht130 : (x74.2 != x88) with
       | true =>
        intro h; replace h := cT h
        refine WC.ct rfl ?_
        refine WC.seq ?_
        refine WC.rs [(0, 2)] rfl ?_
        refine WO.pn 1 rfl ?_
        refine WO.fin ?_
        refine DN.seq ?_
        refine WC.ret ?_
        refine DN.retThen ?_
        refine DN.retBlock ?_
        refine DN.retThen ?_
        refine DN.retThen ?_
        obtain rfl := Option.some.inj h
        obtain rfl := Option.some.inj hk105
        have h := hK95
        dsimp only [aft] at h
        refine DN.retBlock ?_
        refine DN.retMeet ?_
        refine DN.retBlock ?_
        refine DN.retThen ?_
        refine DN.retThen ?_
        obtain rfl := Option.some.inj h
        obtain rfl := Option.some.inj hk84
        have h := hK74
        dsimp only [aft] at h
        refine DN.retBlock ?_
        refine DN.retMeet ?_
        refine DN.retThen ?_
        have f131 := hE.stp (S3.tr (S7.tr (S11.tr (S18.tr (S36.tr (S52.tr (S59.tr (S66.tr (S71.tr (S82.tr (S86.tr (S103.tr (S107.tr (S119.tr S122)))))))))))))) rfl rfl
        refine DN.res (l := [.tmp 6]) Try.results24 (res_tmp rfl rfl) rfl ?_
        obtain rfl := Option.some.inj h
        exact ⟨K118, rfl, f131⟩
       | false =>
        intro h; replace h := cF h
        refine WC.cf rfl ?_
        refine WC.skip ?_
        refine DN.seq ?_
        refine WC.seq ?_
        refine WC.rs [(0, 2), (1, 2), (2, 2), (3, 1), (4, 1)] rfl ?_
        refine WO.pn 2 rfl ?_
        refine WO.k2 rfl rfl rfl rfl (rn_build (parts := [(0, .tmp 91), (1, .tmp 92)]) (cells := [.int .i64 x74.1, .int .i64 x64]) rfl rfl (by kernel_rfl)) ?_
        refine WO.alloc (κ := K118) 10 rfl rfl rfl rfl rfl Try.zeroValue81 rfl fun b13 w132 K133 S134 f135 => ⟨trivial, ?_⟩
        refine WO.stB0 (κ := K133) 10 (vc := [.int .i64 x74.1, .int .i64 x64]) rfl rfl rfl rfl rfl rfl rfl Try.sizeOf81 rfl rfl f135 rfl fun w136 S137 f138 => ⟨trivial, ?_⟩
        refine WO.fin ?_
        refine DN.seq ?_
        refine WC.seq ?_
        refine WC.rs [(0, 2), (1, 1), (2, 1), (3, 2)] rfl ?_
        refine WO.pn 1 rfl ?_
        refine WO.k1 trivial rfl rfl rfl rfl (rn_la (cs := [.int .i64 x74.1, .int .i64 x64]) Try.isAgg81 Try.sizeOf81 rfl rfl rfl (haE f138.cells)) ?_
        obtain ⟨x96, hx96, h⟩ := Option.bind_eq_some_iff.mp h
        have f139 := f125.stp (S134.tr S137) rfl rfl
        refine WO.call rfl rfl rfl rfl rfl rfl Try.call60 (slices_Contains_2_int64_2_int64_ok (κ := fun b => mp [] 0 (K133 b)) (p1 := (x74.1, x64)) (Sl.map f139.rdc (mp [] 0) rfl rfl) hx96) ?_
        rintro _ w140 ⟨k141, rfl, e142⟩
        obtain ⟨K143, S144, m145⟩ := Ent.mixed (l := []) (κ := K133) e142 11 rfl
        refine ⟨trivial, ?_⟩
        refine WO.pn 1 rfl ?_
        refine WO.fin ?_
        refine DN.seq ?_
        obtain ⟨q7, h, hK147⟩ := Option.bind_eq_some_iff.mp h
        refine WC.meet (fun L w' => ∃ (κ' : Col) (laq7_0 : Option Addr) (luq7_0 : Nat), L = [(4, .pointer (some ⟨b4, 0, none⟩)), (5, .pointer (some ⟨b5, 0, none⟩)), (7, .slice laq7_0 q7.length luq7_0), (8, .int .i64 s1.2), (59, .slice ax58 x58.length ux58), (60, .int .i64 (x58.length : Int)), (61, .int .i64 v61)] ∧ Stp [7] K143 w140 κ' w' ∧ Oc (Ep.pair (Ep.int .i64) (Ep.int .i64)) 81 κ' w' 7 laq7_0 luq7_0 q7) ?_ ?_
        ·
         revert h
         cases ht152 : (!x96) with
         | true =>
          intro h; replace h := cT h
          refine WC.ct rfl ?_
          refine WC.rs [(0, 2), (1, 1), (2, 1), (3, 1), (4, 2)] rfl ?_
          refine WO.pn 1 rfl ?_
          have f153 := f138.stp S144 rfl rfl
          refine WO.k1 trivial rfl rfl rfl rfl (rn_la (cs := [.int .i64 x74.1, .int .i64 x64]) Try.isAgg81 Try.sizeOf81 rfl rfl rfl (haE f153.cells)) ?_
          refine WO.bl (κ := K143) (E := (Ep.pair (Ep.int .i64) (Ep.int .i64))) 13 [] (parts := [(0, .tmp 99)]) (cells := [.int .i64 x74.1, .int .i64 x64]) (xs := ([(x74.1, x64)] : List (Int × Int))) rfl rfl rfl rfl rfl rfl Try.underlying82 Tryinfo81 rfl rfl rfl rfl rfl rfl rfl rfl rfl rfl ⟨[.int .i64 x74.1, .int .i64 x64], [], Zl K143 w140 [], Zl K143 w140 [], rfl, Zl.sp (l1 := []) (l2 := []) rfl, Zl.sr (l1 := []) (l2 := []), ⟨[.int .i64 x74.1], [.int .i64 x64], Zl K143 w140 [], Zl K143 w140 [], rfl, Zl.sp (l1 := []) (l2 := []) rfl, Zl.sr (l1 := []) (l2 := []), rfl, rfl⟩, rfl⟩ fun a100 u100 w154 K155 S156 f157 => ⟨trivial, ?_⟩
          obtain ⟨x101, hx101, h⟩ := Option.bind_eq_some_iff.mp h
          have f158 := f139.stp (S144.tr S156) rfl rfl
          refine WO.app (κ := K155) (E := (Ep.pair (Ep.int .i64) (Ep.int .i64))) 7 [] rfl rfl rfl rfl rfl rfl rfl rfl rfl Try.underlying82 Tryinfo81 rfl rfl rfl rfl f158 (Sl.srcP (pu_pair (pu_int _) (pu_int _)) f157.rdc) sy_false hx101 rfl fun a101 u101 w159 K160 S161 f162 => ⟨trivial, ?_⟩
          refine WO.pn 1 rfl ?_
          refine WO.fin ?_
          obtain rfl := Option.some.inj h
          exact DN.meet _ ⟨K160, a101, u101, rfl, (S156.tr S161).wk rfl, f162⟩ fun a ha => (ha.more (ha.more (ha.more (ha.more (ha.more (ha.more (ha.more ha.nil rfl) rfl) rfl) rfl) rfl) rfl) rfl)
         | false =>
          intro h; replace h := cF h
          refine WC.cf rfl ?_
          refine WC.skip ?_
          have f163 := f139.stp S144 rfl rfl
          obtain rfl := Option.some.inj h
          exact DN.meet _ ⟨K143, las4_0, lus4_0, rfl, (Stp.refl _ _).wk rfl, f163⟩ fun a ha => (ha.more (ha.more (ha.more (ha.more (ha.more (ha.more (ha.more ha.nil rfl) rfl) rfl) rfl) rfl) rfl) rfl)
        rintro _ w148 ⟨K149, laq7_0, luq7_0, rfl, S150, f151⟩
        have h := hK147
        refine DN.block ?_
        refine DN.seq ?_
        refine WC.rs [(0, 2), (1, 2)] rfl ?_
        refine WO.pn 2 rfl ?_
        refine WO.fin ?_
        have hw94 : IntKind.wrap .i64 (v61 + 1) = v61 + 1 := wr1 hj94 (of_decide_eq_true hc94) hN94
        rw [hw94]
        have hc94 := of_decide_eq_true hc94
        obtain rfl := Option.some.inj h
        refine DN.round fun a ha => ?_
        exact ⟨k, _, Nat.lt_succ_self _, ⟨K149, v61 + 1, (q7 : (List (Int × Int))), laq7_0, luq7_0, rfl, (S103.tr (S107.tr (S119.tr (S122.tr (S134.tr (S137.tr (S144.tr S150))))))).wk rfl, f151, by omega, by omega, hk105⟩, (ha.more (ha.more (ha.more (ha.more (ha.more (ha.more (ha.more ha.nil rfl) rfl) rfl) rfl) rfl) rfl) rfl)⟩
     rintro _ w97 ⟨K98, s6, las6_0, lus6_0, rfl, S99, f100, rfl⟩
     have h := hK95
     dsimp only [aft] at h
     refine DN.block ?_
     refine DN.seq ?_
     refine WC.rs [(0, 2), (1, 2), (2, 2)] rfl ?_
     refine WO.pn 3 rfl ?_
     refine WO.fin ?_
     obtain rfl := Option.some.inj h
     refine DN.round fun a ha => ?_
     exact ⟨k, _, Nat.lt_succ_self _, ⟨K98, ((s6 : (List (Int × Int))), ((IntKind.i64.wrap (s1.2 + 1)) : Int)), las6_0, lus6_0, rfl, (S82.tr (S86.tr S99)).wk rfl, f100, hk84⟩, (ha.more (ha.more (ha.more (ha.more ha.nil rfl) rfl) rfl) rfl)⟩
    | false =>
     intro h; replace h := cF h
     refine WC.cf rfl ?_
     refine WC.exit ?_
     refine DN.exitThen ?_
     refine DN.exitThen ?_
     obtain rfl := Option.some.inj h
     have h := hk84
     refine DN.hit ?_
     obtain rfl := Option.some.inj h
     exact DN.meet _ ⟨K81, ((s1.1 : (List (Int × Int))), (s1.2 : Int)), las1_0, lus1_0, rfl, S82.wk rfl, f83, rfl⟩ fun a ha => ha.nil
  rintro _ w76 ⟨K77, s3, las3_0, lus3_0, rfl, S78, f79, rfl⟩
  have h := hK74
  dsimp only [aft] at h
  refine DN.seq ?_
  refine WC.seq ?_
  refine WC.rs [(0, 2)] rfl ?_
  refine WO.pn 1 rfl ?_
  refine WO.fin ?_
  refine DN.seq ?_
  refine WC.ret ?_
  have f164 := hE.stp (S3.tr (S7.tr (S11.tr (S18.tr (S36.tr (S52.tr (S59.tr (S66.tr (S71.tr S78))))))))) rfl rfl
  refine DN.res (l := [.tmp 6]) Try.results24 (res_tmp rfl rfl) rfl ?_
  obtain rfl := Option.some.inj h
  exact ⟨K77, rfl, f164⟩

/- loop.example/g00869/impl.CircuitMachine -/
theorem i_CircuitMachine_ok {w : World} {κ : Col} {p0 : Sig} {a1_2 : Option Addr} {u1_2 : Nat} {a1_3 : Option Addr} {u1_3 : Nat} {a1_4 : Option Addr} {u1_4 : Nat} {p1 : Circuit} (g1_2 : Rd (Rp.int .i64) κ w 0 a1_2 u1_2 p1.Next) (g1_3 : Rd Gate.rp κ w 0 a1_3 u1_3 p1.Gates) (g1_4 : Rd (Rp.int .i64) κ w 0 a1_4 u1_4 p1.Outs) {r : Machine × Bool} (h : i_CircuitMachine p0 p1 = some r) : Ret Try.prog 25 [.agg #[.int .i64 p0.In, .int .i64 p0.Out], .agg #[.int .i64 p1.Inputs, .int .i64 p1.Latches, .slice a1_2 p1.Next.length u1_2, .slice a1_3 p1.Gates.length u1_3, .slice a1_4 p1.Outs.length u1_4]] w (fun v w' => ∃ (κ' : Col) (ra0 : Option Addr) (ru0 : Nat) (ra1 : Option Addr) (ru1 : Nat), v = .tuple #[.agg #[.slice ra0 r.1.Next.length ru0, .slice ra1 r.1.Out.length ru1], .bool r.2] ∧ Ent κ w κ' w' ∧ Oc (Ep.own (Ep.int .i64) 2) 24 κ' w' 2 ra0 ru0 r.1.Next ∧ Oc (Ep.own (Ep.int .i64) 2) 24 κ' w' 3 ra1 ru1 r.1.Out) := by
 unfold i_CircuitMachine at h
 refine Ret.enter Try.func25 rfl Try.ntmps25 rfl ?_
 dsimp only [envOf]
 have hE := Ent.refl κ w
 refine WC.seq ?_
 refine WC.rs [(0, 1), (1, 1), (2, 1), (3, 2)] rfl ?_
 refine WO.box (κ := κ) 2 rfl rfl rfl rfl rfl rfl rfl fun b2 w1 K2 S3 f4 => ⟨trivial, ?_⟩
 refine WO.box (κ := K2) 3 rfl rfl rfl rfl rfl rfl rfl fun b3 w5 K6 S7 f8 => ⟨trivial, ?_⟩
 refine WO.alloc (κ := K6) 4 rfl rfl rfl rfl rfl Try.zeroValue46 rfl fun b4 w9 K10 S11 f12 => ⟨trivial, ?_⟩
 refine WO.pn 1 rfl ?_
 refine WO.fin ?_
 refine DN.seq ?_
 refine WC.seq ?_
 refine WC.seq ?_
 refine WC.rs [(0, 1), (1, 1), (2, 2), (3, 2), (4, 1), (5, 1), (6, 2), (7, 2), (8, 2), (9, 2), (10, 1), (11, 2), (12, 1), (13, 2), (14, 2), (15, 2), (16, 2), (17, 1), (18, 2), (19, 2), (20, 1), (21, 2), (22, 2)] rfl ?_
 have f13 := f4.stp (S7.tr S11) rfl rfl
 refine WO.k1 trivial rfl rfl rfl rfl (rn_la (cs := [.int .i64 p0.In, .int .i64 p0.Out]) Try.isAgg43 Try.sizeOf43 rfl rfl rfl (haE f13.cells)) ?_
 obtain ⟨x16, hx16, h⟩ := Option.bind_eq_some_iff.mp h
 refine WO.call rfl rfl rfl rfl rfl rfl Try.call50 (i_isSig_ok (κ := fun b => mp [] 0 (K10 b)) (p0 := p0) hx16) ?_
 rintro _ w14 ⟨k15, rfl, e16⟩
 obtain ⟨K17, S18, m19⟩ := Ent.mixed (l := []) (κ := K10) e16 5 rfl
 refine ⟨trivial, ?_⟩
 refine WO.pn 2 rfl ?_
 obtain ⟨p22, h, hK21⟩ := Option.bind_eq_some_iff.mp h
 refine WO.meet [(4, 1), (5, 1), (6, 2), (7, 2)] [(8, 2), (9, 2), (10, 1), (11, 2), (12, 1), (13, 2), (14, 2), (15, 2), (16, 2), (17, 1), (18, 2), (19, 2), (20, 1), (21, 2), (22, 2)] (fun L w' => L = [(2, .pointer (some ⟨b2, 0, none⟩)), (3, .pointer (some ⟨b3, 0, none⟩)), (4, .pointer (some ⟨b4, 0, none⟩)), (22, .bool p22)] ∧ ∃ κ', Stp [] K17 w14 κ' w') trivial ?_ ?_
 ·
  revert h
  cases ht22 : (!x16) with
  | true =>
   intro h; replace h := cT h
   refine WO.ls rfl rfl rfl rfl ?_
   refine WO.ls rfl rfl rfl rfl ?_
   refine WO.pn 2 rfl ?_
   obtain rfl := Option.some.inj h
   exact WO.met _ trivial ⟨rfl, _, (Stp.refl _ _).wk rfl⟩ fun a ha => (ha.more (ha.more (ha.more (ha.more ha.nil rfl) rfl) rfl) rfl)
  | false =>
   intro h; replace h := cF h
   have f23 := f8.stp (S11.tr S18) rfl rfl
   refine WO.k1 trivial rfl rfl rfl rfl (rn_la (cs := [.int .i64 p1.Inputs, .int .i64 p1.Latches, .slice a1_2 p1.Next.length u1_2, .slice a1_3 p1.Gates.length u1_3, .slice a1_4 p1.Outs.length u1_4]) Try.isAgg27 Try.sizeOf27 rfl rfl rfl (haE f23.cells)) ?_
   obtain ⟨x20, hx20, h⟩ := Option.bind_eq_some_iff.mp h
   have f24 := g1_2.stp (S3.tr (S7.tr (S11.tr S18))) rfl rfl
   have f25 := g1_3.stp (S3.tr (S7.tr (S11.tr S18))) rfl rfl
   have f26 := g1_4.stp (S3.tr (S7.tr (S11.tr S18))) rfl rfl
   refine WO.call rfl rfl rfl rfl rfl rfl Try.call31 (i_isCircuit_ok (κ := fun b => mp [] 0 (K17 b)) (p0 := p1) (Sl.map f24 (mp [] 0) rfl rfl) (Sl.map f25 (mp [] 0) rfl rfl) (Sl.map f26 (mp [] 0) rfl rfl) hx20) ?_
   rintro _ w27 ⟨k28, rfl, e29⟩
   obtain ⟨K30, S31, m32⟩ := Ent.mixed (l := []) (κ := K17) e29 7 rfl
   refine ⟨trivial, ?_⟩
   refine WO.pn 2 rfl ?_
   obtain rfl := Option.some.inj h
   exact WO.met _ trivial ⟨rfl, _, S31.wk rfl⟩ fun a ha => (ha.more (ha.more (ha.more (ha.more ha.nil rfl) rfl) rfl) rfl)
 rintro _ w34 _ ⟨rfl, K35, S36⟩
 have h := hK21
 refine WO.pn 1 rfl ?_
 obtain ⟨p29, h, hK37⟩ := Option.bind_eq_some_iff.mp h
 refine WO.meet [(9, 2), (10, 1), (11, 2), (12, 1), (13, 2), (14, 2)] [(15, 2), (16, 2), (17, 1), (18, 2), (19, 2), (20, 1), (21, 2), (22, 2)] (fun L w' => L = [(2, .pointer (some ⟨b2, 0, none⟩)), (3, .pointer (some ⟨b3, 0, none⟩)), (4, .pointer (some ⟨b4, 0, none⟩)), (29, .bool p29)] ∧ ∃ κ', Stp [] K35 w34 κ' w') trivial ?_ ?_
 ·
  revert h
  cases ht38 : p22 with
  | true =>
   intro h; replace h := cT h
   refine WO.pn 1 rfl ?_
   refine WO.ls rfl rfl rfl rfl ?_
   refine WO.pn 1 rfl ?_
   refine WO.ls rfl rfl rfl rfl ?_
   refine WO.pn 2 rfl ?_
   obtain rfl := Option.some.inj h
   exact WO.met _ trivial ⟨rfl, _, (Stp.refl _ _).wk rfl⟩ fun a ha => (ha.more (ha.more (ha.more (ha.more ha.nil rfl) rfl) rfl) rfl)
  | false =>
   intro h; replace h := cF h
   refine WO.k2 rfl rfl rfl rfl (rn_fieldAddr Try.runUnderlying27 rfl Try.sizeOf2 rfl rfl) ?_
   have f39 := f8.stp (S11.tr (S18.tr S36)) rfl rfl
   refine WO.k1 trivial rfl rfl rfl rfl (rn_ld Try.isAgg2 rfl rfl (hvE (f39.ld 0 rfl rfl))) ?_
   refine WO.k2 rfl rfl rfl rfl (rn_fieldAddr Try.runUnderlying43 rfl Try.sizeOf2 rfl rfl) ?_
   have f40 := f13.stp (S18.tr S36) rfl rfl
   refine WO.k1 trivial rfl rfl rfl rfl (rn_ld Try.isAgg2 rfl rfl (hvE (f40.ld 0 rfl rfl))) ?_
   refine WO.pn 2 rfl ?_
   obtain rfl := Option.some.inj h
   exact WO.met _ trivial ⟨rfl, _, (Stp.refl _ _).wk rfl⟩ fun a ha => (ha.more (ha.more (ha.more (ha.more ha.nil rfl) rfl) rfl) rfl)
 rintro _ w41 _ ⟨rfl, K42, S43⟩
 have h := hK37
 refine WO.pn 1 rfl ?_
 obtain ⟨p37, h, hK44⟩ := Option.bind_eq_some_iff.mp h
 refine WO.meet [(16, 2), (17, 1), (18, 2), (19, 2), (20, 1), (21, 2), (22, 2)] [] (fun L w' => L = [(2, .pointer (some ⟨b2, 0, none⟩)), (3, .pointer (some ⟨b3, 0, none⟩)), (4, .pointer (some ⟨b4, 0, none⟩)), (37, .bool p37)] ∧ ∃ κ', Stp [] K42 w41 κ' w') trivial ?_ ?_
 ·
  revert h
  cases ht45 : p29 with
  | true =>
   intro h; replace h := cT h
   refine WO.pn 1 rfl ?_
   refine WO.ls rfl rfl rfl rfl ?_
   refine WO.pn 2 rfl ?_
   refine WO.ls rfl rfl rfl rfl ?_
   refine WO.pn 2 rfl ?_
   obtain rfl := Option.some.inj h
   exact WO.met _ trivial ⟨rfl, _, (Stp.refl _ _).wk rfl⟩ fun a ha => (ha.more (ha.more (ha.more (ha.more ha.nil rfl) rfl) rfl) rfl)
  | false =>
   intro h; replace h := cF h
   refine WO.k2 rfl rfl rfl rfl (rn_fieldAddr Try.runUnderlying27 rfl Try.sizeOf24 rfl rfl) ?_
   have f46 := f8.stp (S11.tr (S18.tr (S36.tr S43))) rfl rfl
   refine WO.k1 trivial rfl rfl rfl rfl (rn_ld Try.isAgg24 rfl rfl (hvE (f46.ld 4 rfl rfl))) ?_
   refine WO.k2 rfl rfl rfl rfl (rn_len Try.runUnderlying24 rfl rfl) ?_
   refine WO.k2 rfl rfl rfl rfl (rn_fieldAddr Try.runUnderlying43 rfl Try.sizeOf2 rfl rfl) ?_
   have f47 := f13.stp (S18.tr (S36.tr S43)) rfl rfl
   refine WO.k1 trivial rfl rfl rfl rfl (rn_ld Try.isAgg2 rfl rfl (hvE (f47.ld 1 rfl rfl))) ?_
   refine WO.pn 2 rfl ?_
   obtain rfl := Option.some.inj h
   exact WO.met _ trivial ⟨rfl, _, (Stp.refl _ _).wk rfl⟩ fun a ha => (ha.more (ha.more (ha.more (ha.more ha.nil rfl) rfl) rfl) rfl)
 rintro _ w48 _ ⟨rfl, K49, S50⟩
 have h := hK44
 refine WO.fin ?_
 refine DN.seq ?_
 revert h
 cases ht51 : p37 with
 | true =>
  intro h; replace h := cT h
  refine WC.ct rfl ?_
  refine WC.seq ?_
  refine WC.rs [(0, 2), (1, 1), (2, 2)] rfl ?_
  refine WO.k2 rfl rfl rfl rfl (rn_build (parts := []) (cells := [.slice none 0 0, .slice none 0 0]) rfl rfl (by kernel_rfl)) ?_
  have f52 := f12.stp (S18.tr (S36.tr (S43.tr S50))) rfl rfl
  refine WO.stB0 (κ := K49) 4 (vc := [.slice none 0 0, .slice none 0 0]) rfl rfl rfl rfl rfl rfl rfl Try.sizeOf46 rfl rfl f52 rfl fun w53 S54 f55 => ⟨trivial, ?_⟩
  refine WO.pn 1 rfl ?_
  refine WO.fin ?_
  refine DN.seq ?_
  refine WC.ret ?_
  refine DN.retThen ?_
  have f56 := hE.stp (S3.tr (S7.tr (S11.tr (S18.tr (S36.tr (S43.tr (S50.tr S54))))))) rfl rfl
  refine DN.res (l := [.cell 4 46, .tmp 5]) Try.results25 (res_cellA rfl f55 Try.isAgg46 Try.sizeOf46 rfl (res_tmp rfl rfl)) rfl ?_
  obtain rfl := Option.some.inj h
  exact ⟨K49, none, 0, none, 0, rfl, f56, Ow.nil, Ow.nil⟩
 | false =>
  intro h; replace h := cF h
  refine WC.cf rfl ?_
  refine WC.skip ?_
  refine DN.seq ?_
  refine WC.seq ?_
  refine WC.rs [(0, 1), (1, 2)] rfl ?_
  refine WO.bl (κ := K49) (E := (Ep.int .i64)) 7 [] (parts := [(0, .const (.int .i64 0))]) (cells := [.int .i64 0]) (xs := ([0] : List Int)) rfl rfl rfl rfl rfl rfl Try.underlying24 Tryinfo2 rfl rfl rfl rfl rfl rfl rfl rfl rfl rfl ⟨[.int .i64 0], [], Zl K49 w48 [], Zl K49 w48 [], rfl, Zl.sp (l1 := []) (l2 := []) rfl, Zl.sr (l1 := []) (l2 := []), rfl, rfl⟩ fun a39 u39 w57 K58 S59 f60 => ⟨trivial, ?_⟩
  refine WO.pn 1 rfl ?_
  refine WO.fin ?_
  refine DN.seq ?_
  refine WC.seq ?_
  refine WC.rs [(0, 2), (1, 1), (2, 1)] rfl ?_
  refine WO.k2 rfl rfl rfl rfl (rn_build (parts := []) (cells := [.slice none 0 0, .slice none 0 0]) rfl rfl (by kernel_rfl)) ?_
  refine WO.alloc (κ := K58) 8 rfl rfl rfl rfl rfl Try.zeroValue46 rfl fun b7 w61 K62 S63 f64 => ⟨trivial, ?_⟩
  refine WO.stB0 (κ := K62) 8 (vc := [.slice none 0 0, .slice none 0 0]) rfl rfl rfl rfl rfl rfl rfl Try.sizeOf46 rfl rfl f64 rfl fun w65 S66 f67 => ⟨trivial, ?_⟩
  refine WO.fin ?_
  refine DN.seq ?_
  refine WC.seq ?_
  refine WC.seq ?_
  refine WC.rs [(0, 2)] rfl ?_
  refine WO.pn 1 rfl ?_
  refine WO.fin ?_
  refine DN.seq ?_
  obtain ⟨q2, hq70, hK69⟩ := Option.bind_eq_some_iff.mp h
  clear h
  refine WC.meet (fun L w' => ∃ (κ' : Col) (s3 : (List Int) × Int × (List (List Int)) × (List (List Int))) (las3_0 : Option Addr) (lus3_0 : Nat) (las3_1 : Option Addr) (lus3_1 : Nat) (las3_2 : Option Addr) (lus3_2 : Nat), L = [(4, .pointer (some ⟨b4, 0, none⟩)), (6, .slice las3_0 s3.1.length lus3_0), (7, .pointer (some ⟨b7, 0, none⟩))] ∧ Stp [7, 8, 9, 10, 11, 12, 15, 16] K62 w65 κ' w' ∧ Oc (Ep.int .i64) 2 κ' w' 7 las3_0 lus3_0 s3.1 ∧ Oc (Ep.own (Ep.int .i64) 2) 24 κ' w' 9 las3_1 lus3_1 s3.2.2.1 ∧ Oc (Ep.own (Ep.int .i64) 2) 24 κ' w' 10 las3_2 lus3_2 s3.2.2.2 ∧ Bc κ' w' 8 b7 46 [.slice las3_1 s3.2.2.1.length lus3_1, .slice las3_2 s3.2.2.2.length lus3_2] ∧ q2 = Sum.inr s3) ?_ ?_
  ·
   refine WC.block ?_
   have f85 := f60.stp (S63.tr S66) rfl rfl
   refine WC.loop (fun k L w' => ∃ (κ' : Col) (s1 : (List Int) × Int × (List (List Int)) × (List (List Int))) (las1_0 : Option Addr) (lus1_0 : Nat) (las1_1 : Option Addr) (lus1_1 : Nat) (las1_2 : Option Addr) (lus1_2 : Nat), L = [(2, .pointer (some ⟨b2, 0, none⟩)), (3, .pointer (some ⟨b3, 0, none⟩)), (4, .pointer (some ⟨b4, 0, none⟩)), (6, .slice las1_0 s1.1.length lus1_0), (7, .pointer (some ⟨b7, 0, none⟩)), (8, .int .i64 s1.2.1)] ∧ Stp [7, 8, 9, 10, 11, 12, 15, 16] K62 w65 κ' w' ∧ Oc (Ep.int .i64) 2 κ' w' 7 las1_0 lus1_0 s1.1 ∧ Oc (Ep.own (Ep.int .i64) 2) 24 κ' w' 9 las1_1 lus1_1 s1.2.2.1 ∧ Oc (Ep.own (Ep.int .i64) 2) 24 κ' w' 10 las1_2 lus1_2 s1.2.2.2 ∧ Bc κ' w' 8 b7 46 [.slice las1_1 s1.2.2.1.length lus1_1, .slice las1_2 s1.2.2.2.length lus1_2] ∧ whileM (i_CircuitMachine_b0 p0 p1) k s1 = some q2) ⟨_, _, ⟨K62, ((([0] : List Int) : (List Int)), (0 : Int), (([] : List (List Int)) : (List (List Int))), (([] : List (List Int)) : (List (List Int)))), a39, u39, none, 0, none, 0, rfl, (Stp.refl _ _).wk rfl, f85, Ow.nil, Ow.nil, f67, hq70⟩, fun a ha => (ha.more (ha.more (ha.more (ha.more (ha.more (ha.more ha.nil rfl) rfl) rfl) rfl) rfl) rfl)⟩ ?_
   rintro k _ w78 ⟨K79, s1, las1_0, lus1_0, las1_1, lus1_1, las1_2, lus1_2, rfl, S80, f81, f82, f83, f84, h⟩
   rcases k with _ | k
   ·
    cases h
   ·
    obtain ⟨o68, h, hk86⟩ := Option.bind_eq_some_iff.mp h; unfold i_CircuitMachine_b0 at h
    refine WC.seq ?_
    refine WC.seq ?_
    refine WC.rs [(0, 2), (1, 2), (2, 2), (3, 2)] rfl ?_
    refine WO.pn 2 rfl ?_
    refine WO.k2 rfl rfl rfl rfl (rn_len Try.runUnderlying24 rfl rfl) ?_
    refine WO.pn 1 rfl ?_
    refine WO.fin ?_
    refine DN.seq ?_
    revert h
    cases ht87 : decide (s1.2.1 < (s1.1.length : Int)) with
    | true =>
     intro h; replace h := cT h
     refine WC.ct rfl ?_
     refine WC.skip ?_
     refine DN.seq ?_
     refine WC.seq ?_
     refine WC.block ?_
     refine WC.seq ?_
     refine WC.rs [(0, 1), (1, 1), (2, 2), (3, 2)] rfl ?_
     refine WO.bl0 (κ := K79) (E := (Ep.int .i64)) 11 rfl rfl rfl rfl rfl Try.underlying24 Tryinfo2 rfl fun a47 u47 w88 K89 S90 f91 => ⟨trivial, ?_⟩
     refine WO.bl0 (κ := K89) (E := (Ep.int .i64)) 12 rfl rfl rfl rfl rfl Try.underlying24 Tryinfo2 rfl fun a48 u48 w92 K93 S94 f95 => ⟨trivial, ?_⟩
     refine WO.pn 2 rfl ?_
     refine WO.fin ?_
     refine DN.seq ?_
     refine WC.seq ?_
     refine WC.seq ?_
     refine WC.rs [(0, 1), (1, 1), (2, 2)] rfl ?_
     have f96 := f13.stp (S18.tr (S36.tr (S43.tr (S50.tr (S59.tr (S63.tr (S66.tr (S80.tr (S90.tr S94))))))))) rfl rfl
     refine WO.k1 trivial rfl rfl rfl rfl (rn_la (cs := [.int .i64 p0.In, .int .i64 p0.Out]) Try.isAgg43 Try.sizeOf43 rfl rfl rfl (haE f96.cells)) ?_
     obtain ⟨x50, hx50, h⟩ := Option.bind_eq_some_iff.mp h
     refine WO.call rfl rfl rfl rfl rfl rfl Try.call52 (i_inputsOf_ok (κ := fun b => mp [] 0 (K93 b)) (p0 := p0) hx50) ?_
     rintro _ w97 ⟨k98, rfl, e99⟩
     obtain ⟨K100, S101, m102⟩ := Ent.mixed (l := []) (κ := K93) e99 13 rfl
     refine ⟨trivial, ?_⟩
     refine WO.pn 1 rfl ?_
     refine WO.fin ?_
     refine DN.seq ?_
     obtain ⟨_, hr104, h⟩ := Option.bind_eq_some_iff.mp h
     have hN104 := rng_ok hr104
     obtain ⟨q5, hq106, hK105⟩ := Option.bind_eq_some_iff.mp h
     clear h
     refine WC.meet (fun L w' => ∃ (κ' : Col) (s6 : (List Int) × (List Int) × (List Int)) (las6_0 : Option Addr) (lus6_0 : Nat) (las6_1 : Option Addr) (lus6_1 : Nat) (las6_2 : Option Addr) (lus6_2 : Nat), L = [(2, .pointer (some ⟨b2, 0, none⟩)), (3, .pointer (some ⟨b3, 0, none⟩)), (4, .pointer (some ⟨b4, 0, none⟩)), (6, .slice las6_0 s6.1.length lus6_0), (7, .pointer (some ⟨b7, 0, none⟩)), (8, .int .i64 s1.2.1), (9, .slice las6_1 s6.2.1.length lus6_1), (10, .slice las6_2 s6.2.2.length lus6_2)] ∧ Stp [7, 11, 12] K100 w97 κ' w' ∧ Oc (Ep.int .i64) 2 κ' w' 7 las6_0 lus6_0 s6.1 ∧ Oc (Ep.int .i64) 2 κ' w' 11 las6_1 lus6_1 s6.2.1 ∧ Oc (Ep.int .i64) 2 κ' w' 12 las6_2 lus6_2 s6.2.2 ∧ q5 = Sum.inr s6) ?_ ?_
     ·
      refine WC.block ?_
      have f119 := f81.stp (S90.tr (S94.tr S101)) rfl rfl
      have f120 := f91.stp (S94.tr S101) rfl rfl
      have f121 := f95.stp S101 rfl rfl
      refine WC.loop (fun k L w' => ∃ (κ' : Col) (v51 : Int) (s4 : (List Int) × (List Int) × (List Int)) (las4_0 : Option Addr) (lus4_0 : Nat) (las4_1 : Option Addr) (lus4_1 : Nat) (las4_2 : Option Addr) (lus4_2 : Nat), L = [(2, .pointer (some ⟨b2, 0, none⟩)), (3, .pointer (some ⟨b3, 0, none⟩)), (4, .pointer (some ⟨b4, 0, none⟩)), (6, .slice las4_0 s4.1.length lus4_0), (7, .pointer (some ⟨b7, 0, none⟩)), (8, .int .i64 s1.2.1), (9, .slice las4_1 s4.2.1.length lus4_1), (10, .slice las4_2 s4.2.2.length lus4_2), (50, .int .i64 x50), (51, .int .i64 v51)] ∧ Stp [7, 11, 12] K100 w97 κ' w' ∧ Oc (Ep.int .i64) 2 κ' w' 7 las4_0 lus4_0 s4.1 ∧ Oc (Ep.int .i64) 2 κ' w' 11 las4_1 lus4_1 s4.2.1 ∧ Oc (Ep.int .i64) 2 κ' w' 12 las4_2 lus4_2 s4.2.2 ∧ 0 ≤ v51 ∧ Int.toNat (x50 - v51) = k ∧ cntM (i_CircuitMachine_b2 p1 s1) k v51 s4 = some q5) ⟨_, _, ⟨K100, 0, ((s1.1 : (List Int)), (([] : List Int) : (List Int)), (([] : List Int) : (List Int))), las1_0, lus1_0, a47, u47, a48, u48, rfl, (Stp.refl _ _).wk rfl, f119, f120, f121, (by decide), (by simp), hq106⟩, fun a ha => (ha.more (ha.more (ha.more (ha.more (ha.more (ha.more (ha.more (ha.more (ha.more (ha.more ha.nil rfl) rfl) rfl) rfl) rfl) rfl) rfl) rfl) rfl) rfl)⟩ ?_
      rintro k _ w113 ⟨K114, v51, s4, las4_0, lus4_0, las4_1, lus4_1, las4_2, lus4_2, rfl, S115, f116, f117, f118, hj104, hJ104, h⟩
      rcases k with _ | k
      ·
       have hk122 := h; obtain ⟨o104, h⟩ := ex_eq (Sum.inr (Sum.inl s4) : (Machine × Bool) ⊕ (((List Int) × (List Int) × (List Int)) ⊕ ((List Int) × (List Int) × (List Int))))
       have hc104 : decide (v51 < x50) = false := decide_eq_false (by omega)
       refine WC.seq ?_
       refine WC.rs [(0, 2)] rfl ?_
       refine WO.pn 1 rfl ?_
       refine WO.fin ?_
       refine DN.seq ?_
       refine WC.seq ?_
       refine WC.cf' rfl hc104 ?_
       refine WC.exit ?_
       refine DN.exitThen ?_
       refine DN.exitThen ?_
       obtain rfl := Option.some.inj h
       have h := hk122
       refine DN.hit ?_
       obtain rfl := Option.some.inj h
       exact DN.meet _ ⟨K114, ((s4.1 : (List Int)), (s4.2.1 : (List Int)), (s4.2.2 : (List Int))), las4_0, lus4_0, las4_1, lus4_1, las4_2, lus4_2, rfl, S115.wk rfl, f116, f117, f118, rfl⟩ fun a ha => (ha.more (ha.more (ha.more (ha.more (ha.more (ha.more (ha.more (ha.more ha.nil rfl) rfl) rfl) rfl) rfl) rfl) rfl) rfl)
      ·
       obtain ⟨o104, h, hk122⟩ := Option.bind_eq_some_iff.mp h; unfold i_CircuitMachine_b2 at h
       have hc104 : decide (v51 < x50) = true := decide_eq_true (by omega)
       refine WC.seq ?_
       refine WC.rs [(0, 2)] rfl ?_
       refine WO.pn 1 rfl ?_
       refine WO.fin ?_
       refine DN.seq ?_
       refine WC.seq ?_
       refine WC.ct' rfl hc104 ?_
       refine WC.skip ?_
       refine DN.seq ?_
       refine WC.seq ?_
       refine WC.block ?_
       refine WC.seq ?_
       refine WC.rs [(0, 2), (1, 2)] rfl ?_
       refine WO.pn 2 rfl ?_
       refine WO.fin ?_
       refine DN.seq ?_
       refine WC.seq ?_
       refine WC.rx (κ := K114) [0, 3, 7] none [(1, 2), (2, 2), (3, 2), (5, 2), (0, 0), (4, 0), (6, 1), (7, 2), (8, 2), (9, 2), (10, 2), (11, 2)] [] (by kernel_rfl) (by kernel_rfl) fun w124 S123 => ?_
       refine WO.pn 2 rfl ?_
       obtain ⟨x58, hx58, h⟩ := Option.bind_eq_some_iff.mp h
       refine WO.k2 rfl rfl rfl rfl (rn_index f116.rdc hx58 Try.runUnderlying24 Try.sizeOf2 rfl rfl rfl rfl) ?_
       refine WO.pn 1 rfl ?_
       have f125 := f8.stp (S11.tr (S18.tr (S36.tr (S43.tr (S50.tr (S59.tr (S63.tr (S66.tr (S80.tr (S90.tr (S94.tr (S101.tr (S115.tr S123))))))))))))) rfl rfl
       refine WO.k0 rfl rfl rfl rfl (rn_la (cs := [.int .i64 p1.Inputs, .int .i64 p1.Latches, .slice a1_2 p1.Next.length u1_2, .slice a1_3 p1.Gates.length u1_3, .slice a1_4 p1.Outs.length u1_4]) Try.isAgg27 Try.sizeOf27 rfl rfl rfl (haC f125.cells rfl)) ?_
       have f126 := f116.stp S123 rfl rfl
       refine WO.k0 rfl rfl rfl rfl (rn_ld Try.isAgg2 rfl rfl (hvC (f126.rdc.gInt hx58) rfl)) ?_
       obtain ⟨x61, hx61, h⟩ := Option.bind_eq_some_iff.mp h
       have f127 := g1_2.stp (S3.tr (S7.tr (S11.tr (S18.tr (S36.tr (S43.tr (S50.tr (S59.tr (S63.tr (S66.tr (S80.tr (S90.tr (S94.tr (S101.tr (S115.tr S123))))))))))))))) rfl rfl
       have f128 := g1_3.stp (S3.tr (S7.tr (S11.tr (S18.tr (S36.tr (S43.tr (S50.tr (S59.tr (S63.tr (S66.tr (S80.tr (S90.tr (S94.tr (S101.tr (S115.tr S123))))))))))))))) rfl rfl
       have f129 := g1_4.stp (S3.tr (S7.tr (S11.tr (S18.tr (S36.tr (S43.tr (S50.tr (S59.tr (S63.tr (S66.tr (S80.tr (S90.tr (S94.tr (S101.tr (S115.tr S123))))))))))))))) rfl rfl
       refine WO.call rfl rfl rfl rfl rfl rfl Try.call38 (i_stepOf_ok (κ := fun b => mp [] 0 (K114 b)) (p0 := p1) (Sl.map f127 (mp [] 0) rfl rfl) (Sl.map f128 (mp [] 0) rfl rfl) (Sl.map f129 (mp [] 0) rfl rfl) hx61) ?_
       rintro _ w130 ⟨k131, rfl, e132⟩
       obtain ⟨K133, S134, m135⟩ := Ent.mixed (l := []) (κ := K114) e132 15 rfl
       refine ⟨(S134.cl rfl), ?_⟩
       refine WO.pn 5 rfl ?_
       refine WO.nx ?_
       refine WO.fin ?_
       refine DN.seq ?_
       refine WC.seq ?_
       refine WC.rs [(0, 2), (1, 2), (2, 1), (3, 2)] rfl ?_
       refine WO.pn 2 rfl ?_
       obtain ⟨x66, hx66, h⟩ := Option.bind_eq_some_iff.mp h
       have f137 := f126.stp S134 rfl rfl
       refine WO.call rfl rfl rfl rfl rfl rfl Try.call61 (slices_Index_I_int64_ok (κ := fun b => mp [] 0 (K133 b)) (Sl.map f137.rdc (mp [] 0) rfl rfl) hx66) ?_
       rintro _ w138 ⟨k139, rfl, e140⟩
       obtain ⟨K141, S142, m143⟩ := Ent.mixed (l := []) (κ := K133) e140 17 rfl
       refine ⟨trivial, ?_⟩
       refine WO.pn 1 rfl ?_
       refine WO.fin ?_
       refine DN.seq ?_
       refine WC.seq ?_
       refine WC.seq ?_
       refine WC.rs [(0, 2), (1, 2)] rfl ?_
       refine WO.pn 2 rfl ?_
       refine WO.fin ?_
       refine DN.seq ?_
       obtain ⟨q7, h, hK145⟩ := Option.bind_eq_some_iff.mp h
       refine WC.meet (fun L w' => ∃ (κ' : Col) (laq7_0 : Option Addr) (luq7_0 : Nat), L = [(2, .pointer (some ⟨b2, 0, none⟩)), (3, .pointer (some ⟨b3, 0, none⟩)), (4, .pointer (some ⟨b4, 0, none⟩)), (6, .slice laq7_0 q7.1.length luq7_0), (7, .pointer (some ⟨b7, 0, none⟩)), (8, .int .i64 s1.2.1), (9, .slice las4_1 s4.2.1.length lus4_1), (10, .slice las4_2 s4.2.2.length lus4_2), (13, .int .i64 x61.2), (14, .int .i64 q7.2), (50, .int .i64 x50), (51, .int .i64 v51)] ∧ Stp [7] K141 w138 κ' w' ∧ Oc (Ep.int .i64) 2 κ' w' 7 laq7_0 luq7_0 q7.1) ?_ ?_
       ·
        revert h
        cases ht150 : decide (x66 < 0) with
        | true =>
         intro h; replace h := cT h
         refine WC.ct rfl ?_
         refine WC.seq ?_
         refine WC.rs [(0, 2), (1, 2), (2, 2)] rfl ?_
         refine WO.pn 1 rfl ?_
         refine WO.k2 rfl rfl rfl rfl (rn_len Try.runUnderlying24 rfl rfl) ?_
         refine WO.pn 1 rfl ?_
         refine WO.fin ?_
         refine DN.seq ?_
         refine WC.rs [(0, 2), (1, 2), (2, 1), (3, 1), (4, 2)] rfl ?_
         refine WO.pn 2 rfl ?_
         refine WO.bl (κ := K141) (E := (Ep.int .i64)) 19 [] (parts := [(0, .tmp 72)]) (cells := [.int .i64 x61.1]) (xs := ([x61.1] : List Int)) rfl rfl rfl rfl rfl rfl Try.underlying24 Tryinfo2 rfl rfl rfl rfl rfl rfl rfl rfl rfl rfl ⟨[.int .i64 x61.1], [], Zl K141 w138 [], Zl K141 w138 [], rfl, Zl.sp (l1 := []) (l2 := []) rfl, Zl.sr (l1 := []) (l2 := []), rfl, rfl⟩ fun a73 u73 w151 K152 S153 f154 => ⟨trivial, ?_⟩
         obtain ⟨x74, hx74, h⟩ := Option.bind_eq_some_iff.mp h
         have f155 := f137.stp (S142.tr S153) rfl rfl
         refine WO.app (κ := K152) (E := (Ep.int .i64)) 7 [] rfl rfl rfl rfl rfl rfl rfl rfl rfl Try.underlying24 Tryinfo2 rfl rfl rfl rfl f155 (Sl.srcP (pu_int _) f154.rdc) sy_false hx74 rfl fun a74 u74 w156 K157 S158 f159 => ⟨trivial, ?_⟩
         refine WO.pn 1 rfl ?_
         refine WO.fin ?_
         obtain rfl := Option.some.inj h
         exact DN.meet _ ⟨K157, a74, u74, rfl, (S153.tr S158).wk rfl, f159⟩ fun a ha => (ha.more (ha.more (ha.more (ha.more (ha.more (ha.more (ha.more (ha.more (ha.more (ha.more (ha.more (ha.more ha.nil rfl) rfl) rfl) rfl) rfl) rfl) rfl) rfl) rfl) rfl) rfl) rfl)
        | false =>
         intro h; replace h := cF h
         refine WC.cf rfl ?_
         refine WC.skip ?_
         have f160 := f137.stp S142 rfl rfl
         obtain rfl := Option.some.inj h
         exact DN.meet _ ⟨K141, las4_0, lus4_0, rfl, (Stp.refl _ _).wk rfl, f160⟩ fun a ha => (ha.more (ha.more (ha.more (ha.more (ha.more (ha.more (ha.more (ha.more (ha.more (ha.more (ha.more (ha.more ha.nil rfl) rfl) rfl) rfl) rfl) rfl) rfl) rfl) rfl) rfl) rfl) rfl)
       rintro _ w146 ⟨K147, laq7_0, luq7_0, rfl, S148, f149⟩
       have h := hK145
       refine DN.seq ?_
       refine WC.rs [(0, 2), (1, 2), (2, 1), (3, 1), (4, 2), (5, 2), (6, 1), (7, 1), (8, 2), (9, 2)] rfl ?_
       refine WO.pn 2 rfl ?_
       refine WO.bl (κ := K147) (E := (Ep.int .i64)) 19 [] (parts := [(0, .tmp 76)]) (cells := [.int .i64 q7.2]) (xs := ([q7.2] : List Int)) rfl rfl rfl rfl rfl rfl Try.underlying24 Tryinfo2 rfl rfl rfl rfl rfl rfl rfl rfl rfl rfl ⟨[.int .i64 q7.2], [], Zl K147 w146 [], Zl K147 w146 [], rfl, Zl.sp (l1 := []) (l2 := []) rfl, Zl.sr (l1 := []) (l2 := []), rfl, rfl⟩ fun a77 u77 w161 K162 S163 f164 => ⟨trivial, ?_⟩
       obtain ⟨x78, hx78, h⟩ := Option.bind_eq_some_iff.mp h
       have f165 := f117.stp (S123.tr (S134.tr (S142.tr (S148.tr S163)))) rfl rfl
       refine WO.app (κ := K162) (E := (Ep.int .i64)) 11 [] rfl rfl rfl rfl rfl rfl rfl rfl rfl Try.underlying24 Tryinfo2 rfl rfl rfl rfl f165 (Sl.srcP (pu_int _) f164.rdc) sy_false hx78 rfl fun a78 u78 w166 K167 S168 f169 => ⟨trivial, ?_⟩
       refine WO.pn 2 rfl ?_
       refine WO.bl (κ := K167) (E := (Ep.int .i64)) 20 [] (parts := [(0, .tmp 80)]) (cells := [.int .i64 x61.2]) (xs := ([x61.2] : List Int)) rfl rfl rfl rfl rfl rfl Try.underlying24 Tryinfo2 rfl rfl rfl rfl rfl rfl rfl rfl rfl rfl ⟨[.int .i64 x61.2], [], Zl K167 w166 [], Zl K167 w166 [], rfl, Zl.sp (l1 := []) (l2 := []) rfl, Zl.sr (l1 := []) (l2 := []), rfl, rfl⟩ fun a81 u81 w170 K171 S172 f173 => ⟨trivial, ?_⟩
       obtain ⟨x82, hx82, h⟩ := Option.bind_eq_some_iff.mp h
       have f174 := f118.stp (S123.tr (S134.tr (S142.tr (S148.tr (S163.tr (S168.tr S172)))))) rfl rfl
       refine WO.app (κ := K171) (E := (Ep.int .i64)) 12 [] rfl rfl rfl rfl rfl rfl rfl rfl rfl Try.underlying24 Tryinfo2 rfl rfl rfl rfl f174 (Sl.srcP (pu_int _) f173.rdc) sy_false hx82 rfl fun a82 u82 w175 K176 S177 f178 => ⟨trivial, ?_⟩
       refine WO.pn 2 rfl ?_
       refine WO.fin ?_
       refine DN.block ?_
       refine DN.seq ?_
       refine WC.rs [(0, 2), (1, 2)] rfl ?_
       refine WO.pn 2 rfl ?_
       refine WO.fin ?_
       have hw104 : IntKind.wrap .i64 (v51 + 1) = v51 + 1 := wr1 hj104 (of_decide_eq_true hc104) hN104
       rw [hw104]
       have hc104 := of_decide_eq_true hc104
       have f179 := f149.stp (S163.tr (S168.tr (S172.tr S177))) rfl rfl
       have f180 := f169.stp (S172.tr S177) rfl rfl
       obtain rfl := Option.some.inj h
       refine DN.round fun a ha => ?_
       exact ⟨k, _, Nat.lt_succ_self _, ⟨K176, v51 + 1, ((q7.1 : (List Int)), (x78 : (List Int)), (x82 : (List Int))), laq7_0, luq7_0, a78, u78, a82, u82, rfl, (S115.tr (S123.tr (S134.tr (S142.tr (S148.tr (S163.tr (S168.tr (S172.tr S177)))))))).wk rfl, f179, f180, f178, by omega, by omega, hk122⟩, (ha.more (ha.more (ha.more (ha.more (ha.more (ha.more (ha.more (ha.more (ha.more (ha.more ha.nil rfl) rfl) rfl) rfl) rfl) rfl) rfl) rfl) rfl) rfl)⟩
     rintro _ w107 ⟨K108, s6, las6_0, lus6_0, las6_1, lus6_1, las6_2, lus6_2, rfl, S109, f110, f111, f112, rfl⟩
     have h := hK105
     dsimp only [aft] at h
     refine DN.seq ?_
     obtain ⟨x88, hx88, h⟩ := Option.bind_eq_some_iff.mp h
     obtain ⟨x93, hx93, h⟩ := Option.bind_eq_some_iff.mp h
     refine WC.meet (fun L w' => ∃ (κ' : Col) (lar184_0 : Option Addr) (lur184_0 : Nat) (lar184_1 : Option Addr) (lur184_1 : Nat), L = [(2, .pointer (some ⟨b2, 0, none⟩)), (3, .pointer (some ⟨b3, 0, none⟩)), (4, .pointer (some ⟨b4, 0, none⟩)), (6, .slice las6_0 s6.1.length lus6_0), (7, .pointer (some ⟨b7, 0, none⟩)), (8, .int .i64 s1.2.1)] ∧ Stp [8, 9, 10, 11, 12, 15, 16] K108 w107 κ' w' ∧ Oc (Ep.own (Ep.int .i64) 2) 24 κ' w' 15 lar184_0 lur184_0 x88 ∧ Oc (Ep.own (Ep.int .i64) 2) 24 κ' w' 16 lar184_1 lur184_1 x93 ∧ Bc κ' w' 8 b7 46 [.slice lar184_0 x88.length lur184_0, .slice lar184_1 x93.length lur184_1]) ?_ ?_
     ·
      refine WC.rxt (κ := K108) [8] (some 11) (by kernel_rfl) fun w188 S189 => ?_
      refine WA.seg (fuel := 8) [(0, 2), (2, 2), (5, 2), (7, 2), (1, 0), (6, 0)] (by kernel_rfl) (by kernel_rfl) rfl ?_
      refine WO.k2 rfl rfl rfl rfl (rn_fieldAddr Try.runUnderlying46 rfl Try.sizeOf44 rfl rfl) ?_
      refine WO.pn 1 rfl ?_
      refine WO.k2 rfl rfl rfl rfl (rn_fieldAddr Try.runUnderlying46 rfl Try.sizeOf44 rfl rfl) ?_
      refine WO.pn 1 rfl ?_
      have f190 := f84.stp (S90.tr (S94.tr (S101.tr (S109.tr S189)))) rfl rfl
      refine WO.k0 rfl rfl rfl rfl (rn_ld Try.isAgg44 rfl rfl (hvC (f190.ld 0 rfl rfl) rfl)) ?_
      refine WO.k0 rfl rfl rfl rfl (rn_ld Try.isAgg44 rfl rfl (hvC (f190.ld 1 rfl rfl) rfl)) ?_
      refine WO.wa ?_
      refine WA.fork2 (fuel := 7) 3 8 (by kernel_rfl) rfl ?_ ?_
      ·
       have f191 := f111.stp S189 rfl rfl
       refine WO.bl (κ := K108) (E := (Ep.own (Ep.int .i64) 2)) 15 [11] (parts := [(0, .tmp 86)]) (cells := [.slice las6_1 s6.2.1.length lus6_1]) (xs := ([s6.2.1] : List (List Int))) rfl rfl rfl rfl rfl rfl Try.underlying44 Tryinfo24 rfl rfl rfl rfl rfl rfl rfl rfl rfl rfl ⟨[.slice las6_1 s6.2.1.length lus6_1], [], Zl K108 w188 [11], Zl K108 w188 [], rfl, Zl.sp (l1 := [11]) (l2 := []) rfl, Zl.sr (l1 := [11]) (l2 := []), ⟨_, _, rfl, f191⟩, rfl⟩ fun a87 u87 w192 K193 S194 f195 => ⟨(S194.cl rfl), ?_⟩
       refine WO.wa ?_
       refine WA.fork2 (fuel := 6) 4 8 (by kernel_rfl) rfl ?_ ?_
       ·
        have f196 := f82.stp (S90.tr (S94.tr (S101.tr (S109.tr (S189.tr S194))))) rfl rfl
        refine WO.app (κ := K193) (E := (Ep.own (Ep.int .i64) 2)) 9 [15] rfl rfl rfl rfl rfl rfl rfl rfl rfl Try.underlying44 Tryinfo24 rfl rfl rfl rfl f196 f195.src (sy_one rfl) hx88 rfl fun a88 u88 w197 K198 S199 f200 => ⟨((S194.tr S199).cl rfl), ?_⟩
        refine WO.wa ?_
        refine WA.seg (fuel := 3) [(10, 2), (8, 1), (9, 1)] (by kernel_rfl) (by kernel_rfl) rfl ?_
        refine WO.k2 rfl rfl rfl rfl (rn_fieldAddr Try.runUnderlying46 rfl Try.sizeOf44 rfl rfl) ?_
        have f201 := f112.stp (S189.tr (S194.tr S199)) rfl rfl
        refine WO.bl (κ := K198) (E := (Ep.own (Ep.int .i64) 2)) 16 [12] (parts := [(0, .tmp 91)]) (cells := [.slice las6_2 s6.2.2.length lus6_2]) (xs := ([s6.2.2] : List (List Int))) rfl rfl rfl rfl rfl rfl Try.underlying44 Tryinfo24 rfl rfl rfl rfl rfl rfl rfl rfl rfl rfl ⟨[.slice las6_2 s6.2.2.length lus6_2], [], Zl K198 w197 [12], Zl K198 w197 [], rfl, Zl.sp (l1 := [12]) (l2 := []) rfl, Zl.sr (l1 := [12]) (l2 := []), ⟨_, _, rfl, f201⟩, rfl⟩ fun a92 u92 w202 K203 S204 f205 => ⟨((S194.tr (S199.tr S204)).cl rfl), ?_⟩
        have f206 := f83.stp (S90.tr (S94.tr (S101.tr (S109.tr (S189.tr (S194.tr (S199.tr S204))))))) rfl rfl
        refine WO.app (κ := K203) (E := (Ep.own (Ep.int .i64) 2)) 10 [16] rfl rfl rfl rfl rfl rfl rfl rfl rfl Try.underlying44 Tryinfo24 rfl rfl rfl rfl f206 f205.src (sy_one rfl) hx93 rfl fun a93 u93 w207 K208 S209 f210 => ⟨((S194.tr (S199.tr (S204.tr S209))).cl rfl), ?_⟩
        refine WO.wa ?_
        refine WA.brk (fuel := 2) 11 (by kernel_rfl) rfl (by kernel_rfl) ?_
        have f211 := f190.stp (S194.tr (S199.tr (S204.tr S209))) rfl rfl
        refine WO.stB (κ := K208) 8 (off := 0) (vc := [.slice a88 x88.length u88]) (cs' := [.slice a88 x88.length u88, .slice las1_2 s1.2.2.2.length lus1_2]) rfl rfl rfl rfl rfl rfl rfl Try.sizeOf44 rfl rfl f211 rfl rfl fun w212 S213 f214 => ⟨trivial, ?_⟩
        refine WO.wa ?_
        refine WA.seg (fuel := 0) [(12, 2), (13, 1)] (by kernel_rfl) (by kernel_rfl) rfl ?_
        refine WO.k2 rfl rfl rfl rfl (rn_fieldAddr Try.runUnderlying46 rfl Try.sizeOf44 rfl rfl) ?_
        refine WO.stB (κ := K208) 8 (off := 1) (vc := [.slice a93 x93.length u93]) (cs' := [.slice a88 x88.length u88, .slice a93 x93.length u93]) rfl rfl rfl rfl rfl rfl rfl Try.sizeOf44 rfl rfl f214 rfl rfl fun w215 S216 f217 => ⟨trivial, ?_⟩
        refine WO.wa ?_
        refine WA.last [] (by kernel_rfl) (by kernel_rfl) rfl ?_
        refine WO.fin ?_
        have f218 := f200.stp (S204.tr (S209.tr (S213.tr S216))) rfl rfl
        have f219 := f210.stp (S213.tr S216) rfl rfl
        exact DN.meet _ ⟨(fun b => ren [(9, 15), (10, 16)] (K208 b)), a88, u88, a93, u93, rfl, (Stp.ren ((S189.tr (S194.tr (S199.tr (S204.tr (S209.tr (S213.tr S216)))))).wk rfl) [(9, 15), (10, 16)] rfl), (f218.map (ren [(9, 15), (10, 16)]) rfl rfl), (f219.map (ren [(9, 15), (10, 16)]) rfl rfl), (f217.map (ren [(9, 15), (10, 16)]) rfl rfl)⟩ fun a ha => (ha.more (ha.more (ha.more (ha.more (ha.more (ha.more ha.nil rfl) rfl) rfl) rfl) rfl) rfl)
       ·
        have f220 := f112.stp (S189.tr S194) rfl rfl
        refine WO.bl (κ := K193) (E := (Ep.own (Ep.int .i64) 2)) 16 [12] (parts := [(0, .tmp 91)]) (cells := [.slice las6_2 s6.2.2.length lus6_2]) (xs := ([s6.2.2] : List (List Int))) rfl rfl rfl rfl rfl rfl Try.underlying44 Tryinfo24 rfl rfl rfl rfl rfl rfl rfl rfl rfl rfl ⟨[.slice las6_2 s6.2.2.length lus6_2], [], Zl K193 w192 [12], Zl K193 w192 [], rfl, Zl.sp (l1 := [12]) (l2 := []) rfl, Zl.sr (l1 := [12]) (l2 := []), ⟨_, _, rfl, f220⟩, rfl⟩ fun a92 u92 w221 K222 S223 f224 => ⟨((S194.tr S223).cl rfl), ?_⟩
        refine WO.wa ?_
        refine WA.seg (fuel := 3) [(4, 1), (10, 2), (9, 1)] (by kernel_rfl) (by kernel_rfl) rfl ?_
        have f225 := f195.stp S223 rfl rfl
        have f226 := f82.stp (S90.tr (S94.tr (S101.tr (S109.tr (S189.tr (S194.tr S223)))))) rfl rfl
        refine WO.app (κ := K222) (E := (Ep.own (Ep.int .i64) 2)) 9 [15] rfl rfl rfl rfl rfl rfl rfl rfl rfl Try.underlying44 Tryinfo24 rfl rfl rfl rfl f226 f225.src (sy_one rfl) hx88 rfl fun a88 u88 w227 K228 S229 f230 => ⟨((S194.tr (S223.tr S229)).cl rfl), ?_⟩
        refine WO.k2 rfl rfl rfl rfl (rn_fieldAddr Try.runUnderlying46 rfl Try.sizeOf44 rfl rfl) ?_
        have f231 := f224.stp S229 rfl rfl
        have f232 := f83.stp (S90.tr (S94.tr (S101.tr (S109.tr (S189.tr (S194.tr (S223.tr S229))))))) rfl rfl
        refine WO.app (κ := K228) (E := (Ep.own (Ep.int .i64) 2)) 10 [16] rfl rfl rfl rfl rfl rfl rfl rfl rfl Try.underlying44 Tryinfo24 rfl rfl rfl rfl f232 f231.src (sy_one rfl) hx93 rfl fun a93 u93 w233 K234 S235 f236 => ⟨((S194.tr (S223.tr (S229.tr S235))).cl rfl), ?_⟩
        refine WO.wa ?_
        refine WA.brk (fuel := 2) 11 (by kernel_rfl) rfl (by kernel_rfl) ?_
        have f237 := f190.stp (S194.tr (S223.tr (S229.tr S235))) rfl rfl
        refine WO.stB (κ := K234) 8 (off := 0) (vc := [.slice a88 x88.length u88]) (cs' := [.slice a88 x88.length u88, .slice las1_2 s1.2.2.2.length lus1_2]) rfl rfl rfl rfl rfl rfl rfl Try.sizeOf44 rfl rfl f237 rfl rfl fun w238 S239 f240 => ⟨trivial, ?_⟩
        refine WO.wa ?_
        refine WA.seg (fuel := 0) [(12, 2), (13, 1)] (by kernel_rfl) (by kernel_rfl) rfl ?_
        refine WO.k2 rfl rfl rfl rfl (rn_fieldAddr Try.runUnderlying46 rfl Try.sizeOf44 rfl rfl) ?_
        refine WO.stB (κ := K234) 8 (off := 1) (vc := [.slice a93 x93.length u93]) (cs' := [.slice a88 x88.length u88, .slice a93 x93.length u93]) rfl rfl rfl rfl rfl rfl rfl Try.sizeOf44 rfl rfl f240 rfl rfl fun w241 S242 f243 => ⟨trivial, ?_⟩
        refine WO.wa ?_
        refine WA.last [] (by kernel_rfl) (by kernel_rfl) rfl ?_
        refine WO.fin ?_
        have f244 := f230.stp (S235.tr (S239.tr S242)) rfl rfl
        have f245 := f236.stp (S239.tr S242) rfl rfl
        exact DN.meet _ ⟨(fun b => ren [(9, 15), (10, 16)] (K234 b)), a88, u88, a93, u93, rfl, (Stp.ren ((S189.tr (S194.tr (S223.tr (S229.tr (S235.tr (S239.tr S242)))))).wk rfl) [(9, 15), (10, 16)] rfl), (f244.map (ren [(9, 15), (10, 16)]) rfl rfl), (f245.map (ren [(9, 15), (10, 16)]) rfl rfl), (f243.map (ren [(9, 15), (10, 16)]) rfl rfl)⟩ fun a ha => (ha.more (ha.more (ha.more (ha.more (ha.more (ha.more ha.nil rfl) rfl) rfl) rfl) rfl) rfl)
      ·
       have f246 := f112.stp S189 rfl rfl
       refine WO.bl (κ := K108) (E := (Ep.own (Ep.int .i64) 2)) 15 [12] (parts := [(0, .tmp 91)]) (cells := [.slice las6_2 s6.2.2.length lus6_2]) (xs := ([s6.2.2] : List (List Int))) rfl rfl rfl rfl rfl rfl Try.underlying44 Tryinfo24 rfl rfl rfl rfl rfl rfl rfl rfl rfl rfl ⟨[.slice las6_2 s6.2.2.length lus6_2], [], Zl K108 w188 [12], Zl K108 w188 [], rfl, Zl.sp (l1 := [12]) (l2 := []) rfl, Zl.sr (l1 := [12]) (l2 := []), ⟨_, _, rfl, f246⟩, rfl⟩ fun a92 u92 w247 K248 S249 f250 => ⟨(S249.cl rfl), ?_⟩
       refine WO.wa ?_
       refine WA.seg (fuel := 3) [(3, 1), (4, 1), (10, 2), (9, 1)] (by kernel_rfl) (by kernel_rfl) rfl ?_
       have f251 := f111.stp (S189.tr S249) rfl rfl
       refine WO.bl (κ := K248) (E := (Ep.own (Ep.int .i64) 2)) 16 [11] (parts := [(0, .tmp 86)]) (cells := [.slice las6_1 s6.2.1.length lus6_1]) (xs := ([s6.2.1] : List (List Int))) rfl rfl rfl rfl rfl rfl Try.underlying44 Tryinfo24 rfl rfl rfl rfl rfl rfl rfl rfl rfl rfl ⟨[.slice las6_1 s6.2.1.length lus6_1], [], Zl K248 w247 [11], Zl K248 w247 [], rfl, Zl.sp (l1 := [11]) (l2 := []) rfl, Zl.sr (l1 := [11]) (l2 := []), ⟨_, _, rfl, f251⟩, rfl⟩ fun a87 u87 w252 K253 S254 f255 => ⟨((S249.tr S254).cl rfl), ?_⟩
       have f256 := f82.stp (S90.tr (S94.tr (S101.tr (S109.tr (S189.tr (S249.tr S254)))))) rfl rfl
       refine WO.app (κ := K253) (E := (Ep.own (Ep.int .i64) 2)) 9 [16] rfl rfl rfl rfl rfl rfl rfl rfl rfl Try.underlying44 Tryinfo24 rfl rfl rfl rfl f256 f255.src (sy_one rfl) hx88 rfl fun a88 u88 w257 K258 S259 f260 => ⟨((S249.tr (S254.tr S259)).cl rfl), ?_⟩
       refine WO.k2 rfl rfl rfl rfl (rn_fieldAddr Try.runUnderlying46 rfl Try.sizeOf44 rfl rfl) ?_
       have f261 := f250.stp (S254.tr S259) rfl rfl
       have f262 := f83.stp (S90.tr (S94.tr (S101.tr (S109.tr (S189.tr (S249.tr (S254.tr S259))))))) rfl rfl
       refine WO.app (κ := K258) (E := (Ep.own (Ep.int .i64) 2)) 10 [15] rfl rfl rfl rfl rfl rfl rfl rfl rfl Try.underlying44 Tryinfo24 rfl rfl rfl rfl f262 f261.src (sy_one rfl) hx93 rfl fun a93 u93 w263 K264 S265 f266 => ⟨((S249.tr (S254.tr (S259.tr S265))).cl rfl), ?_⟩
       refine WO.wa ?_
       refine WA.brk (fuel := 2) 11 (by kernel_rfl) rfl (by kernel_rfl) ?_
       have f267 := f190.stp (S249.tr (S254.tr (S259.tr S265))) rfl rfl
       refine WO.stB (κ := K264) 8 (off := 0) (vc := [.slice a88 x88.length u88]) (cs' := [.slice a88 x88.length u88, .slice las1_2 s1.2.2.2.length lus1_2]) rfl rfl rfl rfl rfl rfl rfl Try.sizeOf44 rfl rfl f267 rfl rfl fun w268 S269 f270 => ⟨trivial, ?_⟩
       refine WO.wa ?_
       refine WA.seg (fuel := 0) [(12, 2), (13, 1)] (by kernel_rfl) (by kernel_rfl) rfl ?_
       refine WO.k2 rfl rfl rfl rfl (rn_fieldAddr Try.runUnderlying46 rfl Try.sizeOf44 rfl rfl) ?_
       refine WO.stB (κ := K264) 8 (off := 1) (vc := [.slice a93 x93.length u93]) (cs' := [.slice a88 x88.length u88, .slice a93 x93.length u93]) rfl rfl rfl rfl rfl rfl rfl Try.sizeOf44 rfl rfl f270 rfl rfl fun w271 S272 f273 => ⟨trivial, ?_⟩
       refine WO.wa ?_
       refine WA.last [] (by kernel_rfl) (by kernel_rfl) rfl ?_
       refine WO.fin ?_
       have f274 := f260.stp (S265.tr (S269.tr S272)) rfl rfl
       have f275 := f266.stp (S269.tr S272) rfl rfl
       exact DN.meet _ ⟨(fun b => ren [(9, 15), (10, 16)] (K264 b)), a88, u88, a93, u93, rfl, (Stp.ren ((S189.tr (S249.tr (S254.tr (S259.tr (S265.tr (S269.tr S272)))))).wk rfl) [(9, 15), (10, 16)] rfl), (f274.map (ren [(9, 15), (10, 16)]) rfl rfl), (f275.map (ren [(9, 15), (10, 16)]) rfl rfl), (f273.map (ren [(9, 15), (10, 16)]) rfl rfl)⟩ fun a ha => (ha.more (ha.more (ha.more (ha.more (ha.more (ha.more ha.nil rfl) rfl) rfl) rfl) rfl) rfl)
     rintro _ w181 ⟨K182, lar184_0, lur184_0, lar184_1, lur184_1, rfl, S183, f185, f186, f187⟩
     refine DN.block ?_
     refine DN.seq ?_
     refine WC.rs [(0, 2), (1, 2), (2, 2)] rfl ?_
     refine WO.pn 3 rfl ?_
     refine WO.fin ?_
     have f276 := f110.stp S183 rfl rfl
     obtain rfl := Option.some.inj h
     refine DN.round fun a ha => ?_
     exact ⟨k, _, Nat.lt_succ_self _, ⟨(fun b => ren [(15, 9), (16, 10)] (K182 b)), ((s6.1 : (List Int)), ((IntKind.i64.wrap (s1.2.1 + 1)) : Int), (x88 : (List (List Int))), (x93 : (List (List Int)))), las6_0, lus6_0, lar184_0, lur184_0, lar184_1, lur184_1, rfl, (Stp.ren ((S80.tr (S90.tr (S94.tr (S101.tr (S109.tr S183))))).wk rfl) [(15, 9), (16, 10)] rfl), (f276.map (ren [(15, 9), (16, 10)]) rfl rfl), (f185.map (ren [(15, 9), (16, 10)]) rfl rfl), (f186.map (ren [(15, 9), (16, 10)]) rfl rfl), (f187.map (ren [(15, 9), (16, 10)]) rfl rfl), hk86⟩, (ha.more (ha.more (ha.more (ha.more (ha.more (ha.more ha.nil rfl) rfl) rfl) rfl) rfl) rfl)⟩
    | false =>
     intro h; replace h := cF h
     refine WC.cf rfl ?_
     refine WC.exit ?_
     refine DN.exitThen ?_
     refine DN.exitThen ?_
     obtain rfl := Option.some.inj h
     have h := hk86
     refine DN.hit ?_
     obtain rfl := Option.some.inj h
     exact DN.meet _ ⟨K79, ((s1.1 : (List Int)), (s1.2.1 : Int), (s1.2.2.1 : (List (List Int))), (s1.2.2.2 : (List (List Int)))), las1_0, lus1_0, las1_1, lus1_1, las1_2, lus1_2, rfl, S80.wk rfl, f81, f82, f83, f84, rfl⟩ fun a ha => (ha.more (ha.more (ha.more ha.nil rfl) rfl) rfl)
  rintro _ w71 ⟨K72, s3, las3_0, lus3_0, las3_1, lus3_1, las3_2, lus3_2, rfl, S73, f74, f75, f76, f77, rfl⟩
  have h := hK69
  dsimp only [aft] at h
  refine DN.seq ?_
  refine WC.seq ?_
  refine WC.seq ?_
  refine WC.rs [(0, 2), (1, 2), (2, 2)] rfl ?_
  refine WO.pn 1 rfl ?_
  refine WO.k2 rfl rfl rfl rfl (rn_len Try.runUnderlying24 rfl rfl) ?_
  refine WO.pn 1 rfl ?_
  refine WO.fin ?_
  refine DN.seq ?_
  revert h
  cases ht277 : decide (48 < (s3.1.length : Int)) with
  | true =>
   intro h; replace h := cT h
   refine WC.ct rfl ?_
   refine WC.seq ?_
   refine WC.rs [(0, 2), (1, 1), (2, 2)] rfl ?_
   refine WO.k2 rfl rfl rfl rfl (rn_build (parts := []) (cells := [.slice none 0 0, .slice none 0 0]) rfl rfl (by kernel_rfl)) ?_
   have f278 := f12.stp (S18.tr (S36.tr (S43.tr (S50.tr (S59.tr (S63.tr (S66.tr S73))))))) rfl rfl
   refine WO.stB0 (κ := K72) 4 (vc := [.slice none 0 0, .slice none 0 0]) rfl rfl rfl rfl rfl rfl rfl Try.sizeOf46 rfl rfl f278 rfl fun w279 S280 f281 => ⟨trivial, ?_⟩
   refine WO.pn 1 rfl ?_
   refine WO.fin ?_
   refine DN.seq ?_
   refine WC.ret ?_
   refine DN.retThen ?_
   have f282 := hE.stp (S3.tr (S7.tr (S11.tr (S18.tr (S36.tr (S43.tr (S50.tr (S59.tr (S63.tr (S66.tr (S73.tr S280))))))))))) rfl rfl
   refine DN.res (l := [.cell 4 46, .tmp 5]) Try.results25 (res_cellA rfl f281 Try.isAgg46 Try.sizeOf46 rfl (res_tmp rfl rfl)) rfl ?_
   obtain rfl := Option.some.inj h
   exact ⟨K72, none, 0, none, 0, rfl, f282, Ow.nil, Ow.nil⟩
  | false =>
   intro h; replace h := cF h
   refine WC.cf rfl ?_
   refine WC.skip ?_
   refine DN.seq ?_
   refine WC.seq ?_
   refine WC.rs [(0, 1), (1, 1), (2, 2)] rfl ?_
   refine WO.k1 trivial rfl rfl rfl rfl (rn_la (cs := [.slice las3_1 s3.2.2.1.length lus3_1, .slice las3_2 s3.2.2.2.length lus3_2]) Try.isAgg46 Try.sizeOf46 rfl rfl rfl (haE f77.cells)) ?_
   have f283 := f12.stp (S18.tr (S36.tr (S43.tr (S50.tr (S59.tr (S63.tr (S66.tr S73))))))) rfl rfl
   refine WO.stB0 (κ := K72) 4 (vc := [.slice las3_1 s3.2.2.1.length lus3_1, .slice las3_2 s3.2.2.2.length lus3_2]) rfl rfl rfl rfl rfl rfl rfl Try.sizeOf46 rfl rfl f283 rfl fun w284 S285 f286 => ⟨trivial, ?_⟩
   refine WO.pn 1 rfl ?_
   refine WO.fin ?_
   refine DN.seq ?_
   refine WC.ret ?_
   have f287 := hE.stp (S3.tr (S7.tr (S11.tr (S18.tr (S36.tr (S43.tr (S50.tr (S59.tr (S63.tr (S66.tr (S73.tr S285))))))))))) rfl rfl
   have f288 := f75.stp S285 rfl rfl
   have f289 := f76.stp S285 rfl rfl
   refine DN.res (l := [.cell 4 46, .tmp 5]) Try.results25 (res_cellA rfl f286 Try.isAgg46 Try.sizeOf46 rfl (res_tmp rfl rfl)) rfl ?_
   obtain rfl := Option.some.inj h
   exact ⟨(fun b => ren [(9, 2), (10, 3)] (K72 b)), las3_1, lus3_1, las3_2, lus3_2, rfl, (f287.map (ren [(9, 2), (10, 3)]) rfl rfl), (f288.map (ren [(9, 2), (10, 3)]) rfl rfl), (f289.map (ren [(9, 2), (10, 3)]) rfl rfl)⟩

end Go.Proofs.Ythjkonkcdfdfaaa
