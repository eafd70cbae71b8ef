/- The walks, part 3. By program. -/
import Derived.Test.YtfmkhnlnomkcfaaFnsC42
set_option linter.unusedVariables false
set_option linter.unusedSimpArgs false
namespace Go.Proofs.Ytfmkhnlnomkcfaa
open Go Go.Wk Go.Proofs
set_option maxRecDepth 100000
set_option maxHeartbeats 1000000

/- loop.example/g00869/spec.CircuitMachine -/
theorem s_CircuitMachine_ok {w : World} {κ : Col} {p0 : Sig} {a1_2 : Option Addr} {u1_2 : Nat} {a1_3 : Option Addr} {u1_3 : Nat} {a1_4 : Option Addr} {u1_4 : Nat} {p1 : Circuit} (g1_2 : Rd (Rp.int .i64) κ w 0 a1_2 u1_2 p1.Next) (g1_3 : Rd Gate.rp κ w 0 a1_3 u1_3 p1.Gates) (g1_4 : Rd (Rp.int .i64) κ w 0 a1_4 u1_4 p1.Outs) {r : Machine × Bool} (h : s_CircuitMachine p0 p1 = some r) : Ret Try.prog 24 [.agg #[.int .i64 p0.In, .int .i64 p0.Out], .agg #[.int .i64 p1.Inputs, .int .i64 p1.Latches, .slice a1_2 p1.Next.length u1_2, .slice a1_3 p1.Gates.length u1_3, .slice a1_4 p1.Outs.length u1_4]] w (fun v w' => ∃ (κ' : Col) (ra0 : Option Addr) (ru0 : Nat) (ra1 : Option Addr) (ru1 : Nat), v = .tuple #[.agg #[.slice ra0 r.1.Next.length ru0, .slice ra1 r.1.Out.length ru1], .bool r.2] ∧ Ent κ w κ' w' ∧ Oc (Ep.own (Ep.int .i64) 2) 22 κ' w' 2 ra0 ru0 r.1.Next ∧ Oc (Ep.own (Ep.int .i64) 2) 22 κ' w' 3 ra1 ru1 r.1.Out) := by
 unfold s_CircuitMachine at h
 refine Ret.enter Try.func24 rfl Try.ntmps24 rfl ?_
 dsimp only [envOf]
 have hE := Ent.refl κ w
 refine WC.seq ?_
 refine WC.rs [(0, 1), (1, 1), (2, 1), (3, 2)] rfl ?_
 refine WO.box (κ := κ) 2 rfl rfl rfl rfl rfl rfl rfl fun b2 w1 K2 S3 f4 => ⟨trivial, ?_⟩
 refine WO.box (κ := K2) 3 rfl rfl rfl rfl rfl rfl rfl fun b3 w5 K6 S7 f8 => ⟨trivial, ?_⟩
 refine WO.alloc (κ := K6) 4 rfl rfl rfl rfl rfl Try.zeroValue50 rfl fun b4 w9 K10 S11 f12 => ⟨trivial, ?_⟩
 refine WO.pn 1 rfl ?_
 refine WO.fin ?_
 refine DN.seq ?_
 refine WC.seq ?_
 refine WC.seq ?_
 refine WC.rs [(0, 1), (1, 1), (2, 2), (3, 2), (4, 1), (5, 1), (6, 1), (7, 2), (8, 2)] rfl ?_
 have f13 := f4.stp (S7.tr S11) rfl rfl
 refine WO.k1 trivial rfl rfl rfl rfl (rn_la (cs := [.int .i64 p0.In, .int .i64 p0.Out]) Try.isAgg53 Try.sizeOf53 rfl rfl rfl (haE f13.cells)) ?_
 obtain ⟨x16, hx16, h⟩ := Option.bind_eq_some_iff.mp h
 refine WO.call rfl rfl rfl rfl rfl rfl Try.call99 (s_SigOk_ok (κ := fun b => mp [] 0 (K10 b)) (p0 := p0) hx16) ?_
 rintro _ w14 ⟨k15, rfl, e16⟩
 obtain ⟨K17, S18, m19⟩ := Ent.mixed (l := []) (κ := K10) e16 5 rfl
 refine ⟨trivial, ?_⟩
 refine WO.pn 2 rfl ?_
 obtain ⟨p23, h, hK21⟩ := Option.bind_eq_some_iff.mp h
 refine WO.meet [(4, 1), (5, 1), (6, 1), (7, 2), (8, 2)] [] (fun L w' => L = [(2, .pointer (some ⟨b2, 0, none⟩)), (3, .pointer (some ⟨b3, 0, none⟩)), (4, .pointer (some ⟨b4, 0, none⟩)), (23, .bool p23)] ∧ ∃ κ', Stp [] K17 w14 κ' w') trivial ?_ ?_
 ·
  revert h
  cases ht22 : (!x16) with
  | true =>
   intro h; replace h := cT h
   refine WO.ls rfl rfl rfl rfl ?_
   refine WO.ls rfl rfl rfl rfl ?_
   refine WO.ls rfl rfl rfl rfl ?_
   refine WO.pn 2 rfl ?_
   obtain rfl := Option.some.inj h
   exact WO.met _ trivial ⟨rfl, _, (Stp.refl _ _).wk rfl⟩ fun a ha => (ha.more (ha.more (ha.more (ha.more ha.nil rfl) rfl) rfl) rfl)
  | false =>
   intro h; replace h := cF h
   have f23 := f13.stp S18 rfl rfl
   refine WO.k1 trivial rfl rfl rfl rfl (rn_la (cs := [.int .i64 p0.In, .int .i64 p0.Out]) Try.isAgg53 Try.sizeOf53 rfl rfl rfl (haE f23.cells)) ?_
   have f24 := f8.stp (S11.tr S18) rfl rfl
   refine WO.k1 trivial rfl rfl rfl rfl (rn_la (cs := [.int .i64 p1.Inputs, .int .i64 p1.Latches, .slice a1_2 p1.Next.length u1_2, .slice a1_3 p1.Gates.length u1_3, .slice a1_4 p1.Outs.length u1_4]) Try.isAgg57 Try.sizeOf57 rfl rfl rfl (haE f24.cells)) ?_
   obtain ⟨x21, hx21, h⟩ := Option.bind_eq_some_iff.mp h
   have f25 := g1_2.stp (S3.tr (S7.tr (S11.tr S18))) rfl rfl
   have f26 := g1_3.stp (S3.tr (S7.tr (S11.tr S18))) rfl rfl
   have f27 := g1_4.stp (S3.tr (S7.tr (S11.tr S18))) rfl rfl
   refine WO.call rfl rfl rfl rfl rfl rfl Try.call100 (s_l31Fits_ok (κ := fun b => mp [] 0 (K17 b)) (p0 := p0) (p1 := p1) (Sl.map f25 (mp [] 0) rfl rfl) (Sl.map f26 (mp [] 0) rfl rfl) (Sl.map f27 (mp [] 0) rfl rfl) hx21) ?_
   rintro _ w28 ⟨k29, rfl, e30⟩
   obtain ⟨K31, S32, m33⟩ := Ent.mixed (l := []) (κ := K17) e30 7 rfl
   refine ⟨trivial, ?_⟩
   refine WO.pn 2 rfl ?_
   obtain rfl := Option.some.inj h
   exact WO.met _ trivial ⟨rfl, _, S32.wk rfl⟩ fun a ha => (ha.more (ha.more (ha.more (ha.more ha.nil rfl) rfl) rfl) rfl)
 rintro _ w35 _ ⟨rfl, K36, S37⟩
 have h := hK21
 refine WO.fin ?_
 refine DN.seq ?_
 revert h
 cases ht38 : p23 with
 | true =>
  intro h; replace h := cT h
  refine WC.ct rfl ?_
  refine WC.seq ?_
  refine WC.rs [(0, 2), (1, 1), (2, 2)] rfl ?_
  refine WO.k2 rfl rfl rfl rfl (rn_build (parts := []) (cells := [.slice none 0 0, .slice none 0 0]) rfl rfl (by kernel_rfl)) ?_
  have f39 := f12.stp (S18.tr S37) rfl rfl
  refine WO.stB0 (κ := K36) 4 (vc := [.slice none 0 0, .slice none 0 0]) rfl rfl rfl rfl rfl rfl rfl Try.sizeOf50 rfl rfl f39 rfl fun w40 S41 f42 => ⟨trivial, ?_⟩
  refine WO.pn 1 rfl ?_
  refine WO.fin ?_
  refine DN.seq ?_
  refine WC.ret ?_
  refine DN.retThen ?_
  have f43 := hE.stp (S3.tr (S7.tr (S11.tr (S18.tr (S37.tr S41))))) rfl rfl
  refine DN.res (l := [.cell 4 50, .tmp 5]) Try.results24 (res_cellA rfl f42 Try.isAgg50 Try.sizeOf50 rfl (res_tmp rfl rfl)) rfl ?_
  obtain rfl := Option.some.inj h
  exact ⟨K36, none, 0, none, 0, rfl, f43, Ow.nil, Ow.nil⟩
 | false =>
  intro h; replace h := cF h
  refine WC.cf rfl ?_
  refine WC.skip ?_
  refine DN.seq ?_
  refine WC.seq ?_
  refine WC.rs [(0, 2), (1, 1), (2, 1)] rfl ?_
  refine WO.k2 rfl rfl rfl rfl (rn_build (parts := []) (cells := [.slice none 0 0, .slice none 0 0]) rfl rfl (by kernel_rfl)) ?_
  refine WO.alloc (κ := K36) 7 rfl rfl rfl rfl rfl Try.zeroValue50 rfl fun b6 w44 K45 S46 f47 => ⟨trivial, ?_⟩
  refine WO.stB0 (κ := K45) 7 (vc := [.slice none 0 0, .slice none 0 0]) rfl rfl rfl rfl rfl rfl rfl Try.sizeOf50 rfl rfl f47 rfl fun w48 S49 f50 => ⟨trivial, ?_⟩
  refine WO.fin ?_
  refine DN.seq ?_
  refine WC.seq ?_
  refine WC.rs [(0, 1), (1, 2)] rfl ?_
  refine WO.bl (κ := K45) (E := (Ep.int .i64)) 8 [] (parts := [(0, .const (.int .i64 0))]) (cells := [.int .i64 0]) (xs := ([0] : List Int)) rfl rfl rfl rfl rfl rfl Try.underlying22 Tryinfo2 rfl rfl rfl rfl rfl rfl rfl rfl rfl rfl ⟨[.int .i64 0], [], Zl K45 w48 [], Zl K45 w48 [], rfl, Zl.sp (l1 := []) (l2 := []) rfl, Zl.sr (l1 := []) (l2 := []), rfl, rfl⟩ fun a26 u26 w51 K52 S53 f54 => ⟨trivial, ?_⟩
  refine WO.pn 1 rfl ?_
  refine WO.fin ?_
  refine DN.seq ?_
  refine WC.seq ?_
  refine WC.seq ?_
  refine WC.rs [(0, 2)] rfl ?_
  refine WO.pn 1 rfl ?_
  refine WO.fin ?_
  refine DN.seq ?_
  obtain ⟨q2, hq57, hK56⟩ := Option.bind_eq_some_iff.mp h
  clear h
  refine WC.meet (fun L w' => ∃ (κ' : Col) (s3 : (List Int) × Int × (List (List Int)) × (List (List Int))) (las3_0 : Option Addr) (lus3_0 : Nat) (las3_1 : Option Addr) (lus3_1 : Nat) (las3_2 : Option Addr) (lus3_2 : Nat), L = [(4, .pointer (some ⟨b4, 0, none⟩)), (6, .pointer (some ⟨b6, 0, none⟩))] ∧ Stp [7, 8, 9, 10, 11, 12, 13, 14] K52 w51 κ' w' ∧ Oc (Ep.int .i64) 2 κ' w' 8 las3_0 lus3_0 s3.1 ∧ Oc (Ep.own (Ep.int .i64) 2) 22 κ' w' 9 las3_1 lus3_1 s3.2.2.1 ∧ Oc (Ep.own (Ep.int .i64) 2) 22 κ' w' 10 las3_2 lus3_2 s3.2.2.2 ∧ Bc κ' w' 7 b6 50 [.slice las3_1 s3.2.2.1.length lus3_1, .slice las3_2 s3.2.2.2.length lus3_2] ∧ q2 = Sum.inr s3) ?_ ?_
  ·
   refine WC.block ?_
   have f72 := f50.stp S53 rfl rfl
   refine WC.loop (fun k L w' => ∃ (κ' : Col) (s1 : (List Int) × Int × (List (List Int)) × (List (List Int))) (las1_0 : Option Addr) (lus1_0 : Nat) (las1_1 : Option Addr) (lus1_1 : Nat) (las1_2 : Option Addr) (lus1_2 : Nat), L = [(2, .pointer (some ⟨b2, 0, none⟩)), (3, .pointer (some ⟨b3, 0, none⟩)), (4, .pointer (some ⟨b4, 0, none⟩)), (6, .pointer (some ⟨b6, 0, none⟩)), (7, .slice las1_0 s1.1.length lus1_0), (8, .int .i64 s1.2.1)] ∧ Stp [7, 8, 9, 10, 11, 12, 13, 14] K52 w51 κ' w' ∧ Oc (Ep.int .i64) 2 κ' w' 8 las1_0 lus1_0 s1.1 ∧ Oc (Ep.own (Ep.int .i64) 2) 22 κ' w' 9 las1_1 lus1_1 s1.2.2.1 ∧ Oc (Ep.own (Ep.int .i64) 2) 22 κ' w' 10 las1_2 lus1_2 s1.2.2.2 ∧ Bc κ' w' 7 b6 50 [.slice las1_1 s1.2.2.1.length lus1_1, .slice las1_2 s1.2.2.2.length lus1_2] ∧ whileM (s_CircuitMachine_b0 p0 p1) k s1 = some q2) ⟨_, _, ⟨K52, ((([0] : List Int) : (List Int)), (0 : Int), (([] : List (List Int)) : (List (List Int))), (([] : List (List Int)) : (List (List Int)))), a26, u26, none, 0, none, 0, rfl, (Stp.refl _ _).wk rfl, f54, Ow.nil, Ow.nil, f72, hq57⟩, fun a ha => (ha.more (ha.more (ha.more (ha.more (ha.more (ha.more ha.nil rfl) rfl) rfl) rfl) rfl) rfl)⟩ ?_
   rintro k _ w65 ⟨K66, s1, las1_0, lus1_0, las1_1, lus1_1, las1_2, lus1_2, rfl, S67, f68, f69, f70, f71, h⟩
   rcases k with _ | k
   ·
    cases h
   ·
    obtain ⟨o55, h, hk73⟩ := Option.bind_eq_some_iff.mp h; unfold s_CircuitMachine_b0 at h
    refine WC.seq ?_
    refine WC.seq ?_
    refine WC.rs [(0, 2), (1, 2), (2, 2), (3, 2)] rfl ?_
    refine WO.pn 2 rfl ?_
    refine WO.k2 rfl rfl rfl rfl (rn_len Try.runUnderlying22 rfl rfl) ?_
    refine WO.pn 1 rfl ?_
    refine WO.fin ?_
    refine DN.seq ?_
    revert h
    cases ht74 : decide (s1.2.1 < (s1.1.length : Int)) with
    | true =>
     intro h; replace h := cT h
     refine WC.ct rfl ?_
     refine WC.skip ?_
     refine DN.seq ?_
     refine WC.seq ?_
     refine WC.block ?_
     refine WC.seq ?_
     refine WC.rs [(0, 1), (1, 2)] rfl ?_
     refine WO.bl0 (κ := K66) (E := (Ep.int .i64)) 11 rfl rfl rfl rfl rfl Try.underlying22 Tryinfo2 rfl fun a33 u33 w75 K76 S77 f78 => ⟨trivial, ?_⟩
     refine WO.pn 1 rfl ?_
     refine WO.fin ?_
     refine DN.seq ?_
     refine WC.seq ?_
     refine WC.rs [(0, 1), (1, 2)] rfl ?_
     refine WO.bl0 (κ := K76) (E := (Ep.int .i64)) 12 rfl rfl rfl rfl rfl Try.underlying22 Tryinfo2 rfl fun a34 u34 w79 K80 S81 f82 => ⟨trivial, ?_⟩
     refine WO.pn 1 rfl ?_
     refine WO.fin ?_
     refine DN.seq ?_
     refine WC.seq ?_
     refine WC.seq ?_
     refine WC.rs [(0, 2)] rfl ?_
     refine WO.pn 1 rfl ?_
     refine WO.fin ?_
     refine DN.seq ?_
     obtain ⟨q5, hq85, hK84⟩ := Option.bind_eq_some_iff.mp h
     clear h
     refine WC.meet (fun L w' => ∃ (κ' : Col) (s6 : (List Int) × (List Int) × (List Int) × Int) (las6_0 : Option Addr) (lus6_0 : Nat) (las6_1 : Option Addr) (lus6_1 : Nat) (las6_2 : Option Addr) (lus6_2 : Nat), L = [(2, .pointer (some ⟨b2, 0, none⟩)), (3, .pointer (some ⟨b3, 0, none⟩)), (4, .pointer (some ⟨b4, 0, none⟩)), (6, .pointer (some ⟨b6, 0, none⟩)), (7, .slice las6_0 s6.1.length lus6_0), (8, .int .i64 s1.2.1), (9, .slice las6_1 s6.2.1.length lus6_1), (10, .slice las6_2 s6.2.2.1.length lus6_2)] ∧ Stp [8, 11, 12] K80 w79 κ' w' ∧ Oc (Ep.int .i64) 2 κ' w' 8 las6_0 lus6_0 s6.1 ∧ Oc (Ep.int .i64) 2 κ' w' 11 las6_1 lus6_1 s6.2.1 ∧ Oc (Ep.int .i64) 2 κ' w' 12 las6_2 lus6_2 s6.2.2.1 ∧ q5 = Sum.inr s6) ?_ ?_
     ·
      refine WC.block ?_
      have f98 := f68.stp (S77.tr S81) rfl rfl
      have f99 := f78.stp S81 rfl rfl
      refine WC.loop (fun k L w' => ∃ (κ' : Col) (s4 : (List Int) × (List Int) × (List Int) × Int) (las4_0 : Option Addr) (lus4_0 : Nat) (las4_1 : Option Addr) (lus4_1 : Nat) (las4_2 : Option Addr) (lus4_2 : Nat), L = [(2, .pointer (some ⟨b2, 0, none⟩)), (3, .pointer (some ⟨b3, 0, none⟩)), (4, .pointer (some ⟨b4, 0, none⟩)), (6, .pointer (some ⟨b6, 0, none⟩)), (7, .slice las4_0 s4.1.length lus4_0), (8, .int .i64 s1.2.1), (9, .slice las4_1 s4.2.1.length lus4_1), (10, .slice las4_2 s4.2.2.1.length lus4_2), (11, .int .i64 s4.2.2.2)] ∧ Stp [8, 11, 12] K80 w79 κ' w' ∧ Oc (Ep.int .i64) 2 κ' w' 8 las4_0 lus4_0 s4.1 ∧ Oc (Ep.int .i64) 2 κ' w' 11 las4_1 lus4_1 s4.2.1 ∧ Oc (Ep.int .i64) 2 κ' w' 12 las4_2 lus4_2 s4.2.2.1 ∧ whileM (s_CircuitMachine_b2 p0 p1 s1) k s4 = some q5) ⟨_, _, ⟨K80, ((s1.1 : (List Int)), (([] : List Int) : (List Int)), (([] : List Int) : (List Int)), (0 : Int)), las1_0, lus1_0, a33, u33, a34, u34, rfl, (Stp.refl _ _).wk rfl, f98, f99, f82, hq85⟩, fun a ha => (ha.more (ha.more (ha.more (ha.more (ha.more (ha.more (ha.more (ha.more (ha.more ha.nil rfl) rfl) rfl) rfl) rfl) rfl) rfl) rfl) rfl)⟩ ?_
      rintro k _ w92 ⟨K93, s4, las4_0, lus4_0, las4_1, lus4_1, las4_2, lus4_2, rfl, S94, f95, f96, f97, h⟩
      rcases k with _ | k
      ·
       cases h
      ·
       obtain ⟨o83, h, hk100⟩ := Option.bind_eq_some_iff.mp h; unfold s_CircuitMachine_b2 at h
       refine WC.seq ?_
       refine WC.seq ?_
       refine WC.rs [(0, 2), (1, 2), (2, 1), (3, 1), (4, 2)] rfl ?_
       refine WO.pn 1 rfl ?_
       refine WO.k2 rfl rfl rfl rfl (rn_fieldAddr Try.runUnderlying53 rfl Try.sizeOf2 rfl rfl) ?_
       have f101 := f13.stp (S18.tr (S37.tr (S46.tr (S49.tr (S53.tr (S67.tr (S77.tr (S81.tr S94)))))))) rfl rfl
       refine WO.k1 trivial rfl rfl rfl rfl (rn_ld Try.isAgg2 rfl rfl (hvE (f101.ld 0 rfl rfl))) ?_
       obtain ⟨x38, hx38, h⟩ := Option.bind_eq_some_iff.mp h
       refine WO.call rfl rfl rfl rfl rfl rfl Try.call101 (s_l31Pow_ok (κ := fun b => mp [] 0 (K93 b)) hx38) ?_
       rintro _ w102 ⟨k103, rfl, e104⟩
       obtain ⟨K105, S106, m107⟩ := Ent.mixed (l := []) (κ := K93) e104 13 rfl
       refine ⟨trivial, ?_⟩
       refine WO.pn 1 rfl ?_
       refine WO.fin ?_
       refine DN.seq ?_
       revert h
       cases ht109 : decide (s4.2.2.2 < x38) with
       | true =>
        intro h; replace h := cT h
        refine WC.ct rfl ?_
        refine WC.skip ?_
        refine DN.seq ?_
        refine WC.seq ?_
        refine WC.block ?_
        refine WC.seq ?_
        refine WC.rx (κ := K105) [0, 3, 8] none [(1, 2), (2, 2), (3, 2), (5, 2), (0, 0), (4, 0), (6, 1), (7, 2), (8, 2), (9, 2), (10, 2), (11, 2)] [] (by kernel_rfl) (by kernel_rfl) fun w111 S110 => ?_
        refine WO.pn 2 rfl ?_
        obtain ⟨x46, hx46, h⟩ := Option.bind_eq_some_iff.mp h
        refine WO.k2 rfl rfl rfl rfl (rn_index f95.rdc hx46 Try.runUnderlying22 Try.sizeOf2 rfl rfl rfl rfl) ?_
        refine WO.pn 1 rfl ?_
        have f112 := f8.stp (S11.tr (S18.tr (S37.tr (S46.tr (S49.tr (S53.tr (S67.tr (S77.tr (S81.tr (S94.tr (S106.tr S110))))))))))) rfl rfl
        refine WO.k0 rfl rfl rfl rfl (rn_la (cs := [.int .i64 p1.Inputs, .int .i64 p1.Latches, .slice a1_2 p1.Next.length u1_2, .slice a1_3 p1.Gates.length u1_3, .slice a1_4 p1.Outs.length u1_4]) Try.isAgg57 Try.sizeOf57 rfl rfl rfl (haC f112.cells rfl)) ?_
        have f113 := f95.stp (S106.tr S110) rfl rfl
        refine WO.k0 rfl rfl rfl rfl (rn_ld Try.isAgg2 rfl rfl (hvC (f113.rdc.gInt hx46) rfl)) ?_
        obtain ⟨x49, hx49, h⟩ := Option.bind_eq_some_iff.mp h
        have f114 := g1_2.stp (S3.tr (S7.tr (S11.tr (S18.tr (S37.tr (S46.tr (S49.tr (S53.tr (S67.tr (S77.tr (S81.tr (S94.tr (S106.tr S110))))))))))))) rfl rfl
        have f115 := g1_3.stp (S3.tr (S7.tr (S11.tr (S18.tr (S37.tr (S46.tr (S49.tr (S53.tr (S67.tr (S77.tr (S81.tr (S94.tr (S106.tr S110))))))))))))) rfl rfl
        have f116 := g1_4.stp (S3.tr (S7.tr (S11.tr (S18.tr (S37.tr (S46.tr (S49.tr (S53.tr (S67.tr (S77.tr (S81.tr (S94.tr (S106.tr S110))))))))))))) rfl rfl
        refine WO.call rfl rfl rfl rfl rfl rfl Try.call102 (s_l31Step_ok (κ := fun b => mp [] 0 (K105 b)) (p0 := p1) (Sl.map f114 (mp [] 0) rfl rfl) (Sl.map f115 (mp [] 0) rfl rfl) (Sl.map f116 (mp [] 0) rfl rfl) hx49) ?_
        rintro _ w117 ⟨k118, rfl, e119⟩
        obtain ⟨K120, S121, m122⟩ := Ent.mixed (l := []) (κ := K105) e119 15 rfl
        refine ⟨(S121.cl rfl), ?_⟩
        refine WO.pn 5 rfl ?_
        refine WO.nx ?_
        refine WO.fin ?_
        refine DN.seq ?_
        refine WC.seq ?_
        refine WC.rs [(0, 2)] rfl ?_
        refine WO.pn 1 rfl ?_
        refine WO.fin ?_
        refine DN.seq ?_
        refine WC.seq ?_
        obtain ⟨q8, hq126, hK125⟩ := Option.bind_eq_some_iff.mp h
        clear h
        refine WC.meet (fun L w' => ∃ (κ' : Col) (s9 : Int), L = [(2, .pointer (some ⟨b2, 0, none⟩)), (3, .pointer (some ⟨b3, 0, none⟩)), (4, .pointer (some ⟨b4, 0, none⟩)), (6, .pointer (some ⟨b6, 0, none⟩)), (7, .slice las4_0 s4.1.length lus4_0), (8, .int .i64 s1.2.1), (9, .slice las4_1 s4.2.1.length lus4_1), (10, .slice las4_2 s4.2.2.1.length lus4_2), (11, .int .i64 s4.2.2.2), (12, .int .i64 x49.1), (13, .int .i64 x49.2), (14, .int .i64 s9)] ∧ Stp [] K120 w117 κ' w' ∧ q8 = Sum.inr s9) ?_ ?_
        ·
         refine WC.block ?_
         refine WC.loop (fun k L w' => ∃ (κ' : Col) (s7 : Int), L = [(2, .pointer (some ⟨b2, 0, none⟩)), (3, .pointer (some ⟨b3, 0, none⟩)), (4, .pointer (some ⟨b4, 0, none⟩)), (6, .pointer (some ⟨b6, 0, none⟩)), (7, .slice las4_0 s4.1.length lus4_0), (8, .int .i64 s1.2.1), (9, .slice las4_1 s4.2.1.length lus4_1), (10, .slice las4_2 s4.2.2.1.length lus4_2), (11, .int .i64 s4.2.2.2), (12, .int .i64 x49.1), (13, .int .i64 x49.2), (14, .int .i64 s7)] ∧ Stp [] K120 w117 κ' w' ∧ whileM (s_CircuitMachine_b4 s4 x49) k s7 = some q8) ⟨_, _, ⟨K120, (0 : Int), rfl, (Stp.refl _ _).wk rfl, hq126⟩, fun a ha => (ha.more (ha.more (ha.more (ha.more (ha.more (ha.more (ha.more (ha.more (ha.more (ha.more (ha.more (ha.more ha.nil rfl) rfl) rfl) rfl) rfl) rfl) rfl) rfl) rfl) rfl) rfl) rfl)⟩ ?_
         rintro k _ w130 ⟨K131, s7, rfl, S132, h⟩
         rcases k with _ | k
         ·
          cases h
         ·
          obtain ⟨o124, h, hk133⟩ := Option.bind_eq_some_iff.mp h; unfold s_CircuitMachine_b4 at h
          refine WC.seq ?_
          refine WC.seq ?_
          refine WC.rs [(0, 2), (1, 2), (2, 2), (3, 2), (4, 2), (5, 2), (6, 2), (7, 2), (8, 1), (9, 2), (10, 2), (11, 2)] rfl ?_
          refine WO.pn 2 rfl ?_
          refine WO.k2 rfl rfl rfl rfl (rn_len Try.runUnderlying22 rfl rfl) ?_
          refine WO.pn 2 rfl ?_
          obtain ⟨p63, h, hK134⟩ := Option.bind_eq_some_iff.mp h
          refine WO.meet [(5, 2), (6, 2), (7, 2), (8, 1), (9, 2), (10, 2), (11, 2)] [] (fun L w' => L = [(2, .pointer (some ⟨b2, 0, none⟩)), (3, .pointer (some ⟨b3, 0, none⟩)), (4, .pointer (some ⟨b4, 0, none⟩)), (6, .pointer (some ⟨b6, 0, none⟩)), (7, .slice las4_0 s4.1.length lus4_0), (8, .int .i64 s1.2.1), (9, .slice las4_1 s4.2.1.length lus4_1), (10, .slice las4_2 s4.2.2.1.length lus4_2), (11, .int .i64 s4.2.2.2), (12, .int .i64 x49.1), (13, .int .i64 x49.2), (14, .int .i64 s7), (63, .bool p63)] ∧ ∃ κ', Stp [] K131 w130 κ' w') trivial ?_ ?_
          ·
           revert h
           cases ht135 : decide (s7 < (s4.1.length : Int)) with
           | true =>
            intro h; replace h := cT h
            refine WO.pn 2 rfl ?_
            obtain ⟨x59, hx59, h⟩ := Option.bind_eq_some_iff.mp h
            refine WO.k2 rfl rfl rfl rfl (rn_index f113.rdc hx59 Try.runUnderlying22 Try.sizeOf2 rfl rfl rfl rfl) ?_
            have f136 := f113.stp (S121.tr S132) rfl rfl
            refine WO.k1 trivial rfl rfl rfl rfl (rn_ld Try.isAgg2 rfl rfl (hvE (f136.rdc.gInt hx59))) ?_
            refine WO.pn 3 rfl ?_
            obtain rfl := Option.some.inj h
            exact WO.met _ trivial ⟨rfl, _, (Stp.refl _ _).wk rfl⟩ fun a ha => (ha.more (ha.more (ha.more (ha.more (ha.more (ha.more (ha.more (ha.more (ha.more (ha.more (ha.more (ha.more (ha.more ha.nil rfl) rfl) rfl) rfl) rfl) rfl) rfl) rfl) rfl) rfl) rfl) rfl) rfl)
           | false =>
            intro h; replace h := cF h
            refine WO.pn 3 rfl ?_
            refine WO.ls rfl rfl rfl rfl ?_
            refine WO.pn 3 rfl ?_
            obtain rfl := Option.some.inj h
            exact WO.met _ trivial ⟨rfl, _, (Stp.refl _ _).wk rfl⟩ fun a ha => (ha.more (ha.more (ha.more (ha.more (ha.more (ha.more (ha.more (ha.more (ha.more (ha.more (ha.more (ha.more (ha.more ha.nil rfl) rfl) rfl) rfl) rfl) rfl) rfl) rfl) rfl) rfl) rfl) rfl) rfl)
          rintro _ w137 _ ⟨rfl, K138, S139⟩
          have h := hK134
          refine WO.fin ?_
          refine DN.seq ?_
          revert h
          cases ht140 : p63 with
          | true =>
           intro h; replace h := cT h
           refine WC.ct rfl ?_
           refine WC.skip ?_
           refine DN.seq ?_
           refine WC.block ?_
           refine WC.rs [(0, 2), (1, 2), (2, 2)] rfl ?_
           refine WO.pn 3 rfl ?_
           refine WO.fin ?_
           refine DN.block ?_
           obtain rfl := Option.some.inj h
           refine DN.round fun a ha => ?_
           exact ⟨k, _, Nat.lt_succ_self _, ⟨K138, ((IntKind.i64.wrap (s7 + 1)) : Int), rfl, (S132.tr S139).wk rfl, hk133⟩, (ha.more (ha.more (ha.more (ha.more (ha.more (ha.more (ha.more (ha.more (ha.more (ha.more (ha.more (ha.more ha.nil rfl) rfl) rfl) rfl) rfl) rfl) rfl) rfl) rfl) rfl) rfl) rfl)⟩
          | false =>
           intro h; replace h := cF h
           refine WC.cf rfl ?_
           refine WC.exit ?_
           refine DN.exitThen ?_
           refine DN.exitThen ?_
           obtain rfl := Option.some.inj h
           have h := hk133
           refine DN.hit ?_
           obtain rfl := Option.some.inj h
           exact DN.meet _ ⟨K138, (s7 : Int), rfl, (S132.tr S139).wk rfl, rfl⟩ fun a ha => (ha.more (ha.more (ha.more (ha.more (ha.more (ha.more (ha.more (ha.more (ha.more (ha.more (ha.more (ha.more ha.nil rfl) rfl) rfl) rfl) rfl) rfl) rfl) rfl) rfl) rfl) rfl) rfl)
        rintro _ w127 ⟨K128, s9, rfl, S129, rfl⟩
        have h := hK125
        dsimp only [aft] at h
        refine DN.seq ?_
        refine WC.seq ?_
        refine WC.seq ?_
        refine WC.rs [(0, 2), (1, 2), (2, 2), (3, 2)] rfl ?_
        refine WO.pn 2 rfl ?_
        refine WO.k2 rfl rfl rfl rfl (rn_len Try.runUnderlying22 rfl rfl) ?_
        refine WO.pn 1 rfl ?_
        refine WO.fin ?_
        refine DN.seq ?_
        obtain ⟨q10, h, hK141⟩ := Option.bind_eq_some_iff.mp h
        refine WC.meet (fun L w' => ∃ (κ' : Col) (z10 : (List Int)) (laq10_0 : Option Addr) (luq10_0 : Nat), L = [(2, .pointer (some ⟨b2, 0, none⟩)), (3, .pointer (some ⟨b3, 0, none⟩)), (4, .pointer (some ⟨b4, 0, none⟩)), (6, .pointer (some ⟨b6, 0, none⟩)), (7, .slice laq10_0 z10.length luq10_0), (8, .int .i64 s1.2.1), (9, .slice las4_1 s4.2.1.length lus4_1), (10, .slice las4_2 s4.2.2.1.length lus4_2), (11, .int .i64 s4.2.2.2), (13, .int .i64 x49.2), (14, .int .i64 s9)] ∧ Stp [8] K128 w127 κ' w' ∧ Oc (Ep.int .i64) 2 κ' w' 8 laq10_0 luq10_0 z10 ∧ q10 = Sum.inr z10) ?_ ?_
        ·
         revert h
         cases ht146 : (s9 == (s4.1.length : Int)) with
         | true =>
          intro h; replace h := cT h
          refine WC.ct rfl ?_
          refine WC.seq ?_
          refine WC.seq ?_
          refine WC.rs [(0, 2), (1, 2)] rfl ?_
          refine WO.pn 2 rfl ?_
          refine WO.fin ?_
          refine DN.seq ?_
          revert h
          cases ht147 : decide (48 ≤ s9) with
          | true =>
           intro h; replace h := cT h
           refine WC.ct rfl ?_
           refine WC.seq ?_
           refine WC.rs [(0, 2), (1, 1), (2, 2)] rfl ?_
           refine WO.k2 rfl rfl rfl rfl (rn_build (parts := []) (cells := [.slice none 0 0, .slice none 0 0]) rfl rfl (by kernel_rfl)) ?_
           have f148 := f12.stp (S18.tr (S37.tr (S46.tr (S49.tr (S53.tr (S67.tr (S77.tr (S81.tr (S94.tr (S106.tr (S110.tr (S121.tr S129)))))))))))) rfl rfl
           refine WO.stB0 (κ := K128) 4 (vc := [.slice none 0 0, .slice none 0 0]) rfl rfl rfl rfl rfl rfl rfl Try.sizeOf50 rfl rfl f148 rfl fun w149 S150 f151 => ⟨trivial, ?_⟩
           refine WO.pn 1 rfl ?_
           refine WO.fin ?_
           refine DN.seq ?_
           refine WC.ret ?_
           refine DN.retThen ?_
           refine DN.retMeet ?_
           obtain rfl := Option.some.inj h
           have h := hK141
           dsimp only [aft] at h
           refine DN.retThen ?_
           refine DN.retBlock ?_
           refine DN.retThen ?_
           refine DN.retThen ?_
           obtain rfl := Option.some.inj h
           obtain rfl := Option.some.inj hk100
           have h := hK84
           dsimp only [aft] at h
           refine DN.retBlock ?_
           refine DN.retMeet ?_
           refine DN.retThen ?_
           refine DN.retBlock ?_
           refine DN.retThen ?_
           refine DN.retThen ?_
           obtain rfl := Option.some.inj h
           obtain rfl := Option.some.inj hk73
           have h := hK56
           dsimp only [aft] at h
           refine DN.retBlock ?_
           refine DN.retMeet ?_
           refine DN.retThen ?_
           have f152 := hE.stp (S3.tr (S7.tr (S11.tr (S18.tr (S37.tr (S46.tr (S49.tr (S53.tr (S67.tr (S77.tr (S81.tr (S94.tr (S106.tr (S110.tr (S121.tr (S129.tr S150)))))))))))))))) rfl rfl
           refine DN.res (l := [.cell 4 50, .tmp 5]) Try.results24 (res_cellA rfl f151 Try.isAgg50 Try.sizeOf50 rfl (res_tmp rfl rfl)) rfl ?_
           obtain rfl := Option.some.inj h
           exact ⟨K128, none, 0, none, 0, rfl, f152, Ow.nil, Ow.nil⟩
          | false =>
           intro h; replace h := cF h
           refine WC.cf rfl ?_
           refine WC.skip ?_
           refine DN.seq ?_
           refine WC.rs [(0, 2), (1, 2), (2, 1), (3, 1), (4, 2)] rfl ?_
           refine WO.pn 2 rfl ?_
           refine WO.bl (κ := K128) (E := (Ep.int .i64)) 17 [] (parts := [(0, .tmp 74)]) (cells := [.int .i64 x49.1]) (xs := ([x49.1] : List Int)) rfl rfl rfl rfl rfl rfl Try.underlying22 Tryinfo2 rfl rfl rfl rfl rfl rfl rfl rfl rfl rfl ⟨[.int .i64 x49.1], [], Zl K128 w127 [], Zl K128 w127 [], rfl, Zl.sp (l1 := []) (l2 := []) rfl, Zl.sr (l1 := []) (l2 := []), rfl, rfl⟩ fun a75 u75 w153 K154 S155 f156 => ⟨trivial, ?_⟩
           obtain ⟨x76, hx76, h⟩ := Option.bind_eq_some_iff.mp h
           have f157 := f113.stp (S121.tr (S129.tr S155)) rfl rfl
           refine WO.app (κ := K154) (E := (Ep.int .i64)) 8 [] rfl rfl rfl rfl rfl rfl rfl rfl rfl Try.underlying22 Tryinfo2 rfl rfl rfl rfl f157 (Sl.srcP (pu_int _) f156.rdc) sy_false hx76 rfl fun a76 u76 w158 K159 S160 f161 => ⟨trivial, ?_⟩
           refine WO.pn 1 rfl ?_
           refine WO.fin ?_
           obtain rfl := Option.some.inj h
           exact DN.meet _ ⟨K159, (x76 : (List Int)), a76, u76, rfl, (S155.tr S160).wk rfl, f161, rfl⟩ fun a ha => (ha.more (ha.more (ha.more (ha.more (ha.more (ha.more (ha.more (ha.more (ha.more (ha.more (ha.more ha.nil rfl) rfl) rfl) rfl) rfl) rfl) rfl) rfl) rfl) rfl) rfl)
         | false =>
          intro h; replace h := cF h
          refine WC.cf rfl ?_
          refine WC.skip ?_
          have f162 := f113.stp (S121.tr S129) rfl rfl
          obtain rfl := Option.some.inj h
          exact DN.meet _ ⟨K128, (s4.1 : (List Int)), las4_0, lus4_0, rfl, (Stp.refl _ _).wk rfl, f162, rfl⟩ fun a ha => (ha.more (ha.more (ha.more (ha.more (ha.more (ha.more (ha.more (ha.more (ha.more (ha.more (ha.more ha.nil rfl) rfl) rfl) rfl) rfl) rfl) rfl) rfl) rfl) rfl) rfl)
        rintro _ w142 ⟨K143, z10, laq10_0, luq10_0, rfl, S144, f145, rfl⟩
        have h := hK141
        dsimp only [aft] at h
        refine DN.seq ?_
        refine WC.seq ?_
        refine WC.rs [(0, 2), (1, 2), (2, 1), (3, 1), (4, 2)] rfl ?_
        refine WO.pn 2 rfl ?_
        refine WO.bl (κ := K143) (E := (Ep.int .i64)) 17 [] (parts := [(0, .tmp 78)]) (cells := [.int .i64 s9]) (xs := ([s9] : List Int)) rfl rfl rfl rfl rfl rfl Try.underlying22 Tryinfo2 rfl rfl rfl rfl rfl rfl rfl rfl rfl rfl ⟨[.int .i64 s9], [], Zl K143 w142 [], Zl K143 w142 [], rfl, Zl.sp (l1 := []) (l2 := []) rfl, Zl.sr (l1 := []) (l2 := []), rfl, rfl⟩ fun a79 u79 w163 K164 S165 f166 => ⟨trivial, ?_⟩
        obtain ⟨x80, hx80, h⟩ := Option.bind_eq_some_iff.mp h
        have f167 := f96.stp (S106.tr (S110.tr (S121.tr (S129.tr (S144.tr S165))))) rfl rfl
        refine WO.app (κ := K164) (E := (Ep.int .i64)) 11 [] rfl rfl rfl rfl rfl rfl rfl rfl rfl Try.underlying22 Tryinfo2 rfl rfl rfl rfl f167 (Sl.srcP (pu_int _) f166.rdc) sy_false hx80 rfl fun a80 u80 w168 K169 S170 f171 => ⟨trivial, ?_⟩
        refine WO.pn 1 rfl ?_
        refine WO.fin ?_
        refine DN.seq ?_
        refine WC.rs [(0, 2), (1, 2), (2, 1), (3, 1), (4, 2)] rfl ?_
        refine WO.pn 2 rfl ?_
        refine WO.bl (κ := K169) (E := (Ep.int .i64)) 18 [] (parts := [(0, .tmp 82)]) (cells := [.int .i64 x49.2]) (xs := ([x49.2] : List Int)) rfl rfl rfl rfl rfl rfl Try.underlying22 Tryinfo2 rfl rfl rfl rfl rfl rfl rfl rfl rfl rfl ⟨[.int .i64 x49.2], [], Zl K169 w168 [], Zl K169 w168 [], rfl, Zl.sp (l1 := []) (l2 := []) rfl, Zl.sr (l1 := []) (l2 := []), rfl, rfl⟩ fun a83 u83 w172 K173 S174 f175 => ⟨trivial, ?_⟩
        obtain ⟨x84, hx84, h⟩ := Option.bind_eq_some_iff.mp h
        have f176 := f97.stp (S106.tr (S110.tr (S121.tr (S129.tr (S144.tr (S165.tr (S170.tr S174))))))) rfl rfl
        refine WO.app (κ := K173) (E := (Ep.int .i64)) 12 [] rfl rfl rfl rfl rfl rfl rfl rfl rfl Try.underlying22 Tryinfo2 rfl rfl rfl rfl f176 (Sl.srcP (pu_int _) f175.rdc) sy_false hx84 rfl fun a84 u84 w177 K178 S179 f180 => ⟨trivial, ?_⟩
        refine WO.pn 1 rfl ?_
        refine WO.fin ?_
        refine DN.block ?_
        refine DN.seq ?_
        refine WC.rs [(0, 2), (1, 2), (2, 2)] rfl ?_
        refine WO.pn 3 rfl ?_
        refine WO.fin ?_
        have f181 := f145.stp (S165.tr (S170.tr (S174.tr S179))) rfl rfl
        have f182 := f171.stp (S174.tr S179) rfl rfl
        obtain rfl := Option.some.inj h
        refine DN.round fun a ha => ?_
        exact ⟨k, _, Nat.lt_succ_self _, ⟨K178, ((z10 : (List Int)), (x80 : (List Int)), (x84 : (List Int)), ((IntKind.i64.wrap (s4.2.2.2 + 1)) : Int)), laq10_0, luq10_0, a80, u80, a84, u84, rfl, (S94.tr (S106.tr (S110.tr (S121.tr (S129.tr (S144.tr (S165.tr (S170.tr (S174.tr S179))))))))).wk rfl, f181, f182, f180, hk100⟩, (ha.more (ha.more (ha.more (ha.more (ha.more (ha.more (ha.more (ha.more (ha.more ha.nil rfl) rfl) rfl) rfl) rfl) rfl) rfl) rfl) rfl)⟩
       | false =>
        intro h; replace h := cF h
        refine WC.cf rfl ?_
        refine WC.exit ?_
        refine DN.exitThen ?_
        refine DN.exitThen ?_
        obtain rfl := Option.some.inj h
        have h := hk100
        refine DN.hit ?_
        have f183 := f95.stp S106 rfl rfl
        have f184 := f96.stp S106 rfl rfl
        have f185 := f97.stp S106 rfl rfl
        obtain rfl := Option.some.inj h
        exact DN.meet _ ⟨K105, ((s4.1 : (List Int)), (s4.2.1 : (List Int)), (s4.2.2.1 : (List Int)), (s4.2.2.2 : Int)), las4_0, lus4_0, las4_1, lus4_1, las4_2, lus4_2, rfl, (S94.tr S106).wk rfl, f183, f184, f185, rfl⟩ fun a ha => (ha.more (ha.more (ha.more (ha.more (ha.more (ha.more (ha.more (ha.more ha.nil rfl) rfl) rfl) rfl) rfl) rfl) rfl) rfl)
     rintro _ w86 ⟨K87, s6, las6_0, lus6_0, las6_1, lus6_1, las6_2, lus6_2, rfl, S88, f89, f90, f91, rfl⟩
     have h := hK84
     dsimp only [aft] at h
     refine DN.seq ?_
     refine WC.seq ?_
     refine WC.rs [(0, 2), (1, 1), (2, 2), (3, 1), (4, 1), (5, 2), (6, 1)] rfl ?_
     refine WO.k2 rfl rfl rfl rfl (rn_fieldAddr Try.runUnderlying50 rfl Try.sizeOf23 rfl rfl) ?_
     have f186 := f71.stp (S77.tr (S81.tr S88)) rfl rfl
     refine WO.k1 trivial rfl rfl rfl rfl (rn_ld Try.isAgg23 rfl rfl (hvE (f186.ld 0 rfl rfl))) ?_
     refine WO.pn 1 rfl ?_
     refine WO.bl (κ := K87) (E := (Ep.own (Ep.int .i64) 2)) 13 [11] (parts := [(0, .tmp 87)]) (cells := [.slice las6_1 s6.2.1.length lus6_1]) (xs := ([s6.2.1] : List (List Int))) rfl rfl rfl rfl rfl rfl Try.underlying23 Tryinfo22 rfl rfl rfl rfl rfl rfl rfl rfl rfl rfl ⟨[.slice las6_1 s6.2.1.length lus6_1], [], Zl K87 w86 [11], Zl K87 w86 [], rfl, Zl.sp (l1 := [11]) (l2 := []) rfl, Zl.sr (l1 := [11]) (l2 := []), ⟨_, _, rfl, f90⟩, rfl⟩ fun a88 u88 w187 K188 S189 f190 => ⟨trivial, ?_⟩
     obtain ⟨x89, hx89, h⟩ := Option.bind_eq_some_iff.mp h
     have f191 := f69.stp (S77.tr (S81.tr (S88.tr S189))) rfl rfl
     refine WO.app (κ := K188) (E := (Ep.own (Ep.int .i64) 2)) 9 [13] rfl rfl rfl rfl rfl rfl rfl rfl rfl Try.underlying23 Tryinfo22 rfl rfl rfl rfl f191 f190.src (sy_one rfl) hx89 rfl fun a89 u89 w192 K193 S194 f195 => ⟨trivial, ?_⟩
     refine WO.k2 rfl rfl rfl rfl (rn_fieldAddr Try.runUnderlying50 rfl Try.sizeOf23 rfl rfl) ?_
     have f196 := f186.stp (S189.tr S194) rfl rfl
     refine WO.stB (κ := K193) 7 (off := 0) (vc := [.slice a89 x89.length u89]) (cs' := [.slice a89 x89.length u89, .slice las1_2 s1.2.2.2.length lus1_2]) rfl rfl rfl rfl rfl rfl rfl Try.sizeOf23 rfl rfl f196 rfl rfl fun w197 S198 f199 => ⟨trivial, ?_⟩
     refine WO.fin ?_
     refine DN.seq ?_
     refine WC.rs [(0, 2), (1, 1), (2, 2), (3, 1), (4, 1), (5, 2), (6, 1)] rfl ?_
     refine WO.k2 rfl rfl rfl rfl (rn_fieldAddr Try.runUnderlying50 rfl Try.sizeOf23 rfl rfl) ?_
     refine WO.k1 trivial rfl rfl rfl rfl (rn_ld Try.isAgg23 rfl rfl (hvE (f199.ld 1 rfl rfl))) ?_
     refine WO.pn 1 rfl ?_
     have f200 := f91.stp (S189.tr (S194.tr S198)) rfl rfl
     refine WO.bl (κ := K193) (E := (Ep.own (Ep.int .i64) 2)) 14 [12] (parts := [(0, .tmp 93)]) (cells := [.slice las6_2 s6.2.2.1.length lus6_2]) (xs := ([s6.2.2.1] : List (List Int))) rfl rfl rfl rfl rfl rfl Try.underlying23 Tryinfo22 rfl rfl rfl rfl rfl rfl rfl rfl rfl rfl ⟨[.slice las6_2 s6.2.2.1.length lus6_2], [], Zl K193 w197 [12], Zl K193 w197 [], rfl, Zl.sp (l1 := [12]) (l2 := []) rfl, Zl.sr (l1 := [12]) (l2 := []), ⟨_, _, rfl, f200⟩, rfl⟩ fun a94 u94 w201 K202 S203 f204 => ⟨trivial, ?_⟩
     obtain ⟨x95, hx95, h⟩ := Option.bind_eq_some_iff.mp h
     have f205 := f70.stp (S77.tr (S81.tr (S88.tr (S189.tr (S194.tr (S198.tr S203)))))) rfl rfl
     refine WO.app (κ := K202) (E := (Ep.own (Ep.int .i64) 2)) 10 [14] rfl rfl rfl rfl rfl rfl rfl rfl rfl Try.underlying23 Tryinfo22 rfl rfl rfl rfl f205 f204.src (sy_one rfl) hx95 rfl fun a95 u95 w206 K207 S208 f209 => ⟨trivial, ?_⟩
     refine WO.k2 rfl rfl rfl rfl (rn_fieldAddr Try.runUnderlying50 rfl Try.sizeOf23 rfl rfl) ?_
     have f210 := f199.stp (S203.tr S208) rfl rfl
     refine WO.stB (κ := K207) 7 (off := 1) (vc := [.slice a95 x95.length u95]) (cs' := [.slice a89 x89.length u89, .slice a95 x95.length u95]) rfl rfl rfl rfl rfl rfl rfl Try.sizeOf23 rfl rfl f210 rfl rfl fun w211 S212 f213 => ⟨trivial, ?_⟩
     refine WO.fin ?_
     refine DN.block ?_
     refine DN.seq ?_
     refine WC.rs [(0, 2), (1, 2), (2, 2)] rfl ?_
     refine WO.pn 3 rfl ?_
     refine WO.fin ?_
     have f214 := f89.stp (S189.tr (S194.tr (S198.tr (S203.tr (S208.tr S212))))) rfl rfl
     have f215 := f195.stp (S198.tr (S203.tr (S208.tr S212))) rfl rfl
     have f216 := f209.stp S212 rfl rfl
     obtain rfl := Option.some.inj h
     refine DN.round fun a ha => ?_
     exact ⟨k, _, Nat.lt_succ_self _, ⟨K207, ((s6.1 : (List Int)), ((IntKind.i64.wrap (s1.2.1 + 1)) : Int), (x89 : (List (List Int))), (x95 : (List (List Int)))), las6_0, lus6_0, a89, u89, a95, u95, rfl, (S67.tr (S77.tr (S81.tr (S88.tr (S189.tr (S194.tr (S198.tr (S203.tr (S208.tr S212))))))))).wk rfl, f214, f215, f216, f213, hk73⟩, (ha.more (ha.more (ha.more (ha.more (ha.more (ha.more ha.nil rfl) rfl) rfl) rfl) rfl) rfl)⟩
    | false =>
     intro h; replace h := cF h
     refine WC.cf rfl ?_
     refine WC.exit ?_
     refine DN.exitThen ?_
     refine DN.exitThen ?_
     obtain rfl := Option.some.inj h
     have h := hk73
     refine DN.hit ?_
     obtain rfl := Option.some.inj h
     exact DN.meet _ ⟨K66, ((s1.1 : (List Int)), (s1.2.1 : Int), (s1.2.2.1 : (List (List Int))), (s1.2.2.2 : (List (List Int)))), las1_0, lus1_0, las1_1, lus1_1, las1_2, lus1_2, rfl, S67.wk rfl, f68, f69, f70, f71, rfl⟩ fun a ha => (ha.more (ha.more ha.nil rfl) rfl)
  rintro _ w58 ⟨K59, s3, las3_0, lus3_0, las3_1, lus3_1, las3_2, lus3_2, rfl, S60, f61, f62, f63, f64, rfl⟩
  have h := hK56
  dsimp only [aft] at h
  refine DN.seq ?_
  refine WC.seq ?_
  refine WC.rs [(0, 1), (1, 1), (2, 2)] rfl ?_
  refine WO.k1 trivial rfl rfl rfl rfl (rn_la (cs := [.slice las3_1 s3.2.2.1.length lus3_1, .slice las3_2 s3.2.2.2.length lus3_2]) Try.isAgg50 Try.sizeOf50 rfl rfl rfl (haE f64.cells)) ?_
  have f217 := f12.stp (S18.tr (S37.tr (S46.tr (S49.tr (S53.tr S60))))) rfl rfl
  refine WO.stB0 (κ := K59) 4 (vc := [.slice las3_1 s3.2.2.1.length lus3_1, .slice las3_2 s3.2.2.2.length lus3_2]) rfl rfl rfl rfl rfl rfl rfl Try.sizeOf50 rfl rfl f217 rfl fun w218 S219 f220 => ⟨trivial, ?_⟩
  refine WO.pn 1 rfl ?_
  refine WO.fin ?_
  refine DN.seq ?_
  refine WC.ret ?_
  have f221 := hE.stp (S3.tr (S7.tr (S11.tr (S18.tr (S37.tr (S46.tr (S49.tr (S53.tr (S60.tr S219))))))))) rfl rfl
  have f222 := f62.stp S219 rfl rfl
  have f223 := f63.stp S219 rfl rfl
  refine DN.res (l := [.cell 4 50, .tmp 5]) Try.results24 (res_cellA rfl f220 Try.isAgg50 Try.sizeOf50 rfl (res_tmp rfl rfl)) rfl ?_
  obtain rfl := Option.some.inj h
  exact ⟨(fun b => ren [(9, 2), (10, 3)] (K59 b)), las3_1, lus3_1, las3_2, lus3_2, rfl, (f221.map (ren [(9, 2), (10, 3)]) rfl rfl), (f222.map (ren [(9, 2), (10, 3)]) rfl rfl), (f223.map (ren [(9, 2), (10, 3)]) rfl rfl)⟩

/- loop.example/g00869/impl.isCircuit -/
theorem i_isCircuit_ok {w : World} {κ : Col} {a0_2 : Option Addr} {u0_2 : Nat} {a0_3 : Option Addr} {u0_3 : Nat} {a0_4 : Option Addr} {u0_4 : Nat} {p0 : Circuit} (g0_2 : Rd (Rp.int .i64) κ w 0 a0_2 u0_2 p0.Next) (g0_3 : Rd Gate.rp κ w 0 a0_3 u0_3 p0.Gates) (g0_4 : Rd (Rp.int .i64) κ w 0 a0_4 u0_4 p0.Outs) {r : Bool} (h : i_isCircuit p0 = some r) : Ret Try.prog 105 [.agg #[.int .i64 p0.Inputs, .int .i64 p0.Latches, .slice a0_2 p0.Next.length u0_2, .slice a0_3 p0.Gates.length u0_3, .slice a0_4 p0.Outs.length u0_4]] w (fun v w' => ∃ (κ' : Col), v = .bool r ∧ Ent κ w κ' w') := by
 unfold i_isCircuit at h
 refine Ret.enter Try.func105 rfl Try.ntmps105 rfl ?_
 dsimp only [envOf]
 have hE := Ent.refl κ w
 refine WC.seq ?_
 refine WC.rs [(0, 1), (1, 2)] rfl ?_
 refine WO.box (κ := κ) 2 rfl rfl rfl rfl rfl rfl rfl fun b1 w1 K2 S3 f4 => ⟨trivial, ?_⟩
 refine WO.pn 1 rfl ?_
 refine WO.fin ?_
 refine DN.seq ?_
 refine WC.seq ?_
 refine WC.seq ?_
 refine WC.rs [(0, 2), (1, 1), (2, 2), (3, 2), (4, 2), (5, 1), (6, 2), (7, 2), (8, 2), (9, 2), (10, 1), (11, 2), (12, 2), (13, 2), (14, 2), (15, 1), (16, 2), (17, 2), (18, 2), (19, 2), (20, 1), (21, 2), (22, 2), (23, 1), (24, 2), (25, 2), (26, 2), (27, 2), (28, 1), (29, 2), (30, 2), (31, 2), (32, 2), (33, 2), (34, 1), (35, 2), (36, 2), (37, 2)] rfl ?_
 refine WO.k2 rfl rfl rfl rfl (rn_fieldAddr Try.runUnderlying57 rfl Try.sizeOf2 rfl rfl) ?_
 refine WO.k1 trivial rfl rfl rfl rfl (rn_ld Try.isAgg2 rfl rfl (hvE (f4.ld 0 rfl rfl))) ?_
 refine WO.pn 2 rfl ?_
 obtain ⟨p13, h, hK5⟩ := Option.bind_eq_some_iff.mp h
 refine WO.meet [(4, 2), (5, 1), (6, 2), (7, 2)] [(8, 2), (9, 2), (10, 1), (11, 2), (12, 2), (13, 2), (14, 2), (15, 1), (16, 2), (17, 2), (18, 2), (19, 2), (20, 1), (21, 2), (22, 2), (23, 1), (24, 2), (25, 2), (26, 2), (27, 2), (28, 1), (29, 2), (30, 2), (31, 2), (32, 2), (33, 2), (34, 1), (35, 2), (36, 2), (37, 2)] (fun L w' => L = [(1, .pointer (some ⟨b1, 0, none⟩)), (13, .bool p13)] ∧ ∃ κ', Stp [] K2 w1 κ' w') trivial ?_ ?_
 ·
  revert h
  cases ht6 : decide (p0.Inputs < 0) with
  | true =>
   intro h; replace h := cT h
   refine WO.pn 1 rfl ?_
   refine WO.ls rfl rfl rfl rfl ?_
   refine WO.pn 2 rfl ?_
   obtain rfl := Option.some.inj h
   exact WO.met _ trivial ⟨rfl, _, (Stp.refl _ _).wk rfl⟩ fun a ha => (ha.more (ha.more ha.nil rfl) rfl)
  | false =>
   intro h; replace h := cF h
   refine WO.k2 rfl rfl rfl rfl (rn_fieldAddr Try.runUnderlying57 rfl Try.sizeOf2 rfl rfl) ?_
   refine WO.k1 trivial rfl rfl rfl rfl (rn_ld Try.isAgg2 rfl rfl (hvE (f4.ld 0 rfl rfl))) ?_
   refine WO.pn 2 rfl ?_
   obtain rfl := Option.some.inj h
   exact WO.met _ trivial ⟨rfl, _, (Stp.refl _ _).wk rfl⟩ fun a ha => (ha.more (ha.more ha.nil rfl) rfl)
 rintro _ w7 _ ⟨rfl, K8, S9⟩
 have h := hK5
 refine WO.pn 1 rfl ?_
 obtain ⟨p18, h, hK10⟩ := Option.bind_eq_some_iff.mp h
 refine WO.meet [(9, 2), (10, 1), (11, 2), (12, 2)] [(13, 2), (14, 2), (15, 1), (16, 2), (17, 2), (18, 2), (19, 2), (20, 1), (21, 2), (22, 2), (23, 1), (24, 2), (25, 2), (26, 2), (27, 2), (28, 1), (29, 2), (30, 2), (31, 2), (32, 2), (33, 2), (34, 1), (35, 2), (36, 2), (37, 2)] (fun L w' => L = [(1, .pointer (some ⟨b1, 0, none⟩)), (18, .bool p18)] ∧ ∃ κ', Stp [] K8 w7 κ' w') trivial ?_ ?_
 ·
  revert h
  cases ht11 : p13 with
  | true =>
   intro h; replace h := cT h
   refine WO.pn 1 rfl ?_
   refine WO.ls rfl rfl rfl rfl ?_
   refine WO.pn 2 rfl ?_
   obtain rfl := Option.some.inj h
   exact WO.met _ trivial ⟨rfl, _, (Stp.refl _ _).wk rfl⟩ fun a ha => (ha.more (ha.more ha.nil rfl) rfl)
  | false =>
   intro h; replace h := cF h
   refine WO.k2 rfl rfl rfl rfl (rn_fieldAddr Try.runUnderlying57 rfl Try.sizeOf2 rfl rfl) ?_
   have f12 := f4.stp S9 rfl rfl
   refine WO.k1 trivial rfl rfl rfl rfl (rn_ld Try.isAgg2 rfl rfl (hvE (f12.ld 1 rfl rfl))) ?_
   refine WO.pn 2 rfl ?_
   obtain rfl := Option.some.inj h
   exact WO.met _ trivial ⟨rfl, _, (Stp.refl _ _).wk rfl⟩ fun a ha => (ha.more (ha.more ha.nil rfl) rfl)
 rintro _ w13 _ ⟨rfl, K14, S15⟩
 have h := hK10
 refine WO.pn 1 rfl ?_
 obtain ⟨p23, h, hK16⟩ := Option.bind_eq_some_iff.mp h
 refine WO.meet [(14, 2), (15, 1), (16, 2), (17, 2)] [(18, 2), (19, 2), (20, 1), (21, 2), (22, 2), (23, 1), (24, 2), (25, 2), (26, 2), (27, 2), (28, 1), (29, 2), (30, 2), (31, 2), (32, 2), (33, 2), (34, 1), (35, 2), (36, 2), (37, 2)] (fun L w' => L = [(1, .pointer (some ⟨b1, 0, none⟩)), (23, .bool p23)] ∧ ∃ κ', Stp [] K14 w13 κ' w') trivial ?_ ?_
 ·
  revert h
  cases ht17 : p18 with
  | true =>
   intro h; replace h := cT h
   refine WO.pn 1 rfl ?_
   refine WO.ls rfl rfl rfl rfl ?_
   refine WO.pn 2 rfl ?_
   obtain rfl := Option.some.inj h
   exact WO.met _ trivial ⟨rfl, _, (Stp.refl _ _).wk rfl⟩ fun a ha => (ha.more (ha.more ha.nil rfl) rfl)
  | false =>
   intro h; replace h := cF h
   refine WO.k2 rfl rfl rfl rfl (rn_fieldAddr Try.runUnderlying57 rfl Try.sizeOf2 rfl rfl) ?_
   have f18 := f4.stp (S9.tr S15) rfl rfl
   refine WO.k1 trivial rfl rfl rfl rfl (rn_ld Try.isAgg2 rfl rfl (hvE (f18.ld 1 rfl rfl))) ?_
   refine WO.pn 2 rfl ?_
   obtain rfl := Option.some.inj h
   exact WO.met _ trivial ⟨rfl, _, (Stp.refl _ _).wk rfl⟩ fun a ha => (ha.more (ha.more ha.nil rfl) rfl)
 rintro _ w19 _ ⟨rfl, K20, S21⟩
 have h := hK16
 refine WO.pn 1 rfl ?_
 obtain ⟨p31, h, hK22⟩ := Option.bind_eq_some_iff.mp h
 refine WO.meet [(19, 2), (20, 1), (21, 2), (22, 2), (23, 1), (24, 2), (25, 2)] [(26, 2), (27, 2), (28, 1), (29, 2), (30, 2), (31, 2), (32, 2), (33, 2), (34, 1), (35, 2), (36, 2), (37, 2)] (fun L w' => L = [(1, .pointer (some ⟨b1, 0, none⟩)), (31, .bool p31)] ∧ ∃ κ', Stp [] K20 w19 κ' w') trivial ?_ ?_
 ·
  revert h
  cases ht23 : p23 with
  | true =>
   intro h; replace h := cT h
   refine WO.pn 1 rfl ?_
   refine WO.ls rfl rfl rfl rfl ?_
   refine WO.pn 2 rfl ?_
   refine WO.ls rfl rfl rfl rfl ?_
   refine WO.pn 2 rfl ?_
   obtain rfl := Option.some.inj h
   exact WO.met _ trivial ⟨rfl, _, (Stp.refl _ _).wk rfl⟩ fun a ha => (ha.more (ha.more ha.nil rfl) rfl)
  | false =>
   intro h; replace h := cF h
   refine WO.k2 rfl rfl rfl rfl (rn_fieldAddr Try.runUnderlying57 rfl Try.sizeOf22 rfl rfl) ?_
   have f24 := f4.stp (S9.tr (S15.tr S21)) rfl rfl
   refine WO.k1 trivial rfl rfl rfl rfl (rn_ld Try.isAgg22 rfl rfl (hvE (f24.ld 2 rfl rfl))) ?_
   refine WO.k2 rfl rfl rfl rfl (rn_len Try.runUnderlying22 rfl rfl) ?_
   refine WO.k2 rfl rfl rfl rfl (rn_fieldAddr Try.runUnderlying57 rfl Try.sizeOf2 rfl rfl) ?_
   refine WO.k1 trivial rfl rfl rfl rfl (rn_ld Try.isAgg2 rfl rfl (hvE (f24.ld 1 rfl rfl))) ?_
   refine WO.pn 2 rfl ?_
   obtain rfl := Option.some.inj h
   exact WO.met _ trivial ⟨rfl, _, (Stp.refl _ _).wk rfl⟩ fun a ha => (ha.more (ha.more ha.nil rfl) rfl)
 rintro _ w25 _ ⟨rfl, K26, S27⟩
 have h := hK22
 refine WO.pn 1 rfl ?_
 obtain ⟨p37, h, hK28⟩ := Option.bind_eq_some_iff.mp h
 refine WO.meet [(27, 2), (28, 1), (29, 2), (30, 2), (31, 2)] [(32, 2), (33, 2), (34, 1), (35, 2), (36, 2), (37, 2)] (fun L w' => L = [(1, .pointer (some ⟨b1, 0, none⟩)), (37, .bool p37)] ∧ ∃ κ', Stp [] K26 w25 κ' w') trivial ?_ ?_
 ·
  revert h
  cases ht29 : p31 with
  | true =>
   intro h; replace h := cT h
   refine WO.pn 1 rfl ?_
   refine WO.ls rfl rfl rfl rfl ?_
   refine WO.pn 3 rfl ?_
   obtain rfl := Option.some.inj h
   exact WO.met _ trivial ⟨rfl, _, (Stp.refl _ _).wk rfl⟩ fun a ha => (ha.more (ha.more ha.nil rfl) rfl)
  | false =>
   intro h; replace h := cF h
   refine WO.k2 rfl rfl rfl rfl (rn_fieldAddr Try.runUnderlying57 rfl Try.sizeOf55 rfl rfl) ?_
   have f30 := f4.stp (S9.tr (S15.tr (S21.tr S27))) rfl rfl
   refine WO.k1 trivial rfl rfl rfl rfl (rn_ld Try.isAgg55 rfl rfl (hvE (f30.ld 3 rfl rfl))) ?_
   refine WO.k2 rfl rfl rfl rfl (rn_len Try.runUnderlying55 rfl rfl) ?_
   refine WO.pn 2 rfl ?_
   obtain rfl := Option.some.inj h
   exact WO.met _ trivial ⟨rfl, _, (Stp.refl _ _).wk rfl⟩ fun a ha => (ha.more (ha.more ha.nil rfl) rfl)
 rintro _ w31 _ ⟨rfl, K32, S33⟩
 have h := hK28
 refine WO.pn 1 rfl ?_
 obtain ⟨p43, h, hK34⟩ := Option.bind_eq_some_iff.mp h
 refine WO.meet [(33, 2), (34, 1), (35, 2), (36, 2), (37, 2)] [] (fun L w' => L = [(1, .pointer (some ⟨b1, 0, none⟩)), (43, .bool p43)] ∧ ∃ κ', Stp [] K32 w31 κ' w') trivial ?_ ?_
 ·
  revert h
  cases ht35 : p37 with
  | true =>
   intro h; replace h := cT h
   refine WO.pn 1 rfl ?_
   refine WO.ls rfl rfl rfl rfl ?_
   refine WO.pn 3 rfl ?_
   obtain rfl := Option.some.inj h
   exact WO.met _ trivial ⟨rfl, _, (Stp.refl _ _).wk rfl⟩ fun a ha => (ha.more (ha.more ha.nil rfl) rfl)
  | false =>
   intro h; replace h := cF h
   refine WO.k2 rfl rfl rfl rfl (rn_fieldAddr Try.runUnderlying57 rfl Try.sizeOf22 rfl rfl) ?_
   have f36 := f4.stp (S9.tr (S15.tr (S21.tr (S27.tr S33)))) rfl rfl
   refine WO.k1 trivial rfl rfl rfl rfl (rn_ld Try.isAgg22 rfl rfl (hvE (f36.ld 4 rfl rfl))) ?_
   refine WO.k2 rfl rfl rfl rfl (rn_len Try.runUnderlying22 rfl rfl) ?_
   refine WO.pn 2 rfl ?_
   obtain rfl := Option.some.inj h
   exact WO.met _ trivial ⟨rfl, _, (Stp.refl _ _).wk rfl⟩ fun a ha => (ha.more (ha.more ha.nil rfl) rfl)
 rintro _ w37 _ ⟨rfl, K38, S39⟩
 have h := hK34
 refine WO.fin ?_
 refine DN.seq ?_
 revert h
 cases ht40 : p43 with
 | true =>
  intro h; replace h := cT h
  refine WC.ct rfl ?_
  refine WC.seq ?_
  refine WC.rs [(0, 2)] rfl ?_
  refine WO.pn 1 rfl ?_
  refine WO.fin ?_
  refine DN.seq ?_
  refine WC.ret ?_
  refine DN.retThen ?_
  have f41 := hE.stp (S3.tr (S9.tr (S15.tr (S21.tr (S27.tr (S33.tr S39)))))) rfl rfl
  refine DN.res (l := [.tmp 2]) Try.results105 (res_tmp rfl rfl) rfl ?_
  obtain rfl := Option.some.inj h
  exact ⟨K38, rfl, f41⟩
 | false =>
  intro h; replace h := cF h
  refine WC.cf rfl ?_
  refine WC.skip ?_
  refine DN.seq ?_
  refine WC.seq ?_
  refine WC.rs [(0, 2), (1, 1), (2, 2), (3, 2), (4, 1), (5, 2), (6, 2)] rfl ?_
  refine WO.k2 rfl rfl rfl rfl (rn_fieldAddr Try.runUnderlying57 rfl Try.sizeOf2 rfl rfl) ?_
  have f42 := f4.stp (S9.tr (S15.tr (S21.tr (S27.tr (S33.tr S39))))) rfl rfl
  refine WO.k1 trivial rfl rfl rfl rfl (rn_ld Try.isAgg2 rfl rfl (hvE (f42.ld 0 rfl rfl))) ?_
  refine WO.pn 1 rfl ?_
  refine WO.k2 rfl rfl rfl rfl (rn_fieldAddr Try.runUnderlying57 rfl Try.sizeOf2 rfl rfl) ?_
  refine WO.k1 trivial rfl rfl rfl rfl (rn_ld Try.isAgg2 rfl rfl (hvE (f42.ld 1 rfl rfl))) ?_
  refine WO.pn 2 rfl ?_
  refine WO.fin ?_
  refine DN.seq ?_
  refine WC.seq ?_
  refine WC.seq ?_
  refine WC.rs [(0, 2), (1, 1), (2, 2), (3, 2)] rfl ?_
  refine WO.k2 rfl rfl rfl rfl (rn_fieldAddr Try.runUnderlying57 rfl Try.sizeOf55 rfl rfl) ?_
  refine WO.k1 trivial rfl rfl rfl rfl (rn_ld Try.isAgg55 rfl rfl (hvE (f42.ld 3 rfl rfl))) ?_
  refine WO.k2 rfl rfl rfl rfl (rn_len Try.runUnderlying55 rfl rfl) ?_
  refine WO.pn 1 rfl ?_
  refine WO.fin ?_
  refine DN.seq ?_
  have hN43 : (p0.Gates.length : Int) ≤ 9223372036854775807 := g0_3.len_le
  obtain ⟨q2, hq45, hK44⟩ := Option.bind_eq_some_iff.mp h
  clear h
  refine WC.meet (fun L w' => ∃ (κ' : Col), L = [(1, .pointer (some ⟨b1, 0, none⟩))] ∧ Stp [3] K38 w37 κ' w' ∧ q2 = Sum.inr ()) ?_ ?_
  ·
   refine WC.block ?_
   refine WC.loop (fun k L w' => ∃ (κ' : Col) (v53 : Int), L = [(1, .pointer (some ⟨b1, 0, none⟩)), (3, .int .i64 (IntKind.i64.wrap ((IntKind.i64.wrap (1 + p0.Inputs)) + p0.Latches))), (51, .slice a0_3 p0.Gates.length u0_3), (52, .int .i64 (p0.Gates.length : Int)), (53, .int .i64 v53)] ∧ Stp [3] K38 w37 κ' w' ∧ 0 ≤ v53 ∧ Int.toNat ((p0.Gates.length : Int) - v53) = k ∧ cntM (i_isCircuit_b0 p0) k v53 () = some q2) ⟨_, _, ⟨K38, 0, rfl, (Stp.refl _ _).wk rfl, (by decide), (by simp), hq45⟩, fun a ha => (ha.more (ha.more (ha.more (ha.more (ha.more ha.nil rfl) rfl) rfl) rfl) rfl)⟩ ?_
   rintro k _ w49 ⟨K50, v53, rfl, S51, hj43, hJ43, h⟩
   rcases k with _ | k
   ·
    have hk52 := h; obtain ⟨o43, h⟩ := ex_eq (Sum.inr (Sum.inl ()) : Bool ⊕ ((Unit) ⊕ (Unit)))
    have hc43 : decide (v53 < (p0.Gates.length : Int)) = false := decide_eq_false (by omega)
    refine WC.seq ?_
    refine WC.rs [(0, 2)] rfl ?_
    refine WO.pn 1 rfl ?_
    refine WO.fin ?_
    refine DN.seq ?_
    refine WC.seq ?_
    refine WC.cf' rfl hc43 ?_
    refine WC.exit ?_
    refine DN.exitThen ?_
    refine DN.exitThen ?_
    obtain rfl := Option.some.inj h
    have h := hk52
    refine DN.hit ?_
    obtain rfl := Option.some.inj h
    exact DN.meet _ ⟨K50, rfl, S51.wk rfl, rfl⟩ fun a ha => (ha.more ha.nil rfl)
   ·
    obtain ⟨o43, h, hk52⟩ := Option.bind_eq_some_iff.mp h; unfold i_isCircuit_b0 at h
    have hc43 : decide (v53 < (p0.Gates.length : Int)) = true := decide_eq_true (by omega)
    refine WC.seq ?_
    refine WC.rs [(0, 2)] rfl ?_
    refine WO.pn 1 rfl ?_
    refine WO.fin ?_
    refine DN.seq ?_
    refine WC.seq ?_
    refine WC.ct' rfl hc43 ?_
    refine WC.skip ?_
    refine DN.seq ?_
    refine WC.seq ?_
    refine WC.block ?_
    refine WC.seq ?_
    refine WC.rs [(0, 2), (1, 2), (2, 1), (3, 1), (4, 2), (5, 1)] rfl ?_
    refine WO.pn 1 rfl ?_
    obtain ⟨x56, hx56, h⟩ := Option.bind_eq_some_iff.mp h
    refine WO.k2 rfl rfl rfl rfl (rn_index g0_3 hx56 Try.runUnderlying55 Try.sizeOf159 rfl rfl rfl rfl) ?_
    have f53 := g0_3.stp (S3.tr (S9.tr (S15.tr (S21.tr (S27.tr (S33.tr (S39.tr S51))))))) rfl rfl
    obtain ⟨cse54, hre54, hle54⟩ := (f53).gSt hx56
    obtain rfl := Gate.un hre54
    refine WO.k1 trivial rfl rfl rfl rfl (rn_la (cs := [.int .i64 x56.A, .int .i64 x56.B]) Try.isAgg159 Try.sizeOf159 rfl rfl rfl (haE hle54)) ?_
    refine WO.alloc (κ := K50) 3 rfl rfl rfl rfl rfl Try.zeroValue159 rfl fun b5 w55 K56 S57 f58 => ⟨trivial, ?_⟩
    refine WO.pn 1 rfl ?_
    refine WO.stB0 (κ := K56) 3 (vc := [.int .i64 x56.A, .int .i64 x56.B]) rfl rfl rfl rfl rfl rfl rfl Try.sizeOf159 rfl rfl f58 rfl fun w59 S60 f61 => ⟨trivial, ?_⟩
    refine WO.fin ?_
    refine DN.seq ?_
    refine WC.seq ?_
    refine WC.rs [(0, 2), (1, 1), (2, 2), (3, 1), (4, 1), (5, 2), (6, 2), (7, 2), (8, 2), (9, 1), (10, 2)] rfl ?_
    refine WO.k2 rfl rfl rfl rfl (rn_fieldAddr Try.runUnderlying159 rfl Try.sizeOf2 rfl rfl) ?_
    refine WO.k1 trivial rfl rfl rfl rfl (rn_ld Try.isAgg2 rfl rfl (hvE (f61.ld 0 rfl rfl))) ?_
    refine WO.k2 rfl rfl rfl rfl (rn_fieldAddr Try.runUnderlying159 rfl Try.sizeOf2 rfl rfl) ?_
    refine WO.k1 trivial rfl rfl rfl rfl (rn_ld Try.isAgg2 rfl rfl (hvE (f61.ld 1 rfl rfl))) ?_
    refine WO.bl (κ := K56) (E := (Ep.int .i64)) 4 [] (parts := [(0, .tmp 59), (1, .tmp 61)]) (cells := [.int .i64 x56.A, .int .i64 x56.B]) (xs := ([x56.A, x56.B] : List Int)) rfl rfl rfl rfl rfl rfl Try.underlying22 Tryinfo2 rfl rfl rfl rfl rfl rfl rfl rfl rfl rfl ⟨[.int .i64 x56.A], [.int .i64 x56.B], Zl K56 w59 [], Zl K56 w59 [], rfl, Zl.sp (l1 := []) (l2 := []) rfl, Zl.sr (l1 := []) (l2 := []), rfl, ⟨[.int .i64 x56.B], [], Zl K56 w59 [], Zl K56 w59 [], rfl, Zl.sp (l1 := []) (l2 := []) rfl, Zl.sr (l1 := []) (l2 := []), rfl, rfl⟩⟩ fun a62 u62 w62 K63 S64 f65 => ⟨trivial, ?_⟩
    refine WO.pn 4 rfl ?_
    obtain ⟨x67, hx67, h⟩ := Option.bind_eq_some_iff.mp h
    refine WO.call rfl rfl rfl rfl rfl rfl Try.call170 (i_areLetters_ok (κ := fun b => mp [] 0 (K63 b)) (Sl.map f65.rdc (mp [] 0) rfl rfl) hx67) ?_
    rintro _ w66 ⟨k67, rfl, e68⟩
    obtain ⟨K69, S70, m71⟩ := Ent.mixed (l := []) (κ := K63) e68 5 rfl
    refine ⟨trivial, ?_⟩
    refine WO.pn 1 rfl ?_
    refine WO.fin ?_
    refine DN.seq ?_
    revert h
    cases ht73 : (!x67) with
    | true =>
     intro h; replace h := cT h
     refine WC.ct rfl ?_
     refine WC.seq ?_
     refine WC.rs [(0, 2)] rfl ?_
     refine WO.pn 1 rfl ?_
     refine WO.fin ?_
     refine DN.seq ?_
     refine WC.ret ?_
     refine DN.retBlock ?_
     refine DN.retThen ?_
     refine DN.retThen ?_
     obtain rfl := Option.some.inj h
     obtain rfl := Option.some.inj hk52
     have h := hK44
     dsimp only [aft] at h
     refine DN.retBlock ?_
     refine DN.retMeet ?_
     refine DN.retThen ?_
     have f74 := hE.stp (S3.tr (S9.tr (S15.tr (S21.tr (S27.tr (S33.tr (S39.tr (S51.tr (S57.tr (S60.tr (S64.tr S70))))))))))) rfl rfl
     refine DN.res (l := [.tmp 2]) Try.results105 (res_tmp rfl rfl) rfl ?_
     obtain rfl := Option.some.inj h
     exact ⟨K69, rfl, f74⟩
    | false =>
     intro h; replace h := cF h
     refine WC.cf rfl ?_
     refine WC.skip ?_
     refine DN.block ?_
     refine DN.seq ?_
     refine WC.rs [(0, 2), (1, 2)] rfl ?_
     refine WO.pn 2 rfl ?_
     refine WO.fin ?_
     have hw43 : IntKind.wrap .i64 (v53 + 1) = v53 + 1 := wr1 hj43 (of_decide_eq_true hc43) hN43
     rw [hw43]
     have hc43 := of_decide_eq_true hc43
     obtain rfl := Option.some.inj h
     refine DN.round fun a ha => ?_
     exact ⟨k, _, Nat.lt_succ_self _, ⟨K69, v53 + 1, rfl, (S51.tr (S57.tr (S60.tr (S64.tr S70)))).wk rfl, by omega, by omega, hk52⟩, (ha.more (ha.more (ha.more (ha.more (ha.more ha.nil rfl) rfl) rfl) rfl) rfl)⟩
  rintro _ w46 ⟨K47, rfl, S48, rfl⟩
  have h := hK44
  dsimp only [aft] at h
  refine DN.seq ?_
  refine WC.seq ?_
  refine WC.rx (κ := K47) [2] none [(0, 2), (1, 0), (2, 0), (3, 1), (4, 2), (5, 1), (6, 2), (7, 2), (8, 0), (9, 0), (10, 1), (11, 2), (12, 1), (13, 2), (14, 2)] [] (by kernel_rfl) (by kernel_rfl) fun w76 S75 => ?_
  refine WO.k2 rfl rfl rfl rfl (rn_fieldAddr Try.runUnderlying57 rfl Try.sizeOf22 rfl rfl) ?_
  have f77 := f42.stp (S48.tr S75) rfl rfl
  refine WO.k0 rfl rfl rfl rfl (rn_ld Try.isAgg22 rfl rfl (hvC (f77.ld 2 rfl rfl) rfl)) ?_
  refine WO.k0 rfl rfl rfl rfl (rn_la (cs := [.int .i64 p0.Inputs, .int .i64 p0.Latches, .slice a0_2 p0.Next.length u0_2, .slice a0_3 p0.Gates.length u0_3, .slice a0_4 p0.Outs.length u0_4]) Try.isAgg57 Try.sizeOf57 rfl rfl rfl (haC f77.cells rfl)) ?_
  obtain ⟨x73, hx73, h⟩ := Option.bind_eq_some_iff.mp h
  have f78 := g0_2.stp (S3.tr (S9.tr (S15.tr (S21.tr (S27.tr (S33.tr (S39.tr (S48.tr S75)))))))) rfl rfl
  have f79 := g0_3.stp (S3.tr (S9.tr (S15.tr (S21.tr (S27.tr (S33.tr (S39.tr (S48.tr S75)))))))) rfl rfl
  have f80 := g0_4.stp (S3.tr (S9.tr (S15.tr (S21.tr (S27.tr (S33.tr (S39.tr (S48.tr S75)))))))) rfl rfl
  refine WO.call rfl rfl rfl rfl rfl rfl Try.call171 (i_signalsOf_ok (κ := fun b => mp [] 0 (K47 b)) (p0 := p0) (Sl.map f78 (mp [] 0) rfl rfl) (Sl.map f79 (mp [] 0) rfl rfl) (Sl.map f80 (mp [] 0) rfl rfl) hx73) ?_
  rintro _ w81 ⟨k82, rfl, e83⟩
  obtain ⟨K84, S85, m86⟩ := Ent.mixed (l := []) (κ := K47) e83 3 rfl
  refine ⟨(S85.cl rfl), ?_⟩
  refine WO.pn 1 rfl ?_
  obtain ⟨x75, hx75, h⟩ := Option.bind_eq_some_iff.mp h
  have f88 := f78.stp S85 rfl rfl
  refine WO.call rfl rfl rfl rfl rfl rfl Try.call170 (i_areLetters_ok (κ := fun b => mp [] 0 (K84 b)) (Sl.map f88 (mp [] 0) rfl rfl) hx75) ?_
  rintro _ w89 ⟨k90, rfl, e91⟩
  obtain ⟨K92, S93, m94⟩ := Ent.mixed (l := []) (κ := K84) e91 5 rfl
  refine ⟨((S85.tr S93).cl rfl), ?_⟩
  refine WO.pn 1 rfl ?_
  obtain ⟨p83, h, hK96⟩ := Option.bind_eq_some_iff.mp h
  refine WO.meet [(7, 2), (8, 0), (9, 0), (10, 1), (11, 2), (12, 1), (13, 2)] [(14, 2)] (fun L w' => L = [(83, .bool p83)] ∧ ∃ κ', Stp [] K92 w89 κ' w') ((S85.tr S93).cl rfl) ?_ ?_
  ·
   revert h
   cases ht97 : x75 with
   | true =>
    intro h; replace h := cT h
    refine WO.k2 rfl rfl rfl rfl (rn_fieldAddr Try.runUnderlying57 rfl Try.sizeOf22 rfl rfl) ?_
    refine WO.k0 rfl rfl rfl rfl (rn_ld Try.isAgg22 rfl rfl (hvC (f77.ld 4 rfl rfl) rfl)) ?_
    refine WO.k0 rfl rfl rfl rfl (rn_la (cs := [.int .i64 p0.Inputs, .int .i64 p0.Latches, .slice a0_2 p0.Next.length u0_2, .slice a0_3 p0.Gates.length u0_3, .slice a0_4 p0.Outs.length u0_4]) Try.isAgg57 Try.sizeOf57 rfl rfl rfl (haC f77.cells rfl)) ?_
    obtain ⟨x80, hx80, h⟩ := Option.bind_eq_some_iff.mp h
    have f98 := f88.stp S93 rfl rfl
    have f99 := f79.stp (S85.tr S93) rfl rfl
    have f100 := f80.stp (S85.tr S93) rfl rfl
    refine WO.call rfl rfl rfl rfl rfl rfl Try.call171 (i_signalsOf_ok (κ := fun b => mp [] 0 (K92 b)) (p0 := p0) (Sl.map f98 (mp [] 0) rfl rfl) (Sl.map f99 (mp [] 0) rfl rfl) (Sl.map f100 (mp [] 0) rfl rfl) hx80) ?_
    rintro _ w101 ⟨k102, rfl, e103⟩
    obtain ⟨K104, S105, m106⟩ := Ent.mixed (l := []) (κ := K92) e103 7 rfl
    refine ⟨((S85.tr (S93.tr S105)).cl rfl), ?_⟩
    refine WO.pn 1 rfl ?_
    obtain ⟨x82, hx82, h⟩ := Option.bind_eq_some_iff.mp h
    have f108 := f100.stp S105 rfl rfl
    refine WO.call rfl rfl rfl rfl rfl rfl Try.call170 (i_areLetters_ok (κ := fun b => mp [] 0 (K104 b)) (Sl.map f108 (mp [] 0) rfl rfl) hx82) ?_
    rintro _ w109 ⟨k110, rfl, e111⟩
    obtain ⟨K112, S113, m114⟩ := Ent.mixed (l := []) (κ := K104) e111 9 rfl
    refine ⟨((S85.tr (S93.tr (S105.tr S113))).cl rfl), ?_⟩
    refine WO.pn 1 rfl ?_
    obtain rfl := Option.some.inj h
    exact WO.met _ ((S85.tr (S93.tr (S105.tr S113))).cl rfl) ⟨rfl, _, (S105.tr S113).wk rfl⟩ fun a ha => (ha.more ha.nil rfl)
   | false =>
    intro h; replace h := cF h
    refine WO.pn 1 rfl ?_
    refine WO.qs rfl rfl rfl rfl ?_
    refine WO.qs rfl rfl rfl rfl ?_
    refine WO.ls rfl rfl rfl rfl ?_
    refine WO.pn 1 rfl ?_
    refine WO.ls rfl rfl rfl rfl ?_
    refine WO.pn 1 rfl ?_
    obtain rfl := Option.some.inj h
    exact WO.met _ ((S85.tr S93).cl rfl) ⟨rfl, _, (Stp.refl _ _).wk rfl⟩ fun a ha => (ha.more ha.nil rfl)
  rintro _ w116 _ ⟨rfl, K117, S118⟩
  have h := hK96
  refine WO.pn 1 rfl ?_
  refine WO.nx ?_
  refine WO.fin ?_
  refine DN.seq ?_
  refine WC.ret ?_
  have f119 := hE.stp (S3.tr (S9.tr (S15.tr (S21.tr (S27.tr (S33.tr (S39.tr (S48.tr (S75.tr (S85.tr (S93.tr S118))))))))))) rfl rfl
  refine DN.res (l := [.tmp 2]) Try.results105 (res_tmp rfl rfl) rfl ?_
  obtain rfl := Option.some.inj h
  exact ⟨K117, rfl, f119⟩

/- loop.example/g00869/impl.CircuitMachine -/
theorem i_CircuitMachine_ok {w : World} {κ : Col} {p0 : Sig} {a1_2 : Option Addr} {u1_2 : Nat} {a1_3 : Option Addr} {u1_3 : Nat} {a1_4 : Option Addr} {u1_4 : Nat} {p1 : Circuit} (g1_2 : Rd (Rp.int .i64) κ w 0 a1_2 u1_2 p1.Next) (g1_3 : Rd Gate.rp κ w 0 a1_3 u1_3 p1.Gates) (g1_4 : Rd (Rp.int .i64) κ w 0 a1_4 u1_4 p1.Outs) {r : Machine × Bool} (h : i_CircuitMachine p0 p1 = some r) : Ret Try.prog 27 [.agg #[.int .i64 p0.In, .int .i64 p0.Out], .agg #[.int .i64 p1.Inputs, .int .i64 p1.Latches, .slice a1_2 p1.Next.length u1_2, .slice a1_3 p1.Gates.length u1_3, .slice a1_4 p1.Outs.length u1_4]] w (fun v w' => ∃ (κ' : Col) (ra0 : Option Addr) (ru0 : Nat) (ra1 : Option Addr) (ru1 : Nat), v = .tuple #[.agg #[.slice ra0 r.1.Next.length ru0, .slice ra1 r.1.Out.length ru1], .bool r.2] ∧ Ent κ w κ' w' ∧ Oc (Ep.own (Ep.int .i64) 2) 22 κ' w' 2 ra0 ru0 r.1.Next ∧ Oc (Ep.own (Ep.int .i64) 2) 22 κ' w' 3 ra1 ru1 r.1.Out) := by
 unfold i_CircuitMachine at h
 refine Ret.enter Try.func27 rfl Try.ntmps27 rfl ?_
 dsimp only [envOf]
 have hE := Ent.refl κ w
 refine WC.seq ?_
 refine WC.rs [(0, 1), (1, 1), (2, 1), (3, 2)] rfl ?_
 refine WO.box (κ := κ) 2 rfl rfl rfl rfl rfl rfl rfl fun b2 w1 K2 S3 f4 => ⟨trivial, ?_⟩
 refine WO.box (κ := K2) 3 rfl rfl rfl rfl rfl rfl rfl fun b3 w5 K6 S7 f8 => ⟨trivial, ?_⟩
 refine WO.alloc (κ := K6) 4 rfl rfl rfl rfl rfl Try.zeroValue50 rfl fun b4 w9 K10 S11 f12 => ⟨trivial, ?_⟩
 refine WO.pn 1 rfl ?_
 refine WO.fin ?_
 refine DN.seq ?_
 refine WC.seq ?_
 refine WC.seq ?_
 refine WC.rs [(0, 1), (1, 1), (2, 2), (3, 2), (4, 1), (5, 1), (6, 2), (7, 2), (8, 2), (9, 2), (10, 1), (11, 2), (12, 1), (13, 2), (14, 2), (15, 2), (16, 2), (17, 1), (18, 2), (19, 2), (20, 1), (21, 2), (22, 2)] rfl ?_
 have f13 := f4.stp (S7.tr S11) rfl rfl
 refine WO.k1 trivial rfl rfl rfl rfl (rn_la (cs := [.int .i64 p0.In, .int .i64 p0.Out]) Try.isAgg53 Try.sizeOf53 rfl rfl rfl (haE f13.cells)) ?_
 obtain ⟨x16, hx16, h⟩ := Option.bind_eq_some_iff.mp h
 refine WO.call rfl rfl rfl rfl rfl rfl Try.call104 (i_isSig_ok (κ := fun b => mp [] 0 (K10 b)) (p0 := p0) hx16) ?_
 rintro _ w14 ⟨k15, rfl, e16⟩
 obtain ⟨K17, S18, m19⟩ := Ent.mixed (l := []) (κ := K10) e16 5 rfl
 refine ⟨trivial, ?_⟩
 refine WO.pn 2 rfl ?_
 obtain ⟨p22, h, hK21⟩ := Option.bind_eq_some_iff.mp h
 refine WO.meet [(4, 1), (5, 1), (6, 2), (7, 2)] [(8, 2), (9, 2), (10, 1), (11, 2), (12, 1), (13, 2), (14, 2), (15, 2), (16, 2), (17, 1), (18, 2), (19, 2), (20, 1), (21, 2), (22, 2)] (fun L w' => L = [(2, .pointer (some ⟨b2, 0, none⟩)), (3, .pointer (some ⟨b3, 0, none⟩)), (4, .pointer (some ⟨b4, 0, none⟩)), (22, .bool p22)] ∧ ∃ κ', Stp [] K17 w14 κ' w') trivial ?_ ?_
 ·
  revert h
  cases ht22 : (!x16) with
  | true =>
   intro h; replace h := cT h
   refine WO.ls rfl rfl rfl rfl ?_
   refine WO.ls rfl rfl rfl rfl ?_
   refine WO.pn 2 rfl ?_
   obtain rfl := Option.some.inj h
   exact WO.met _ trivial ⟨rfl, _, (Stp.refl _ _).wk rfl⟩ fun a ha => (ha.more (ha.more (ha.more (ha.more ha.nil rfl) rfl) rfl) rfl)
  | false =>
   intro h; replace h := cF h
   have f23 := f8.stp (S11.tr S18) rfl rfl
   refine WO.k1 trivial rfl rfl rfl rfl (rn_la (cs := [.int .i64 p1.Inputs, .int .i64 p1.Latches, .slice a1_2 p1.Next.length u1_2, .slice a1_3 p1.Gates.length u1_3, .slice a1_4 p1.Outs.length u1_4]) Try.isAgg57 Try.sizeOf57 rfl rfl rfl (haE f23.cells)) ?_
   obtain ⟨x20, hx20, h⟩ := Option.bind_eq_some_iff.mp h
   have f24 := g1_2.stp (S3.tr (S7.tr (S11.tr S18))) rfl rfl
   have f25 := g1_3.stp (S3.tr (S7.tr (S11.tr S18))) rfl rfl
   have f26 := g1_4.stp (S3.tr (S7.tr (S11.tr S18))) rfl rfl
   refine WO.call rfl rfl rfl rfl rfl rfl Try.call105 (i_isCircuit_ok (κ := fun b => mp [] 0 (K17 b)) (p0 := p1) (Sl.map f24 (mp [] 0) rfl rfl) (Sl.map f25 (mp [] 0) rfl rfl) (Sl.map f26 (mp [] 0) rfl rfl) hx20) ?_
   rintro _ w27 ⟨k28, rfl, e29⟩
   obtain ⟨K30, S31, m32⟩ := Ent.mixed (l := []) (κ := K17) e29 7 rfl
   refine ⟨trivial, ?_⟩
   refine WO.pn 2 rfl ?_
   obtain rfl := Option.some.inj h
   exact WO.met _ trivial ⟨rfl, _, S31.wk rfl⟩ fun a ha => (ha.more (ha.more (ha.more (ha.more ha.nil rfl) rfl) rfl) rfl)
 rintro _ w34 _ ⟨rfl, K35, S36⟩
 have h := hK21
 refine WO.pn 1 rfl ?_
 obtain ⟨p29, h, hK37⟩ := Option.bind_eq_some_iff.mp h
 refine WO.meet [(9, 2), (10, 1), (11, 2), (12, 1), (13, 2), (14, 2)] [(15, 2), (16, 2), (17, 1), (18, 2), (19, 2), (20, 1), (21, 2), (22, 2)] (fun L w' => L = [(2, .pointer (some ⟨b2, 0, none⟩)), (3, .pointer (some ⟨b3, 0, none⟩)), (4, .pointer (some ⟨b4, 0, none⟩)), (29, .bool p29)] ∧ ∃ κ', Stp [] K35 w34 κ' w') trivial ?_ ?_
 ·
  revert h
  cases ht38 : p22 with
  | true =>
   intro h; replace h := cT h
   refine WO.pn 1 rfl ?_
   refine WO.ls rfl rfl rfl rfl ?_
   refine WO.pn 1 rfl ?_
   refine WO.ls rfl rfl rfl rfl ?_
   refine WO.pn 2 rfl ?_
   obtain rfl := Option.some.inj h
   exact WO.met _ trivial ⟨rfl, _, (Stp.refl _ _).wk rfl⟩ fun a ha => (ha.more (ha.more (ha.more (ha.more ha.nil rfl) rfl) rfl) rfl)
  | false =>
   intro h; replace h := cF h
   refine WO.k2 rfl rfl rfl rfl (rn_fieldAddr Try.runUnderlying57 rfl Try.sizeOf2 rfl rfl) ?_
   have f39 := f8.stp (S11.tr (S18.tr S36)) rfl rfl
   refine WO.k1 trivial rfl rfl rfl rfl (rn_ld Try.isAgg2 rfl rfl (hvE (f39.ld 0 rfl rfl))) ?_
   refine WO.k2 rfl rfl rfl rfl (rn_fieldAddr Try.runUnderlying53 rfl Try.sizeOf2 rfl rfl) ?_
   have f40 := f13.stp (S18.tr S36) rfl rfl
   refine WO.k1 trivial rfl rfl rfl rfl (rn_ld Try.isAgg2 rfl rfl (hvE (f40.ld 0 rfl rfl))) ?_
   refine WO.pn 2 rfl ?_
   obtain rfl := Option.some.inj h
   exact WO.met _ trivial ⟨rfl, _, (Stp.refl _ _).wk rfl⟩ fun a ha => (ha.more (ha.more (ha.more (ha.more ha.nil rfl) rfl) rfl) rfl)
 rintro _ w41 _ ⟨rfl, K42, S43⟩
 have h := hK37
 refine WO.pn 1 rfl ?_
 obtain ⟨p37, h, hK44⟩ := Option.bind_eq_some_iff.mp h
 refine WO.meet [(16, 2), (17, 1), (18, 2), (19, 2), (20, 1), (21, 2), (22, 2)] [] (fun L w' => L = [(2, .pointer (some ⟨b2, 0, none⟩)), (3, .pointer (some ⟨b3, 0, none⟩)), (4, .pointer (some ⟨b4, 0, none⟩)), (37, .bool p37)] ∧ ∃ κ', Stp [] K42 w41 κ' w') trivial ?_ ?_
 ·
  revert h
  cases ht45 : p29 with
  | true =>
   intro h; replace h := cT h
   refine WO.pn 1 rfl ?_
   refine WO.ls rfl rfl rfl rfl ?_
   refine WO.pn 2 rfl ?_
   refine WO.ls rfl rfl rfl rfl ?_
   refine WO.pn 2 rfl ?_
   obtain rfl := Option.some.inj h
   exact WO.met _ trivial ⟨rfl, _, (Stp.refl _ _).wk rfl⟩ fun a ha => (ha.more (ha.more (ha.more (ha.more ha.nil rfl) rfl) rfl) rfl)
  | false =>
   intro h; replace h := cF h
   refine WO.k2 rfl rfl rfl rfl (rn_fieldAddr Try.runUnderlying57 rfl Try.sizeOf22 rfl rfl) ?_
   have f46 := f8.stp (S11.tr (S18.tr (S36.tr S43))) rfl rfl
   refine WO.k1 trivial rfl rfl rfl rfl (rn_ld Try.isAgg22 rfl rfl (hvE (f46.ld 4 rfl rfl))) ?_
   refine WO.k2 rfl rfl rfl rfl (rn_len Try.runUnderlying22 rfl rfl) ?_
   refine WO.k2 rfl rfl rfl rfl (rn_fieldAddr Try.runUnderlying53 rfl Try.sizeOf2 rfl rfl) ?_
   have f47 := f13.stp (S18.tr (S36.tr S43)) rfl rfl
   refine WO.k1 trivial rfl rfl rfl rfl (rn_ld Try.isAgg2 rfl rfl (hvE (f47.ld 1 rfl rfl))) ?_
   refine WO.pn 2 rfl ?_
   obtain rfl := Option.some.inj h
   exact WO.met _ trivial ⟨rfl, _, (Stp.refl _ _).wk rfl⟩ fun a ha => (ha.more (ha.more (ha.more (ha.more ha.nil rfl) rfl) rfl) rfl)
 rintro _ w48 _ ⟨rfl, K49, S50⟩
 have h := hK44
 refine WO.fin ?_
 refine DN.seq ?_
 revert h
 cases ht51 : p37 with
 | true =>
  intro h; replace h := cT h
  refine WC.ct rfl ?_
  refine WC.seq ?_
  refine WC.rs [(0, 2), (1, 1), (2, 2)] rfl ?_
  refine WO.k2 rfl rfl rfl rfl (rn_build (parts := []) (cells := [.slice none 0 0, .slice none 0 0]) rfl rfl (by kernel_rfl)) ?_
  have f52 := f12.stp (S18.tr (S36.tr (S43.tr S50))) rfl rfl
  refine WO.stB0 (κ := K49) 4 (vc := [.slice none 0 0, .slice none 0 0]) rfl rfl rfl rfl rfl rfl rfl Try.sizeOf50 rfl rfl f52 rfl fun w53 S54 f55 => ⟨trivial, ?_⟩
  refine WO.pn 1 rfl ?_
  refine WO.fin ?_
  refine DN.seq ?_
  refine WC.ret ?_
  refine DN.retThen ?_
  have f56 := hE.stp (S3.tr (S7.tr (S11.tr (S18.tr (S36.tr (S43.tr (S50.tr S54))))))) rfl rfl
  refine DN.res (l := [.cell 4 50, .tmp 5]) Try.results27 (res_cellA rfl f55 Try.isAgg50 Try.sizeOf50 rfl (res_tmp rfl rfl)) rfl ?_
  obtain rfl := Option.some.inj h
  exact ⟨K49, none, 0, none, 0, rfl, f56, Ow.nil, Ow.nil⟩
 | false =>
  intro h; replace h := cF h
  refine WC.cf rfl ?_
  refine WC.skip ?_
  refine DN.seq ?_
  refine WC.seq ?_
  refine WC.rs [(0, 1), (1, 2)] rfl ?_
  refine WO.bl (κ := K49) (E := (Ep.int .i64)) 7 [] (parts := [(0, .const (.int .i64 0))]) (cells := [.int .i64 0]) (xs := ([0] : List Int)) rfl rfl rfl rfl rfl rfl Try.underlying22 Tryinfo2 rfl rfl rfl rfl rfl rfl rfl rfl rfl rfl ⟨[.int .i64 0], [], Zl K49 w48 [], Zl K49 w48 [], rfl, Zl.sp (l1 := []) (l2 := []) rfl, Zl.sr (l1 := []) (l2 := []), rfl, rfl⟩ fun a39 u39 w57 K58 S59 f60 => ⟨trivial, ?_⟩
  refine WO.pn 1 rfl ?_
  refine WO.fin ?_
  refine DN.seq ?_
  refine WC.seq ?_
  refine WC.rs [(0, 2), (1, 1), (2, 1)] rfl ?_
  refine WO.k2 rfl rfl rfl rfl (rn_build (parts := []) (cells := [.slice none 0 0, .slice none 0 0]) rfl rfl (by kernel_rfl)) ?_
  refine WO.alloc (κ := K58) 8 rfl rfl rfl rfl rfl Try.zeroValue50 rfl fun b7 w61 K62 S63 f64 => ⟨trivial, ?_⟩
  refine WO.stB0 (κ := K62) 8 (vc := [.slice none 0 0, .slice none 0 0]) rfl rfl rfl rfl rfl rfl rfl Try.sizeOf50 rfl rfl f64 rfl fun w65 S66 f67 => ⟨trivial, ?_⟩
  refine WO.fin ?_
  refine DN.seq ?_
  refine WC.seq ?_
  refine WC.seq ?_
  refine WC.rs [(0, 2)] rfl ?_
  refine WO.pn 1 rfl ?_
  refine WO.fin ?_
  refine DN.seq ?_
  obtain ⟨q2, hq70, hK69⟩ := Option.bind_eq_some_iff.mp h
  clear h
  refine WC.meet (fun L w' => ∃ (κ' : Col) (s3 : (List Int) × Int × (List (List Int)) × (List (List Int))) (las3_0 : Option Addr) (lus3_0 : Nat) (las3_1 : Option Addr) (lus3_1 : Nat) (las3_2 : Option Addr) (lus3_2 : Nat), L = [(4, .pointer (some ⟨b4, 0, none⟩)), (6, .slice las3_0 s3.1.length lus3_0), (7, .pointer (some ⟨b7, 0, none⟩))] ∧ Stp [7, 8, 9, 10, 11, 12, 15, 16] K62 w65 κ' w' ∧ Oc (Ep.int .i64) 2 κ' w' 7 las3_0 lus3_0 s3.1 ∧ Oc (Ep.own (Ep.int .i64) 2) 22 κ' w' 9 las3_1 lus3_1 s3.2.2.1 ∧ Oc (Ep.own (Ep.int .i64) 2) 22 κ' w' 10 las3_2 lus3_2 s3.2.2.2 ∧ Bc κ' w' 8 b7 50 [.slice las3_1 s3.2.2.1.length lus3_1, .slice las3_2 s3.2.2.2.length lus3_2] ∧ q2 = Sum.inr s3) ?_ ?_
  ·
   refine WC.block ?_
   have f85 := f60.stp (S63.tr S66) rfl rfl
   refine WC.loop (fun k L w' => ∃ (κ' : Col) (s1 : (List Int) × Int × (List (List Int)) × (List (List Int))) (las1_0 : Option Addr) (lus1_0 : Nat) (las1_1 : Option Addr) (lus1_1 : Nat) (las1_2 : Option Addr) (lus1_2 : Nat), L = [(2, .pointer (some ⟨b2, 0, none⟩)), (3, .pointer (some ⟨b3, 0, none⟩)), (4, .pointer (some ⟨b4, 0, none⟩)), (6, .slice las1_0 s1.1.length lus1_0), (7, .pointer (some ⟨b7, 0, none⟩)), (8, .int .i64 s1.2.1)] ∧ Stp [7, 8, 9, 10, 11, 12, 15, 16] K62 w65 κ' w' ∧ Oc (Ep.int .i64) 2 κ' w' 7 las1_0 lus1_0 s1.1 ∧ Oc (Ep.own (Ep.int .i64) 2) 22 κ' w' 9 las1_1 lus1_1 s1.2.2.1 ∧ Oc (Ep.own (Ep.int .i64) 2) 22 κ' w' 10 las1_2 lus1_2 s1.2.2.2 ∧ Bc κ' w' 8 b7 50 [.slice las1_1 s1.2.2.1.length lus1_1, .slice las1_2 s1.2.2.2.length lus1_2] ∧ whileM (i_CircuitMachine_b0 p0 p1) k s1 = some q2) ⟨_, _, ⟨K62, ((([0] : List Int) : (List Int)), (0 : Int), (([] : List (List Int)) : (List (List Int))), (([] : List (List Int)) : (List (List Int)))), a39, u39, none, 0, none, 0, rfl, (Stp.refl _ _).wk rfl, f85, Ow.nil, Ow.nil, f67, hq70⟩, fun a ha => (ha.more (ha.more (ha.more (ha.more (ha.more (ha.more ha.nil rfl) rfl) rfl) rfl) rfl) rfl)⟩ ?_
   rintro k _ w78 ⟨K79, s1, las1_0, lus1_0, las1_1, lus1_1, las1_2, lus1_2, rfl, S80, f81, f82, f83, f84, h⟩
   rcases k with _ | k
   ·
    cases h
   ·
    obtain ⟨o68, h, hk86⟩ := Option.bind_eq_some_iff.mp h; unfold i_CircuitMachine_b0 at h
    refine WC.seq ?_
    refine WC.seq ?_
    refine WC.rs [(0, 2), (1, 2), (2, 2), (3, 2)] rfl ?_
    refine WO.pn 2 rfl ?_
    refine WO.k2 rfl rfl rfl rfl (rn_len Try.runUnderlying22 rfl rfl) ?_
    refine WO.pn 1 rfl ?_
    refine WO.fin ?_
    refine DN.seq ?_
    revert h
    cases ht87 : decide (s1.2.1 < (s1.1.length : Int)) with
    | true =>
     intro h; replace h := cT h
     refine WC.ct rfl ?_
     refine WC.skip ?_
     refine DN.seq ?_
     refine WC.seq ?_
     refine WC.block ?_
     refine WC.seq ?_
     refine WC.rs [(0, 1), (1, 1), (2, 2), (3, 2)] rfl ?_
     refine WO.bl0 (κ := K79) (E := (Ep.int .i64)) 11 rfl rfl rfl rfl rfl Try.underlying22 Tryinfo2 rfl fun a47 u47 w88 K89 S90 f91 => ⟨trivial, ?_⟩
     refine WO.bl0 (κ := K89) (E := (Ep.int .i64)) 12 rfl rfl rfl rfl rfl Try.underlying22 Tryinfo2 rfl fun a48 u48 w92 K93 S94 f95 => ⟨trivial, ?_⟩
     refine WO.pn 2 rfl ?_
     refine WO.fin ?_
     refine DN.seq ?_
     refine WC.seq ?_
     refine WC.seq ?_
     refine WC.rs [(0, 1), (1, 1), (2, 2)] rfl ?_
     have f96 := f13.stp (S18.tr (S36.tr (S43.tr (S50.tr (S59.tr (S63.tr (S66.tr (S80.tr (S90.tr S94))))))))) rfl rfl
     refine WO.k1 trivial rfl rfl rfl rfl (rn_la (cs := [.int .i64 p0.In, .int .i64 p0.Out]) Try.isAgg53 Try.sizeOf53 rfl rfl rfl (haE f96.cells)) ?_
     obtain ⟨x50, hx50, h⟩ := Option.bind_eq_some_iff.mp h
     refine WO.call rfl rfl rfl rfl rfl rfl Try.call106 (i_inputsOf_ok (κ := fun b => mp [] 0 (K93 b)) (p0 := p0) hx50) ?_
     rintro _ w97 ⟨k98, rfl, e99⟩
     obtain ⟨K100, S101, m102⟩ := Ent.mixed (l := []) (κ := K93) e99 13 rfl
     refine ⟨trivial, ?_⟩
     refine WO.pn 1 rfl ?_
     refine WO.fin ?_
     refine DN.seq ?_
     obtain ⟨_, hr104, h⟩ := Option.bind_eq_some_iff.mp h
     have hN104 := rng_ok hr104
     obtain ⟨q5, hq106, hK105⟩ := Option.bind_eq_some_iff.mp h
     clear h
     refine WC.meet (fun L w' => ∃ (κ' : Col) (s6 : (List Int) × (List Int) × (List Int)) (las6_0 : Option Addr) (lus6_0 : Nat) (las6_1 : Option Addr) (lus6_1 : Nat) (las6_2 : Option Addr) (lus6_2 : Nat), L = [(2, .pointer (some ⟨b2, 0, none⟩)), (3, .pointer (some ⟨b3, 0, none⟩)), (4, .pointer (some ⟨b4, 0, none⟩)), (6, .slice las6_0 s6.1.length lus6_0), (7, .pointer (some ⟨b7, 0, none⟩)), (8, .int .i64 s1.2.1), (9, .slice las6_1 s6.2.1.length lus6_1), (10, .slice las6_2 s6.2.2.length lus6_2)] ∧ Stp [7, 11, 12] K100 w97 κ' w' ∧ Oc (Ep.int .i64) 2 κ' w' 7 las6_0 lus6_0 s6.1 ∧ Oc (Ep.int .i64) 2 κ' w' 11 las6_1 lus6_1 s6.2.1 ∧ Oc (Ep.int .i64) 2 κ' w' 12 las6_2 lus6_2 s6.2.2 ∧ q5 = Sum.inr s6) ?_ ?_
     ·
      refine WC.block ?_
      have f119 := f81.stp (S90.tr (S94.tr S101)) rfl rfl
      have f120 := f91.stp (S94.tr S101) rfl rfl
      have f121 := f95.stp S101 rfl rfl
      refine WC.loop (fun k L w' => ∃ (κ' : Col) (v51 : Int) (s4 : (List Int) × (List Int) × (List Int)) (las4_0 : Option Addr) (lus4_0 : Nat) (las4_1 : Option Addr) (lus4_1 : Nat) (las4_2 : Option Addr) (lus4_2 : Nat), L = [(2, .pointer (some ⟨b2, 0, none⟩)), (3, .pointer (some ⟨b3, 0, none⟩)), (4, .pointer (some ⟨b4, 0, none⟩)), (6, .slice las4_0 s4.1.length lus4_0), (7, .pointer (some ⟨b7, 0, none⟩)), (8, .int .i64 s1.2.1), (9, .slice las4_1 s4.2.1.length lus4_1), (10, .slice las4_2 s4.2.2.length lus4_2), (50, .int .i64 x50), (51, .int .i64 v51)] ∧ Stp [7, 11, 12] K100 w97 κ' w' ∧ Oc (Ep.int .i64) 2 κ' w' 7 las4_0 lus4_0 s4.1 ∧ Oc (Ep.int .i64) 2 κ' w' 11 las4_1 lus4_1 s4.2.1 ∧ Oc (Ep.int .i64) 2 κ' w' 12 las4_2 lus4_2 s4.2.2 ∧ 0 ≤ v51 ∧ Int.toNat (x50 - v51) = k ∧ cntM (i_CircuitMachine_b2 p1 s1) k v51 s4 = some q5) ⟨_, _, ⟨K100, 0, ((s1.1 : (List Int)), (([] : List Int) : (List Int)), (([] : List Int) : (List Int))), las1_0, lus1_0, a47, u47, a48, u48, rfl, (Stp.refl _ _).wk rfl, f119, f120, f121, (by decide), (by simp), hq106⟩, fun a ha => (ha.more (ha.more (ha.more (ha.more (ha.more (ha.more (ha.more (ha.more (ha.more (ha.more ha.nil rfl) rfl) rfl) rfl) rfl) rfl) rfl) rfl) rfl) rfl)⟩ ?_
      rintro k _ w113 ⟨K114, v51, s4, las4_0, lus4_0, las4_1, lus4_1, las4_2, lus4_2, rfl, S115, f116, f117, f118, hj104, hJ104, h⟩
      rcases k with _ | k
      ·
       have hk122 := h; obtain ⟨o104, h⟩ := ex_eq (Sum.inr (Sum.inl s4) : (Machine × Bool) ⊕ (((List Int) × (List Int) × (List Int)) ⊕ ((List Int) × (List Int) × (List Int))))
       have hc104 : decide (v51 < x50) = false := decide_eq_false (by omega)
       refine WC.seq ?_
       refine WC.rs [(0, 2)] rfl ?_
       refine WO.pn 1 rfl ?_
       refine WO.fin ?_
       refine DN.seq ?_
       refine WC.seq ?_
       refine WC.cf' rfl hc104 ?_
       refine WC.exit ?_
       refine DN.exitThen ?_
       refine DN.exitThen ?_
       obtain rfl := Option.some.inj h
       have h := hk122
       refine DN.hit ?_
       obtain rfl := Option.some.inj h
       exact DN.meet _ ⟨K114, ((s4.1 : (List Int)), (s4.2.1 : (List Int)), (s4.2.2 : (List Int))), las4_0, lus4_0, las4_1, lus4_1, las4_2, lus4_2, rfl, S115.wk rfl, f116, f117, f118, rfl⟩ fun a ha => (ha.more (ha.more (ha.more (ha.more (ha.more (ha.more (ha.more (ha.more ha.nil rfl) rfl) rfl) rfl) rfl) rfl) rfl) rfl)
      ·
       obtain ⟨o104, h, hk122⟩ := Option.bind_eq_some_iff.mp h; unfold i_CircuitMachine_b2 at h
       have hc104 : decide (v51 < x50) = true := decide_eq_true (by omega)
       refine WC.seq ?_
       refine WC.rs [(0, 2)] rfl ?_
       refine WO.pn 1 rfl ?_
       refine WO.fin ?_
       refine DN.seq ?_
       refine WC.seq ?_
       refine WC.ct' rfl hc104 ?_
       refine WC.skip ?_
       refine DN.seq ?_
       refine WC.seq ?_
       refine WC.block ?_
       refine WC.seq ?_
       refine WC.rs [(0, 2), (1, 2)] rfl ?_
       refine WO.pn 2 rfl ?_
       refine WO.fin ?_
       refine DN.seq ?_
       refine WC.seq ?_
       refine WC.rx (κ := K114) [0, 3, 7] none [(1, 2), (2, 2), (3, 2), (5, 2), (0, 0), (4, 0), (6, 1), (7, 2), (8, 2), (9, 2), (10, 2), (11, 2)] [] (by kernel_rfl) (by kernel_rfl) fun w124 S123 => ?_
       refine WO.pn 2 rfl ?_
       obtain ⟨x58, hx58, h⟩ := Option.bind_eq_some_iff.mp h
       refine WO.k2 rfl rfl rfl rfl (rn_index f116.rdc hx58 Try.runUnderlying22 Try.sizeOf2 rfl rfl rfl rfl) ?_
       refine WO.pn 1 rfl ?_
       have f125 := f8.stp (S11.tr (S18.tr (S36.tr (S43.tr (S50.tr (S59.tr (S63.tr (S66.tr (S80.tr (S90.tr (S94.tr (S101.tr (S115.tr S123))))))))))))) rfl rfl
       refine WO.k0 rfl rfl rfl rfl (rn_la (cs := [.int .i64 p1.Inputs, .int .i64 p1.Latches, .slice a1_2 p1.Next.length u1_2, .slice a1_3 p1.Gates.length u1_3, .slice a1_4 p1.Outs.length u1_4]) Try.isAgg57 Try.sizeOf57 rfl rfl rfl (haC f125.cells rfl)) ?_
       have f126 := f116.stp S123 rfl rfl
       refine WO.k0 rfl rfl rfl rfl (rn_ld Try.isAgg2 rfl rfl (hvC (f126.rdc.gInt hx58) rfl)) ?_
       obtain ⟨x61, hx61, h⟩ := Option.bind_eq_some_iff.mp h
       have f127 := g1_2.stp (S3.tr (S7.tr (S11.tr (S18.tr (S36.tr (S43.tr (S50.tr (S59.tr (S63.tr (S66.tr (S80.tr (S90.tr (S94.tr (S101.tr (S115.tr S123))))))))))))))) rfl rfl
       have f128 := g1_3.stp (S3.tr (S7.tr (S11.tr (S18.tr (S36.tr (S43.tr (S50.tr (S59.tr (S63.tr (S66.tr (S80.tr (S90.tr (S94.tr (S101.tr (S115.tr S123))))))))))))))) rfl rfl
       have f129 := g1_4.stp (S3.tr (S7.tr (S11.tr (S18.tr (S36.tr (S43.tr (S50.tr (S59.tr (S63.tr (S66.tr (S80.tr (S90.tr (S94.tr (S101.tr (S115.tr S123))))))))))))))) rfl rfl
       refine WO.call rfl rfl rfl rfl rfl rfl Try.call107 (i_stepOf_ok (κ := fun b => mp [] 0 (K114 b)) (p0 := p1) (Sl.map f127 (mp [] 0) rfl rfl) (Sl.map f128 (mp [] 0) rfl rfl) (Sl.map f129 (mp [] 0) rfl rfl) hx61) ?_
       rintro _ w130 ⟨k131, rfl, e132⟩
       obtain ⟨K133, S134, m135⟩ := Ent.mixed (l := []) (κ := K114) e132 15 rfl
       refine ⟨(S134.cl rfl), ?_⟩
       refine WO.pn 5 rfl ?_
       refine WO.nx ?_
       refine WO.fin ?_
       refine DN.seq ?_
       refine WC.seq ?_
       refine WC.rs [(0, 2), (1, 2), (2, 1), (3, 2)] rfl ?_
       refine WO.pn 2 rfl ?_
       obtain ⟨x66, hx66, h⟩ := Option.bind_eq_some_iff.mp h
       have f137 := f126.stp S134 rfl rfl
       refine WO.call rfl rfl rfl rfl rfl rfl Try.call108 (slices_Index_I_int64_ok (κ := fun b => mp [] 0 (K133 b)) (Sl.map f137.rdc (mp [] 0) rfl rfl) hx66) ?_
       rintro _ w138 ⟨k139, rfl, e140⟩
       obtain ⟨K141, S142, m143⟩ := Ent.mixed (l := []) (κ := K133) e140 17 rfl
       refine ⟨trivial, ?_⟩
       refine WO.pn 1 rfl ?_
       refine WO.fin ?_
       refine DN.seq ?_
       refine WC.seq ?_
       refine WC.seq ?_
       refine WC.rs [(0, 2), (1, 2)] rfl ?_
       refine WO.pn 2 rfl ?_
       refine WO.fin ?_
       refine DN.seq ?_
       obtain ⟨q7, h, hK145⟩ := Option.bind_eq_some_iff.mp h
       refine WC.meet (fun L w' => ∃ (κ' : Col) (laq7_0 : Option Addr) (luq7_0 : Nat), L = [(2, .pointer (some ⟨b2, 0, none⟩)), (3, .pointer (some ⟨b3, 0, none⟩)), (4, .pointer (some ⟨b4, 0, none⟩)), (6, .slice laq7_0 q7.1.length luq7_0), (7, .pointer (some ⟨b7, 0, none⟩)), (8, .int .i64 s1.2.1), (9, .slice las4_1 s4.2.1.length lus4_1), (10, .slice las4_2 s4.2.2.length lus4_2), (13, .int .i64 x61.2), (14, .int .i64 q7.2), (50, .int .i64 x50), (51, .int .i64 v51)] ∧ Stp [7] K141 w138 κ' w' ∧ Oc (Ep.int .i64) 2 κ' w' 7 laq7_0 luq7_0 q7.1) ?_ ?_
       ·
        revert h
        cases ht150 : decide (x66 < 0) with
        | true =>
         intro h; replace h := cT h
         refine WC.ct rfl ?_
         refine WC.seq ?_
         refine WC.rs [(0, 2), (1, 2), (2, 2)] rfl ?_
         refine WO.pn 1 rfl ?_
         refine WO.k2 rfl rfl rfl rfl (rn_len Try.runUnderlying22 rfl rfl) ?_
         refine WO.pn 1 rfl ?_
         refine WO.fin ?_
         refine DN.seq ?_
         refine WC.rs [(0, 2), (1, 2), (2, 1), (3, 1), (4, 2)] rfl ?_
         refine WO.pn 2 rfl ?_
         refine WO.bl (κ := K141) (E := (Ep.int .i64)) 19 [] (parts := [(0, .tmp 72)]) (cells := [.int .i64 x61.1]) (xs := ([x61.1] : List Int)) rfl rfl rfl rfl rfl rfl Try.underlying22 Tryinfo2 rfl rfl rfl rfl rfl rfl rfl rfl rfl rfl ⟨[.int .i64 x61.1], [], Zl K141 w138 [], Zl K141 w138 [], rfl, Zl.sp (l1 := []) (l2 := []) rfl, Zl.sr (l1 := []) (l2 := []), rfl, rfl⟩ fun a73 u73 w151 K152 S153 f154 => ⟨trivial, ?_⟩
         obtain ⟨x74, hx74, h⟩ := Option.bind_eq_some_iff.mp h
         have f155 := f137.stp (S142.tr S153) rfl rfl
         refine WO.app (κ := K152) (E := (Ep.int .i64)) 7 [] rfl rfl rfl rfl rfl rfl rfl rfl rfl Try.underlying22 Tryinfo2 rfl rfl rfl rfl f155 (Sl.srcP (pu_int _) f154.rdc) sy_false hx74 rfl fun a74 u74 w156 K157 S158 f159 => ⟨trivial, ?_⟩
         refine WO.pn 1 rfl ?_
         refine WO.fin ?_
         obtain rfl := Option.some.inj h
         exact DN.meet _ ⟨K157, a74, u74, rfl, (S153.tr S158).wk rfl, f159⟩ fun a ha => (ha.more (ha.more (ha.more (ha.more (ha.more (ha.more (ha.more (ha.more (ha.more (ha.more (ha.more (ha.more ha.nil rfl) rfl) rfl) rfl) rfl) rfl) rfl) rfl) rfl) rfl) rfl) rfl)
        | false =>
         intro h; replace h := cF h
         refine WC.cf rfl ?_
         refine WC.skip ?_
         have f160 := f137.stp S142 rfl rfl
         obtain rfl := Option.some.inj h
         exact DN.meet _ ⟨K141, las4_0, lus4_0, rfl, (Stp.refl _ _).wk rfl, f160⟩ fun a ha => (ha.more (ha.more (ha.more (ha.more (ha.more (ha.more (ha.more (ha.more (ha.more (ha.more (ha.more (ha.more ha.nil rfl) rfl) rfl) rfl) rfl) rfl) rfl) rfl) rfl) rfl) rfl) rfl)
       rintro _ w146 ⟨K147, laq7_0, luq7_0, rfl, S148, f149⟩
       have h := hK145
       refine DN.seq ?_
       refine WC.rs [(0, 2), (1, 2), (2, 1), (3, 1), (4, 2), (5, 2), (6, 1), (7, 1), (8, 2), (9, 2)] rfl ?_
       refine WO.pn 2 rfl ?_
       refine WO.bl (κ := K147) (E := (Ep.int .i64)) 19 [] (parts := [(0, .tmp 76)]) (cells := [.int .i64 q7.2]) (xs := ([q7.2] : List Int)) rfl rfl rfl rfl rfl rfl Try.underlying22 Tryinfo2 rfl rfl rfl rfl rfl rfl rfl rfl rfl rfl ⟨[.int .i64 q7.2], [], Zl K147 w146 [], Zl K147 w146 [], rfl, Zl.sp (l1 := []) (l2 := []) rfl, Zl.sr (l1 := []) (l2 := []), rfl, rfl⟩ fun a77 u77 w161 K162 S163 f164 => ⟨trivial, ?_⟩
       obtain ⟨x78, hx78, h⟩ := Option.bind_eq_some_iff.mp h
       have f165 := f117.stp (S123.tr (S134.tr (S142.tr (S148.tr S163)))) rfl rfl
       refine WO.app (κ := K162) (E := (Ep.int .i64)) 11 [] rfl rfl rfl rfl rfl rfl rfl rfl rfl Try.underlying22 Tryinfo2 rfl rfl rfl rfl f165 (Sl.srcP (pu_int _) f164.rdc) sy_false hx78 rfl fun a78 u78 w166 K167 S168 f169 => ⟨trivial, ?_⟩
       refine WO.pn 2 rfl ?_
       refine WO.bl (κ := K167) (E := (Ep.int .i64)) 20 [] (parts := [(0, .tmp 80)]) (cells := [.int .i64 x61.2]) (xs := ([x61.2] : List Int)) rfl rfl rfl rfl rfl rfl Try.underlying22 Tryinfo2 rfl rfl rfl rfl rfl rfl rfl rfl rfl rfl ⟨[.int .i64 x61.2], [], Zl K167 w166 [], Zl K167 w166 [], rfl, Zl.sp (l1 := []) (l2 := []) rfl, Zl.sr (l1 := []) (l2 := []), rfl, rfl⟩ fun a81 u81 w170 K171 S172 f173 => ⟨trivial, ?_⟩
       obtain ⟨x82, hx82, h⟩ := Option.bind_eq_some_iff.mp h
       have f174 := f118.stp (S123.tr (S134.tr (S142.tr (S148.tr (S163.tr (S168.tr S172)))))) rfl rfl
       refine WO.app (κ := K171) (E := (Ep.int .i64)) 12 [] rfl rfl rfl rfl rfl rfl rfl rfl rfl Try.underlying22 Tryinfo2 rfl rfl rfl rfl f174 (Sl.srcP (pu_int _) f173.rdc) sy_false hx82 rfl fun a82 u82 w175 K176 S177 f178 => ⟨trivial, ?_⟩
       refine WO.pn 2 rfl ?_
       refine WO.fin ?_
       refine DN.block ?_
       refine DN.seq ?_
       refine WC.rs [(0, 2), (1, 2)] rfl ?_
       refine WO.pn 2 rfl ?_
       refine WO.fin ?_
       have hw104 : IntKind.wrap .i64 (v51 + 1) = v51 + 1 := wr1 hj104 (of_decide_eq_true hc104) hN104
       rw [hw104]
       have hc104 := of_decide_eq_true hc104
       have f179 := f149.stp (S163.tr (S168.tr (S172.tr S177))) rfl rfl
       have f180 := f169.stp (S172.tr S177) rfl rfl
       obtain rfl := Option.some.inj h
       refine DN.round fun a ha => ?_
       exact ⟨k, _, Nat.lt_succ_self _, ⟨K176, v51 + 1, ((q7.1 : (List Int)), (x78 : (List Int)), (x82 : (List Int))), laq7_0, luq7_0, a78, u78, a82, u82, rfl, (S115.tr (S123.tr (S134.tr (S142.tr (S148.tr (S163.tr (S168.tr (S172.tr S177)))))))).wk rfl, f179, f180, f178, by omega, by omega, hk122⟩, (ha.more (ha.more (ha.more (ha.more (ha.more (ha.more (ha.more (ha.more (ha.more (ha.more ha.nil rfl) rfl) rfl) rfl) rfl) rfl) rfl) rfl) rfl) rfl)⟩
     rintro _ w107 ⟨K108, s6, las6_0, lus6_0, las6_1, lus6_1, las6_2, lus6_2, rfl, S109, f110, f111, f112, rfl⟩
     have h := hK105
     dsimp only [aft] at h
     refine DN.seq ?_
     obtain ⟨x88, hx88, h⟩ := Option.bind_eq_some_iff.mp h
     obtain ⟨x93, hx93, h⟩ := Option.bind_eq_some_iff.mp h
     refine WC.meet (fun L w' => ∃ (κ' : Col) (lar184_0 : Option Addr) (lur184_0 : Nat) (lar184_1 : Option Addr) (lur184_1 : Nat), L = [(2, .pointer (some ⟨b2, 0, none⟩)), (3, .pointer (some ⟨b3, 0, none⟩)), (4, .pointer (some ⟨b4, 0, none⟩)), (6, .slice las6_0 s6.1.length lus6_0), (7, .pointer (some ⟨b7, 0, none⟩)), (8, .int .i64 s1.2.1)] ∧ Stp [8, 9, 10, 11, 12, 15, 16] K108 w107 κ' w' ∧ Oc (Ep.own (Ep.int .i64) 2) 22 κ' w' 15 lar184_0 lur184_0 x88 ∧ Oc (Ep.own (Ep.int .i64) 2) 22 κ' w' 16 lar184_1 lur184_1 x93 ∧ Bc κ' w' 8 b7 50 [.slice lar184_0 x88.length lur184_0, .slice lar184_1 x93.length lur184_1]) ?_ ?_
     ·
      refine WC.rxt (κ := K108) [8] (some 11) (by kernel_rfl) fun w188 S189 => ?_
      refine WA.seg (fuel := 8) [(0, 2), (2, 2), (5, 2), (7, 2), (1, 0), (6, 0)] (by kernel_rfl) (by kernel_rfl) rfl ?_
      refine WO.k2 rfl rfl rfl rfl (rn_fieldAddr Try.runUnderlying50 rfl Try.sizeOf23 rfl rfl) ?_
      refine WO.pn 1 rfl ?_
      refine WO.k2 rfl rfl rfl rfl (rn_fieldAddr Try.runUnderlying50 rfl Try.sizeOf23 rfl rfl) ?_
      refine WO.pn 1 rfl ?_
      have f190 := f84.stp (S90.tr (S94.tr (S101.tr (S109.tr S189)))) rfl rfl
      refine WO.k0 rfl rfl rfl rfl (rn_ld Try.isAgg23 rfl rfl (hvC (f190.ld 0 rfl rfl) rfl)) ?_
      refine WO.k0 rfl rfl rfl rfl (rn_ld Try.isAgg23 rfl rfl (hvC (f190.ld 1 rfl rfl) rfl)) ?_
      refine WO.wa ?_
      refine WA.fork2 (fuel := 7) 3 8 (by kernel_rfl) rfl ?_ ?_
      ·
       have f191 := f111.stp S189 rfl rfl
       refine WO.bl (κ := K108) (E := (Ep.own (Ep.int .i64) 2)) 15 [11] (parts := [(0, .tmp 86)]) (cells := [.slice las6_1 s6.2.1.length lus6_1]) (xs := ([s6.2.1] : List (List Int))) rfl rfl rfl rfl rfl rfl Try.underlying23 Tryinfo22 rfl rfl rfl rfl rfl rfl rfl rfl rfl rfl ⟨[.slice las6_1 s6.2.1.length lus6_1], [], Zl K108 w188 [11], Zl K108 w188 [], rfl, Zl.sp (l1 := [11]) (l2 := []) rfl, Zl.sr (l1 := [11]) (l2 := []), ⟨_, _, rfl, f191⟩, rfl⟩ fun a87 u87 w192 K193 S194 f195 => ⟨(S194.cl rfl), ?_⟩
       refine WO.wa ?_
       refine WA.fork2 (fuel := 6) 4 8 (by kernel_rfl) rfl ?_ ?_
       ·
        have f196 := f82.stp (S90.tr (S94.tr (S101.tr (S109.tr (S189.tr S194))))) rfl rfl
        refine WO.app (κ := K193) (E := (Ep.own (Ep.int .i64) 2)) 9 [15] rfl rfl rfl rfl rfl rfl rfl rfl rfl Try.underlying23 Tryinfo22 rfl rfl rfl rfl f196 f195.src (sy_one rfl) hx88 rfl fun a88 u88 w197 K198 S199 f200 => ⟨((S194.tr S199).cl rfl), ?_⟩
        refine WO.wa ?_
        refine WA.seg (fuel := 3) [(10, 2), (8, 1), (9, 1)] (by kernel_rfl) (by kernel_rfl) rfl ?_
        refine WO.k2 rfl rfl rfl rfl (rn_fieldAddr Try.runUnderlying50 rfl Try.sizeOf23 rfl rfl) ?_
        have f201 := f112.stp (S189.tr (S194.tr S199)) rfl rfl
        refine WO.bl (κ := K198) (E := (Ep.own (Ep.int .i64) 2)) 16 [12] (parts := [(0, .tmp 91)]) (cells := [.slice las6_2 s6.2.2.length lus6_2]) (xs := ([s6.2.2] : List (List Int))) rfl rfl rfl rfl rfl rfl Try.underlying23 Tryinfo22 rfl rfl rfl rfl rfl rfl rfl rfl rfl rfl ⟨[.slice las6_2 s6.2.2.length lus6_2], [], Zl K198 w197 [12], Zl K198 w197 [], rfl, Zl.sp (l1 := [12]) (l2 := []) rfl, Zl.sr (l1 := [12]) (l2 := []), ⟨_, _, rfl, f201⟩, rfl⟩ fun a92 u92 w202 K203 S204 f205 => ⟨((S194.tr (S199.tr S204)).cl rfl), ?_⟩
        have f206 := f83.stp (S90.tr (S94.tr (S101.tr (S109.tr (S189.tr (S194.tr (S199.tr S204))))))) rfl rfl
        refine WO.app (κ := K203) (E := (Ep.own (Ep.int .i64) 2)) 10 [16] rfl rfl rfl rfl rfl rfl rfl rfl rfl Try.underlying23 Tryinfo22 rfl rfl rfl rfl f206 f205.src (sy_one rfl) hx93 rfl fun a93 u93 w207 K208 S209 f210 => ⟨((S194.tr (S199.tr (S204.tr S209))).cl rfl), ?_⟩
        refine WO.wa ?_
        refine WA.brk (fuel := 2) 11 (by kernel_rfl) rfl (by kernel_rfl) ?_
        have f211 := f190.stp (S194.tr (S199.tr (S204.tr S209))) rfl rfl
        refine WO.stB (κ := K208) 8 (off := 0) (vc := [.slice a88 x88.length u88]) (cs' := [.slice a88 x88.length u88, .slice las1_2 s1.2.2.2.length lus1_2]) rfl rfl rfl rfl rfl rfl rfl Try.sizeOf23 rfl rfl f211 rfl rfl fun w212 S213 f214 => ⟨trivial, ?_⟩
        refine WO.wa ?_
        refine WA.seg (fuel := 0) [(12, 2), (13, 1)] (by kernel_rfl) (by kernel_rfl) rfl ?_
        refine WO.k2 rfl rfl rfl rfl (rn_fieldAddr Try.runUnderlying50 rfl Try.sizeOf23 rfl rfl) ?_
        refine WO.stB (κ := K208) 8 (off := 1) (vc := [.slice a93 x93.length u93]) (cs' := [.slice a88 x88.length u88, .slice a93 x93.length u93]) rfl rfl rfl rfl rfl rfl rfl Try.sizeOf23 rfl rfl f214 rfl rfl fun w215 S216 f217 => ⟨trivial, ?_⟩
        refine WO.wa ?_
        refine WA.last [] (by kernel_rfl) (by kernel_rfl) rfl ?_
        refine WO.fin ?_
        have f218 := f200.stp (S204.tr (S209.tr (S213.tr S216))) rfl rfl
        have f219 := f210.stp (S213.tr S216) rfl rfl
        exact DN.meet _ ⟨(fun b => ren [(9, 15), (10, 16)] (K208 b)), a88, u88, a93, u93, rfl, (Stp.ren ((S189.tr (S194.tr (S199.tr (S204.tr (S209.tr (S213.tr S216)))))).wk rfl) [(9, 15), (10, 16)] rfl), (f218.map (ren [(9, 15), (10, 16)]) rfl rfl), (f219.map (ren [(9, 15), (10, 16)]) rfl rfl), (f217.map (ren [(9, 15), (10, 16)]) rfl rfl)⟩ fun a ha => (ha.more (ha.more (ha.more (ha.more (ha.more (ha.more ha.nil rfl) rfl) rfl) rfl) rfl) rfl)
       ·
        have f220 := f112.stp (S189.tr S194) rfl rfl
        refine WO.bl (κ := K193) (E := (Ep.own (Ep.int .i64) 2)) 16 [12] (parts := [(0, .tmp 91)]) (cells := [.slice las6_2 s6.2.2.length lus6_2]) (xs := ([s6.2.2] : List (List Int))) rfl rfl rfl rfl rfl rfl Try.underlying23 Tryinfo22 rfl rfl rfl rfl rfl rfl rfl rfl rfl rfl ⟨[.slice las6_2 s6.2.2.length lus6_2], [], Zl K193 w192 [12], Zl K193 w192 [], rfl, Zl.sp (l1 := [12]) (l2 := []) rfl, Zl.sr (l1 := [12]) (l2 := []), ⟨_, _, rfl, f220⟩, rfl⟩ fun a92 u92 w221 K222 S223 f224 => ⟨((S194.tr S223).cl rfl), ?_⟩
        refine WO.wa ?_
        refine WA.seg (fuel := 3) [(4, 1), (10, 2), (9, 1)] (by kernel_rfl) (by kernel_rfl) rfl ?_
        have f225 := f195.stp S223 rfl rfl
        have f226 := f82.stp (S90.tr (S94.tr (S101.tr (S109.tr (S189.tr (S194.tr S223)))))) rfl rfl
        refine WO.app (κ := K222) (E := (Ep.own (Ep.int .i64) 2)) 9 [15] rfl rfl rfl rfl rfl rfl rfl rfl rfl Try.underlying23 Tryinfo22 rfl rfl rfl rfl f226 f225.src (sy_one rfl) hx88 rfl fun a88 u88 w227 K228 S229 f230 => ⟨((S194.tr (S223.tr S229)).cl rfl), ?_⟩
        refine WO.k2 rfl rfl rfl rfl (rn_fieldAddr Try.runUnderlying50 rfl Try.sizeOf23 rfl rfl) ?_
        have f231 := f224.stp S229 rfl rfl
        have f232 := f83.stp (S90.tr (S94.tr (S101.tr (S109.tr (S189.tr (S194.tr (S223.tr S229))))))) rfl rfl
        refine WO.app (κ := K228) (E := (Ep.own (Ep.int .i64) 2)) 10 [16] rfl rfl rfl rfl rfl rfl rfl rfl rfl Try.underlying23 Tryinfo22 rfl rfl rfl rfl f232 f231.src (sy_one rfl) hx93 rfl fun a93 u93 w233 K234 S235 f236 => ⟨((S194.tr (S223.tr (S229.tr S235))).cl rfl), ?_⟩
        refine WO.wa ?_
        refine WA.brk (fuel := 2) 11 (by kernel_rfl) rfl (by kernel_rfl) ?_
        have f237 := f190.stp (S194.tr (S223.tr (S229.tr S235))) rfl rfl
        refine WO.stB (κ := K234) 8 (off := 0) (vc := [.slice a88 x88.length u88]) (cs' := [.slice a88 x88.length u88, .slice las1_2 s1.2.2.2.length lus1_2]) rfl rfl rfl rfl rfl rfl rfl Try.sizeOf23 rfl rfl f237 rfl rfl fun w238 S239 f240 => ⟨trivial, ?_⟩
        refine WO.wa ?_
        refine WA.seg (fuel := 0) [(12, 2), (13, 1)] (by kernel_rfl) (by kernel_rfl) rfl ?_
        refine WO.k2 rfl rfl rfl rfl (rn_fieldAddr Try.runUnderlying50 rfl Try.sizeOf23 rfl rfl) ?_
        refine WO.stB (κ := K234) 8 (off := 1) (vc := [.slice a93 x93.length u93]) (cs' := [.slice a88 x88.length u88, .slice a93 x93.length u93]) rfl rfl rfl rfl rfl rfl rfl Try.sizeOf23 rfl rfl f240 rfl rfl fun w241 S242 f243 => ⟨trivial, ?_⟩
        refine WO.wa ?_
        refine WA.last [] (by kernel_rfl) (by kernel_rfl) rfl ?_
        refine WO.fin ?_
        have f244 := f230.stp (S235.tr (S239.tr S242)) rfl rfl
        have f245 := f236.stp (S239.tr S242) rfl rfl
        exact DN.meet _ ⟨(fun b => ren [(9, 15), (10, 16)] (K234 b)), a88, u88, a93, u93, rfl, (Stp.ren ((S189.tr (S194.tr (S223.tr (S229.tr (S235.tr (S239.tr S242)))))).wk rfl) [(9, 15), (10, 16)] rfl), (f244.map (ren [(9, 15), (10, 16)]) rfl rfl), (f245.map (ren [(9, 15), (10, 16)]) rfl rfl), (f243.map (ren [(9, 15), (10, 16)]) rfl rfl)⟩ fun a ha => (ha.more (ha.more (ha.more (ha.more (ha.more (ha.more ha.nil rfl) rfl) rfl) rfl) rfl) rfl)
      ·
       have f246 := f112.stp S189 rfl rfl
       refine WO.bl (κ := K108) (E := (Ep.own (Ep.int .i64) 2)) 15 [12] (parts := [(0, .tmp 91)]) (cells := [.slice las6_2 s6.2.2.length lus6_2]) (xs := ([s6.2.2] : List (List Int))) rfl rfl rfl rfl rfl rfl Try.underlying23 Tryinfo22 rfl rfl rfl rfl rfl rfl rfl rfl rfl rfl ⟨[.slice las6_2 s6.2.2.length lus6_2], [], Zl K108 w188 [12], Zl K108 w188 [], rfl, Zl.sp (l1 := [12]) (l2 := []) rfl, Zl.sr (l1 := [12]) (l2 := []), ⟨_, _, rfl, f246⟩, rfl⟩ fun a92 u92 w247 K248 S249 f250 => ⟨(S249.cl rfl), ?_⟩
       refine WO.wa ?_
       refine WA.seg (fuel := 3) [(3, 1), (4, 1), (10, 2), (9, 1)] (by kernel_rfl) (by kernel_rfl) rfl ?_
       have f251 := f111.stp (S189.tr S249) rfl rfl
       refine WO.bl (κ := K248) (E := (Ep.own (Ep.int .i64) 2)) 16 [11] (parts := [(0, .tmp 86)]) (cells := [.slice las6_1 s6.2.1.length lus6_1]) (xs := ([s6.2.1] : List (List Int))) rfl rfl rfl rfl rfl rfl Try.underlying23 Tryinfo22 rfl rfl rfl rfl rfl rfl rfl rfl rfl rfl ⟨[.slice las6_1 s6.2.1.length lus6_1], [], Zl K248 w247 [11], Zl K248 w247 [], rfl, Zl.sp (l1 := [11]) (l2 := []) rfl, Zl.sr (l1 := [11]) (l2 := []), ⟨_, _, rfl, f251⟩, rfl⟩ fun a87 u87 w252 K253 S254 f255 => ⟨((S249.tr S254).cl rfl), ?_⟩
       have f256 := f82.stp (S90.tr (S94.tr (S101.tr (S109.tr (S189.tr (S249.tr S254)))))) rfl rfl
       refine WO.app (κ := K253) (E := (Ep.own (Ep.int .i64) 2)) 9 [16] rfl rfl rfl rfl rfl rfl rfl rfl rfl Try.underlying23 Tryinfo22 rfl rfl rfl rfl f256 f255.src (sy_one rfl) hx88 rfl fun a88 u88 w257 K258 S259 f260 => ⟨((S249.tr (S254.tr S259)).cl rfl), ?_⟩
       refine WO.k2 rfl rfl rfl rfl (rn_fieldAddr Try.runUnderlying50 rfl Try.sizeOf23 rfl rfl) ?_
       have f261 := f250.stp (S254.tr S259) rfl rfl
       have f262 := f83.stp (S90.tr (S94.tr (S101.tr (S109.tr (S189.tr (S249.tr (S254.tr S259))))))) rfl rfl
       refine WO.app (κ := K258) (E := (Ep.own (Ep.int .i64) 2)) 10 [15] rfl rfl rfl rfl rfl rfl rfl rfl rfl Try.underlying23 Tryinfo22 rfl rfl rfl rfl f262 f261.src (sy_one rfl) hx93 rfl fun a93 u93 w263 K264 S265 f266 => ⟨((S249.tr (S254.tr (S259.tr S265))).cl rfl), ?_⟩
       refine WO.wa ?_
       refine WA.brk (fuel := 2) 11 (by kernel_rfl) rfl (by kernel_rfl) ?_
       have f267 := f190.stp (S249.tr (S254.tr (S259.tr S265))) rfl rfl
       refine WO.stB (κ := K264) 8 (off := 0) (vc := [.slice a88 x88.length u88]) (cs' := [.slice a88 x88.length u88, .slice las1_2 s1.2.2.2.length lus1_2]) rfl rfl rfl rfl rfl rfl rfl Try.sizeOf23 rfl rfl f267 rfl rfl fun w268 S269 f270 => ⟨trivial, ?_⟩
       refine WO.wa ?_
       refine WA.seg (fuel := 0) [(12, 2), (13, 1)] (by kernel_rfl) (by kernel_rfl) rfl ?_
       refine WO.k2 rfl rfl rfl rfl (rn_fieldAddr Try.runUnderlying50 rfl Try.sizeOf23 rfl rfl) ?_
       refine WO.stB (κ := K264) 8 (off := 1) (vc := [.slice a93 x93.length u93]) (cs' := [.slice a88 x88.length u88, .slice a93 x93.length u93]) rfl rfl rfl rfl rfl rfl rfl Try.sizeOf23 rfl rfl f270 rfl rfl fun w271 S272 f273 => ⟨trivial, ?_⟩
       refine WO.wa ?_
       refine WA.last [] (by kernel_rfl) (by kernel_rfl) rfl ?_
       refine WO.fin ?_
       have f274 := f260.stp (S265.tr (S269.tr S272)) rfl rfl
       have f275 := f266.stp (S269.tr S272) rfl rfl
       exact DN.meet _ ⟨(fun b => ren [(9, 15), (10, 16)] (K264 b)), a88, u88, a93, u93, rfl, (Stp.ren ((S189.tr (S249.tr (S254.tr (S259.tr (S265.tr (S269.tr S272)))))).wk rfl) [(9, 15), (10, 16)] rfl), (f274.map (ren [(9, 15), (10, 16)]) rfl rfl), (f275.map (ren [(9, 15), (10, 16)]) rfl rfl), (f273.map (ren [(9, 15), (10, 16)]) rfl rfl)⟩ fun a ha => (ha.more (ha.more (ha.more (ha.more (ha.more (ha.more ha.nil rfl) rfl) rfl) rfl) rfl) rfl)
     rintro _ w181 ⟨K182, lar184_0, lur184_0, lar184_1, lur184_1, rfl, S183, f185, f186, f187⟩
     refine DN.block ?_
     refine DN.seq ?_
     refine WC.rs [(0, 2), (1, 2), (2, 2)] rfl ?_
     refine WO.pn 3 rfl ?_
     refine WO.fin ?_
     have f276 := f110.stp S183 rfl rfl
     obtain rfl := Option.some.inj h
     refine DN.round fun a ha => ?_
     exact ⟨k, _, Nat.lt_succ_self _, ⟨(fun b => ren [(15, 9), (16, 10)] (K182 b)), ((s6.1 : (List Int)), ((IntKind.i64.wrap (s1.2.1 + 1)) : Int), (x88 : (List (List Int))), (x93 : (List (List Int)))), las6_0, lus6_0, lar184_0, lur184_0, lar184_1, lur184_1, rfl, (Stp.ren ((S80.tr (S90.tr (S94.tr (S101.tr (S109.tr S183))))).wk rfl) [(15, 9), (16, 10)] rfl), (f276.map (ren [(15, 9), (16, 10)]) rfl rfl), (f185.map (ren [(15, 9), (16, 10)]) rfl rfl), (f186.map (ren [(15, 9), (16, 10)]) rfl rfl), (f187.map (ren [(15, 9), (16, 10)]) rfl rfl), hk86⟩, (ha.more (ha.more (ha.more (ha.more (ha.more (ha.more ha.nil rfl) rfl) rfl) rfl) rfl) rfl)⟩
    | false =>
     intro h; replace h := cF h
     refine WC.cf rfl ?_
     refine WC.exit ?_
     refine DN.exitThen ?_
     refine DN.exitThen ?_
     obtain rfl := Option.some.inj h
     have h := hk86
     refine DN.hit ?_
     obtain rfl := Option.some.inj h
     exact DN.meet _ ⟨K79, ((s1.1 : (List Int)), (s1.2.1 : Int), (s1.2.2.1 : (List (List Int))), (s1.2.2.2 : (List (List Int)))), las1_0, lus1_0, las1_1, lus1_1, las1_2, lus1_2, rfl, S80.wk rfl, f81, f82, f83, f84, rfl⟩ fun a ha => (ha.more (ha.more (ha.more ha.nil rfl) rfl) rfl)
  rintro _ w71 ⟨K72, s3, las3_0, lus3_0, las3_1, lus3_1, las3_2, lus3_2, rfl, S73, f74, f75, f76, f77, rfl⟩
  have h := hK69
  dsimp only [aft] at h
  refine DN.seq ?_
  refine WC.seq ?_
  refine WC.seq ?_
  refine WC.rs [(0, 2), (1, 2), (2, 2)] rfl ?_
  refine WO.pn 1 rfl ?_
  refine WO.k2 rfl rfl rfl rfl (rn_len Try.runUnderlying22 rfl rfl) ?_
  refine WO.pn 1 rfl ?_
  refine WO.fin ?_
  refine DN.seq ?_
  revert h
  cases ht277 : decide (48 < (s3.1.length : Int)) with
  | true =>
   intro h; replace h := cT h
   refine WC.ct rfl ?_
   refine WC.seq ?_
   refine WC.rs [(0, 2), (1, 1), (2, 2)] rfl ?_
   refine WO.k2 rfl rfl rfl rfl (rn_build (parts := []) (cells := [.slice none 0 0, .slice none 0 0]) rfl rfl (by kernel_rfl)) ?_
   have f278 := f12.stp (S18.tr (S36.tr (S43.tr (S50.tr (S59.tr (S63.tr (S66.tr S73))))))) rfl rfl
   refine WO.stB0 (κ := K72) 4 (vc := [.slice none 0 0, .slice none 0 0]) rfl rfl rfl rfl rfl rfl rfl Try.sizeOf50 rfl rfl f278 rfl fun w279 S280 f281 => ⟨trivial, ?_⟩
   refine WO.pn 1 rfl ?_
   refine WO.fin ?_
   refine DN.seq ?_
   refine WC.ret ?_
   refine DN.retThen ?_
   have f282 := hE.stp (S3.tr (S7.tr (S11.tr (S18.tr (S36.tr (S43.tr (S50.tr (S59.tr (S63.tr (S66.tr (S73.tr S280))))))))))) rfl rfl
   refine DN.res (l := [.cell 4 50, .tmp 5]) Try.results27 (res_cellA rfl f281 Try.isAgg50 Try.sizeOf50 rfl (res_tmp rfl rfl)) rfl ?_
   obtain rfl := Option.some.inj h
   exact ⟨K72, none, 0, none, 0, rfl, f282, Ow.nil, Ow.nil⟩
  | false =>
   intro h; replace h := cF h
   refine WC.cf rfl ?_
   refine WC.skip ?_
   refine DN.seq ?_
   refine WC.seq ?_
   refine WC.rs [(0, 1), (1, 1), (2, 2)] rfl ?_
   refine WO.k1 trivial rfl rfl rfl rfl (rn_la (cs := [.slice las3_1 s3.2.2.1.length lus3_1, .slice las3_2 s3.2.2.2.length lus3_2]) Try.isAgg50 Try.sizeOf50 rfl rfl rfl (haE f77.cells)) ?_
   have f283 := f12.stp (S18.tr (S36.tr (S43.tr (S50.tr (S59.tr (S63.tr (S66.tr S73))))))) rfl rfl
   refine WO.stB0 (κ := K72) 4 (vc := [.slice las3_1 s3.2.2.1.length lus3_1, .slice las3_2 s3.2.2.2.length lus3_2]) rfl rfl rfl rfl rfl rfl rfl Try.sizeOf50 rfl rfl f283 rfl fun w284 S285 f286 => ⟨trivial, ?_⟩
   refine WO.pn 1 rfl ?_
   refine WO.fin ?_
   refine DN.seq ?_
   refine WC.ret ?_
   have f287 := hE.stp (S3.tr (S7.tr (S11.tr (S18.tr (S36.tr (S43.tr (S50.tr (S59.tr (S63.tr (S66.tr (S73.tr S285))))))))))) rfl rfl
   have f288 := f75.stp S285 rfl rfl
   have f289 := f76.stp S285 rfl rfl
   refine DN.res (l := [.cell 4 50, .tmp 5]) Try.results27 (res_cellA rfl f286 Try.isAgg50 Try.sizeOf50 rfl (res_tmp rfl rfl)) rfl ?_
   obtain rfl := Option.some.inj h
   exact ⟨(fun b => ren [(9, 2), (10, 3)] (K72 b)), las3_1, lus3_1, las3_2, lus3_2, rfl, (f287.map (ren [(9, 2), (10, 3)]) rfl rfl), (f288.map (ren [(9, 2), (10, 3)]) rfl rfl), (f289.map (ren [(9, 2), (10, 3)]) rfl rfl)⟩

end Go.Proofs.Ytfmkhnlnomkcfaa
