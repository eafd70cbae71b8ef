/- The walks, part 3. By program. -/
import Derived.Test.YtfmkhnlnomkcfaaFnsC52
set_option linter.unusedVariables false
set_option linter.unusedSimpArgs false
namespace Go.Proofs.Ytfmkhnlnomkcfaa
open Go Go.Wk Go.Proofs
set_option maxRecDepth 100000
set_option maxHeartbeats 1000000

/- loop.example/g00869/spec.CircuitMeets -/
theorem s_CircuitMeets_ok {w : World} {κ : Col} {p0 : Sig} {a1_2 : Option Addr} {u1_2 : Nat} {a1_3 : Option Addr} {u1_3 : Nat} {a1_4 : Option Addr} {u1_4 : Nat} {p1 : Circuit} {a2_0 : Option Addr} {u2_0 : Nat} {a2_1 : Option Addr} {u2_1 : Nat} {p2 : Machine} (g1_2 : Rd (Rp.int .i64) κ w 0 a1_2 u1_2 p1.Next) (g1_3 : Rd Gate.rp κ w 0 a1_3 u1_3 p1.Gates) (g1_4 : Rd (Rp.int .i64) κ w 0 a1_4 u1_4 p1.Outs) (g2_0 : Rd (Rp.sl (Rp.int .i64)) κ w 0 a2_0 u2_0 p2.Next) (g2_1 : Rd (Rp.sl (Rp.int .i64)) κ w 0 a2_1 u2_1 p2.Out) {r : Bool} (h : s_CircuitMeets p0 p1 p2 = some r) : Ret Try.prog 34 [.agg #[.int .i64 p0.In, .int .i64 p0.Out], .agg #[.int .i64 p1.Inputs, .int .i64 p1.Latches, .slice a1_2 p1.Next.length u1_2, .slice a1_3 p1.Gates.length u1_3, .slice a1_4 p1.Outs.length u1_4], .agg #[.slice a2_0 p2.Next.length u2_0, .slice a2_1 p2.Out.length u2_1]] w (fun v w' => ∃ (κ' : Col), v = .bool r ∧ Ent κ w κ' w') := by
 unfold s_CircuitMeets at h
 refine Ret.enter Try.func34 rfl Try.ntmps34 rfl ?_
 dsimp only [envOf]
 have hE := Ent.refl κ w
 refine WC.seq ?_
 refine WC.rs [(0, 1), (1, 1), (2, 1), (3, 2)] rfl ?_
 refine WO.box (κ := κ) 2 rfl rfl rfl rfl rfl rfl rfl fun b3 w1 K2 S3 f4 => ⟨trivial, ?_⟩
 refine WO.box (κ := K2) 3 rfl rfl rfl rfl rfl rfl rfl fun b4 w5 K6 S7 f8 => ⟨trivial, ?_⟩
 refine WO.box (κ := K6) 4 rfl rfl rfl rfl rfl rfl rfl fun b5 w9 K10 S11 f12 => ⟨trivial, ?_⟩
 refine WO.pn 1 rfl ?_
 refine WO.fin ?_
 refine DN.seq ?_
 refine WC.seq ?_
 refine WC.seq ?_
 refine WC.rs [(0, 1), (1, 1), (2, 1), (3, 2), (4, 2), (5, 1), (6, 1), (7, 1), (8, 2), (9, 2)] rfl ?_
 have f13 := f4.stp (S7.tr S11) rfl rfl
 refine WO.k1 trivial rfl rfl rfl rfl (rn_la (cs := [.int .i64 p0.In, .int .i64 p0.Out]) Try.isAgg53 Try.sizeOf53 rfl rfl rfl (haE f13.cells)) ?_
 refine WO.k1 trivial rfl rfl rfl rfl (rn_la (cs := [.slice a2_0 p2.Next.length u2_0, .slice a2_1 p2.Out.length u2_1]) Try.isAgg50 Try.sizeOf50 rfl rfl rfl (haE f12.cells)) ?_
 obtain ⟨x17, hx17, h⟩ := Option.bind_eq_some_iff.mp h
 have f14 := g2_0.stp (S3.tr (S7.tr S11)) rfl rfl
 have f15 := g2_1.stp (S3.tr (S7.tr S11)) rfl rfl
 refine WO.call rfl rfl rfl rfl rfl rfl Try.call77 (s_MachineOk_ok (κ := fun b => mp [] 0 (K10 b)) (p0 := p0) (p1 := p2) (Sl.map f14 (mp [] 0) rfl rfl) (Sl.map f15 (mp [] 0) rfl rfl) hx17) ?_
 rintro _ w16 ⟨k17, rfl, e18⟩
 obtain ⟨K19, S20, m21⟩ := Ent.mixed (l := []) (κ := K10) e18 5 rfl
 refine ⟨trivial, ?_⟩
 refine WO.pn 2 rfl ?_
 obtain ⟨p24, h, hK23⟩ := Option.bind_eq_some_iff.mp h
 refine WO.meet [(5, 1), (6, 1), (7, 1), (8, 2), (9, 2)] [] (fun L w' => L = [(3, .pointer (some ⟨b3, 0, none⟩)), (4, .pointer (some ⟨b4, 0, none⟩)), (5, .pointer (some ⟨b5, 0, none⟩)), (24, .bool p24)] ∧ ∃ κ', Stp [] K19 w16 κ' w') trivial ?_ ?_
 ·
  revert h
  cases ht24 : (!x17) with
  | true =>
   intro h; replace h := cT h
   refine WO.ls rfl rfl rfl rfl ?_
   refine WO.ls rfl rfl rfl rfl ?_
   refine WO.ls rfl rfl rfl rfl ?_
   refine WO.pn 2 rfl ?_
   obtain rfl := Option.some.inj h
   exact WO.met _ trivial ⟨rfl, _, (Stp.refl _ _).wk rfl⟩ fun a ha => (ha.more (ha.more (ha.more (ha.more ha.nil rfl) rfl) rfl) rfl)
  | false =>
   intro h; replace h := cF h
   have f25 := f13.stp S20 rfl rfl
   refine WO.k1 trivial rfl rfl rfl rfl (rn_la (cs := [.int .i64 p0.In, .int .i64 p0.Out]) Try.isAgg53 Try.sizeOf53 rfl rfl rfl (haE f25.cells)) ?_
   have f26 := f8.stp (S11.tr S20) rfl rfl
   refine WO.k1 trivial rfl rfl rfl rfl (rn_la (cs := [.int .i64 p1.Inputs, .int .i64 p1.Latches, .slice a1_2 p1.Next.length u1_2, .slice a1_3 p1.Gates.length u1_3, .slice a1_4 p1.Outs.length u1_4]) Try.isAgg57 Try.sizeOf57 rfl rfl rfl (haE f26.cells)) ?_
   obtain ⟨x22, hx22, h⟩ := Option.bind_eq_some_iff.mp h
   have f27 := g1_2.stp (S3.tr (S7.tr (S11.tr S20))) rfl rfl
   have f28 := g1_3.stp (S3.tr (S7.tr (S11.tr S20))) rfl rfl
   have f29 := g1_4.stp (S3.tr (S7.tr (S11.tr S20))) rfl rfl
   refine WO.call rfl rfl rfl rfl rfl rfl Try.call100 (s_l31Fits_ok (κ := fun b => mp [] 0 (K19 b)) (p0 := p0) (p1 := p1) (Sl.map f27 (mp [] 0) rfl rfl) (Sl.map f28 (mp [] 0) rfl rfl) (Sl.map f29 (mp [] 0) rfl rfl) hx22) ?_
   rintro _ w30 ⟨k31, rfl, e32⟩
   obtain ⟨K33, S34, m35⟩ := Ent.mixed (l := []) (κ := K19) e32 7 rfl
   refine ⟨trivial, ?_⟩
   refine WO.pn 2 rfl ?_
   obtain rfl := Option.some.inj h
   exact WO.met _ trivial ⟨rfl, _, S34.wk rfl⟩ fun a ha => (ha.more (ha.more (ha.more (ha.more ha.nil rfl) rfl) rfl) rfl)
 rintro _ w37 _ ⟨rfl, K38, S39⟩
 have h := hK23
 refine WO.fin ?_
 refine DN.seq ?_
 revert h
 cases ht40 : p24 with
 | true =>
  intro h; replace h := cT h
  refine WC.ct rfl ?_
  refine WC.seq ?_
  refine WC.rs [(0, 2)] rfl ?_
  refine WO.pn 1 rfl ?_
  refine WO.fin ?_
  refine DN.seq ?_
  refine WC.ret ?_
  refine DN.retThen ?_
  have f41 := hE.stp (S3.tr (S7.tr (S11.tr (S20.tr S39)))) rfl rfl
  refine DN.res (l := [.tmp 6]) Try.results34 (res_tmp rfl rfl) rfl ?_
  obtain rfl := Option.some.inj h
  exact ⟨K38, rfl, f41⟩
 | false =>
  intro h; replace h := cF h
  refine WC.cf rfl ?_
  refine WC.skip ?_
  refine DN.seq ?_
  refine WC.seq ?_
  refine WC.rs [(0, 2), (1, 1), (2, 2), (3, 2)] rfl ?_
  refine WO.k2 rfl rfl rfl rfl (rn_fieldAddr Try.runUnderlying50 rfl Try.sizeOf23 rfl rfl) ?_
  have f42 := f12.stp (S20.tr S39) rfl rfl
  refine WO.k1 trivial rfl rfl rfl rfl (rn_ld Try.isAgg23 rfl rfl (hvE (f42.ld 0 rfl rfl))) ?_
  refine WO.k2 rfl rfl rfl rfl (rn_len Try.runUnderlying23 rfl rfl) ?_
  refine WO.pn 1 rfl ?_
  refine WO.fin ?_
  refine DN.seq ?_
  refine WC.seq ?_
  refine WC.rs [(0, 2), (1, 2), (2, 1), (3, 1), (4, 2), (5, 1), (6, 2)] rfl ?_
  refine WO.pn 1 rfl ?_
  refine WO.k2 rfl rfl rfl rfl (rn_fieldAddr Try.runUnderlying57 rfl Try.sizeOf2 rfl rfl) ?_
  have f43 := f8.stp (S11.tr (S20.tr S39)) rfl rfl
  refine WO.k1 trivial rfl rfl rfl rfl (rn_ld Try.isAgg2 rfl rfl (hvE (f43.ld 1 rfl rfl))) ?_
  obtain ⟨x31, hx31, h⟩ := Option.bind_eq_some_iff.mp h
  refine WO.call rfl rfl rfl rfl rfl rfl Try.call101 (s_l31Pow_ok (κ := fun b => mp [] 0 (K38 b)) hx31) ?_
  rintro _ w44 ⟨k45, rfl, e46⟩
  obtain ⟨K47, S48, m49⟩ := Ent.mixed (l := []) (κ := K38) e46 7 rfl
  refine ⟨trivial, ?_⟩
  refine WO.pn 1 rfl ?_
  obtain ⟨x33, hx33, h⟩ := Option.bind_eq_some_iff.mp h
  refine WO.mk (κ := K47) (E := Ep.bool) (z := (false : Bool)) 9 rfl rfl rfl rfl rfl rfl rfl Try.underlying131 Tryinfo4 rfl rfl rfl rfl rfl (fun _ _ _ => rfl) (mkS_C hx33) fun a33 u33 w51 K52 S53 f54 => ⟨trivial, ?_⟩
  refine WO.pn 1 rfl ?_
  refine WO.fin ?_
  refine DN.seq ?_
  refine WC.seq ?_
  refine WC.rs [(0, 1), (1, 2)] rfl ?_
  refine WO.bl (κ := K52) (E := (Ep.int .i64)) 10 [] (parts := [(0, .const (.int .i64 0))]) (cells := [.int .i64 0]) (xs := ([0] : List Int)) rfl rfl rfl rfl rfl rfl Try.underlying22 Tryinfo2 rfl rfl rfl rfl rfl rfl rfl rfl rfl rfl ⟨[.int .i64 0], [], Zl K52 w51 [], Zl K52 w51 [], rfl, Zl.sp (l1 := []) (l2 := []) rfl, Zl.sr (l1 := []) (l2 := []), rfl, rfl⟩ fun a34 u34 w55 K56 S57 f58 => ⟨trivial, ?_⟩
  refine WO.pn 1 rfl ?_
  refine WO.fin ?_
  refine DN.seq ?_
  refine WC.seq ?_
  refine WC.rs [(0, 2), (1, 2), (2, 1)] rfl ?_
  refine WO.pn 1 rfl ?_
  obtain ⟨x36, hx36, h⟩ := Option.bind_eq_some_iff.mp h
  refine WO.k2 rfl rfl rfl rfl (rn_index f54.rdc hx36 Try.runUnderlying131 Try.sizeOf4 rfl rfl rfl rfl) ?_
  have f59 := f54.stp S57 rfl rfl
  obtain ⟨y8, hy8, h⟩ := Option.bind_eq_some_iff.mp h
  refine WO.stI (κ := K56) (E := Ep.bool) 9 [] rfl rfl rfl rfl rfl rfl rfl rfl Try.sizeOf4 rfl rfl rfl rfl f59 hy8 fun w60 K61 S62 f63 => ⟨trivial, ?_⟩
  have hn64 : x33.length = y8.length := (setI_ok hy8).2.2.2.symm
  refine WO.fin ?_
  refine DN.seq ?_
  refine WC.seq ?_
  obtain ⟨q2, hq67, hK66⟩ := Option.bind_eq_some_iff.mp h
  clear h
  refine WC.meet (fun L w' => ∃ (κ' : Col) (s3 : (List Int) × (List Bool)) (las3_0 : Option Addr) (lus3_0 : Nat), L = [] ∧ Stp [9, 10] K61 w60 κ' w' ∧ Oc (Ep.int .i64) 2 κ' w' 10 las3_0 lus3_0 s3.1 ∧ Oc Ep.bool 4 κ' w' 9 a33 u33 s3.2 ∧ x33.length = s3.2.length ∧ q2 = Sum.inr s3) ?_ ?_
  ·
   refine WC.block ?_
   have f80 := f58.stp S62 rfl rfl
   refine WC.loop (fun k L w' => ∃ (κ' : Col) (s1 : (List Int) × (List Bool)) (las1_0 : Option Addr) (lus1_0 : Nat), L = [(3, .pointer (some ⟨b3, 0, none⟩)), (4, .pointer (some ⟨b4, 0, none⟩)), (5, .pointer (some ⟨b5, 0, none⟩)), (7, .int .i64 (p2.Next.length : Int)), (8, .slice a33 x33.length u33), (9, .slice las1_0 s1.1.length lus1_0)] ∧ Stp [9, 10] K61 w60 κ' w' ∧ Oc (Ep.int .i64) 2 κ' w' 10 las1_0 lus1_0 s1.1 ∧ Oc Ep.bool 4 κ' w' 9 a33 u33 s1.2 ∧ x33.length = s1.2.length ∧ whileM (s_CircuitMeets_b0 p0 p1 p2) k s1 = some q2) ⟨_, _, ⟨K61, ((([0] : List Int) : (List Int)), (y8 : (List Bool))), a34, u34, rfl, (Stp.refl _ _).wk rfl, f80, f63, hn64, hq67⟩, fun a ha => (ha.more (ha.more (ha.more (ha.more (ha.more (ha.more ha.nil rfl) rfl) rfl) rfl) rfl) rfl)⟩ ?_
   rintro k _ w74 ⟨K75, s1, las1_0, lus1_0, rfl, S76, f77, f78, hn79, h⟩
   rcases k with _ | k
   ·
    cases h
   ·
    obtain ⟨o65, h, hk81⟩ := Option.bind_eq_some_iff.mp h; unfold s_CircuitMeets_b0 at h
    refine WC.seq ?_
    refine WC.seq ?_
    refine WC.rs [(0, 2), (1, 2), (2, 2)] rfl ?_
    refine WO.pn 1 rfl ?_
    refine WO.k2 rfl rfl rfl rfl (rn_len Try.runUnderlying22 rfl rfl) ?_
    refine WO.pn 1 rfl ?_
    refine WO.fin ?_
    refine DN.seq ?_
    revert h
    cases ht82 : decide (0 < (s1.1.length : Int)) with
    | true =>
     intro h; replace h := cT h
     refine WC.ct rfl ?_
     refine WC.skip ?_
     refine DN.seq ?_
     refine WC.block ?_
     refine WC.seq ?_
     refine WC.rs [(0, 2), (1, 2), (2, 1), (3, 2)] rfl ?_
     refine WO.pn 1 rfl ?_
     obtain ⟨x41, hx41, h⟩ := Option.bind_eq_some_iff.mp h
     refine WO.k2 rfl rfl rfl rfl (rn_index f77.rdc hx41 Try.runUnderlying22 Try.sizeOf2 rfl rfl rfl rfl) ?_
     refine WO.k1 trivial rfl rfl rfl rfl (rn_ld Try.isAgg2 rfl rfl (hvE (f77.rdc.gInt hx41))) ?_
     refine WO.pn 1 rfl ?_
     refine WO.fin ?_
     refine DN.seq ?_
     refine WC.seq ?_
     refine WC.rs [(0, 2), (1, 2), (2, 2)] rfl ?_
     refine WO.pn 1 rfl ?_
     obtain ⟨x44, hx44, h⟩ := Option.bind_eq_some_iff.mp h
     refine WO.k2 rfl rfl rfl rfl (rn_slice (k1 := .i64) (k2 := .i64) Try.runUnderlying22 Try.sizeOf2 (.inr ⟨_, rfl, rfl⟩) (.inl ⟨rfl, rfl⟩) hx44 f77.rdc.1 rfl rfl rfl) ?_
     have f83 := f77.sub hx44
     refine WO.pn 1 rfl ?_
     refine WO.fin ?_
     refine DN.seq ?_
     refine WC.seq ?_
     refine WC.rs [(0, 2)] rfl ?_
     refine WO.pn 1 rfl ?_
     refine WO.fin ?_
     refine DN.seq ?_
     obtain ⟨q5, hq86, hK85⟩ := Option.bind_eq_some_iff.mp h
     clear h
     refine WC.meet (fun L w' => ∃ (κ' : Col) (s6 : (List Int) × Int × (List Bool)) (las6_0 : Option Addr) (lus6_0 : Nat), L = [(3, .pointer (some ⟨b3, 0, none⟩)), (4, .pointer (some ⟨b4, 0, none⟩)), (5, .pointer (some ⟨b5, 0, none⟩)), (7, .int .i64 (p2.Next.length : Int)), (8, .slice a33 x33.length u33), (9, .slice las6_0 s6.1.length lus6_0)] ∧ Stp [9, 10] K75 w74 κ' w' ∧ Oc (Ep.int .i64) 2 κ' w' 10 las6_0 lus6_0 s6.1 ∧ Oc Ep.bool 4 κ' w' 9 a33 u33 s6.2.2 ∧ x33.length = s6.2.2.length ∧ q5 = Sum.inr s6) ?_ ?_
     ·
      refine WC.block ?_
      refine WC.loop (fun k L w' => ∃ (κ' : Col) (s4 : (List Int) × Int × (List Bool)) (las4_0 : Option Addr) (lus4_0 : Nat), L = [(3, .pointer (some ⟨b3, 0, none⟩)), (4, .pointer (some ⟨b4, 0, none⟩)), (5, .pointer (some ⟨b5, 0, none⟩)), (7, .int .i64 (p2.Next.length : Int)), (8, .slice a33 x33.length u33), (9, .slice las4_0 s4.1.length lus4_0), (10, .int .i64 x41), (11, .int .i64 s4.2.1)] ∧ Stp [9, 10] K75 w74 κ' w' ∧ Oc (Ep.int .i64) 2 κ' w' 10 las4_0 lus4_0 s4.1 ∧ Oc Ep.bool 4 κ' w' 9 a33 u33 s4.2.2 ∧ x33.length = s4.2.2.length ∧ whileM (s_CircuitMeets_b2 p0 p1 p2 x41) k s4 = some q5) ⟨_, _, ⟨K75, ((x44 : (List Int)), (0 : Int), (s1.2 : (List Bool))), (subA las1_0 lus1_0 (1 : Int).toNat 1), (lus1_0 - (1 : Int).toNat), rfl, (Stp.refl _ _).wk rfl, f83, f78, hn79, hq86⟩, fun a ha => (ha.more (ha.more (ha.more (ha.more (ha.more (ha.more (ha.more (ha.more ha.nil rfl) rfl) rfl) rfl) rfl) rfl) rfl) rfl)⟩ ?_
      rintro k _ w93 ⟨K94, s4, las4_0, lus4_0, rfl, S95, f96, f97, hn98, h⟩
      rcases k with _ | k
      ·
       cases h
      ·
       obtain ⟨o84, h, hk99⟩ := Option.bind_eq_some_iff.mp h; unfold s_CircuitMeets_b2 at h
       refine WC.seq ?_
       refine WC.seq ?_
       refine WC.rs [(0, 2), (1, 2), (2, 1), (3, 1), (4, 2)] rfl ?_
       refine WO.pn 1 rfl ?_
       refine WO.k2 rfl rfl rfl rfl (rn_fieldAddr Try.runUnderlying53 rfl Try.sizeOf2 rfl rfl) ?_
       have f100 := f13.stp (S20.tr (S39.tr (S48.tr (S53.tr (S57.tr (S62.tr (S76.tr S95))))))) rfl rfl
       refine WO.k1 trivial rfl rfl rfl rfl (rn_ld Try.isAgg2 rfl rfl (hvE (f100.ld 0 rfl rfl))) ?_
       obtain ⟨x48, hx48, h⟩ := Option.bind_eq_some_iff.mp h
       refine WO.call rfl rfl rfl rfl rfl rfl Try.call101 (s_l31Pow_ok (κ := fun b => mp [] 0 (K94 b)) hx48) ?_
       rintro _ w101 ⟨k102, rfl, e103⟩
       obtain ⟨K104, S105, m106⟩ := Ent.mixed (l := []) (κ := K94) e103 11 rfl
       refine ⟨trivial, ?_⟩
       refine WO.pn 1 rfl ?_
       refine WO.fin ?_
       refine DN.seq ?_
       revert h
       cases ht108 : decide (s4.2.1 < x48) with
       | true =>
        intro h; replace h := cT h
        refine WC.ct rfl ?_
        refine WC.skip ?_
        refine DN.seq ?_
        refine WC.seq ?_
        refine WC.block ?_
        refine WC.seq ?_
        refine WC.rx (κ := K104) [3] none [(1, 2), (2, 2), (3, 2), (4, 2), (0, 0), (5, 1), (6, 2), (7, 2), (8, 2), (9, 2), (10, 2)] [] (by kernel_rfl) (by kernel_rfl) fun w110 S109 => ?_
        refine WO.pn 2 rfl ?_
        obtain ⟨_z56, hz56, h⟩ := Option.bind_eq_some_iff.mp h
        refine WO.k2 rfl rfl rfl rfl (rn_quo rfl rfl rfl (nz_ok hz56)) ?_
        refine WO.pn 1 rfl ?_
        have f111 := f43.stp (S48.tr (S53.tr (S57.tr (S62.tr (S76.tr (S95.tr (S105.tr S109))))))) rfl rfl
        refine WO.k0 rfl rfl rfl rfl (rn_la (cs := [.int .i64 p1.Inputs, .int .i64 p1.Latches, .slice a1_2 p1.Next.length u1_2, .slice a1_3 p1.Gates.length u1_3, .slice a1_4 p1.Outs.length u1_4]) Try.isAgg57 Try.sizeOf57 rfl rfl rfl (haC f111.cells rfl)) ?_
        obtain ⟨x58, hx58, h⟩ := Option.bind_eq_some_iff.mp h
        have f112 := g1_2.stp (S3.tr (S7.tr (S11.tr (S20.tr (S39.tr (S48.tr (S53.tr (S57.tr (S62.tr (S76.tr (S95.tr (S105.tr S109)))))))))))) rfl rfl
        have f113 := g1_3.stp (S3.tr (S7.tr (S11.tr (S20.tr (S39.tr (S48.tr (S53.tr (S57.tr (S62.tr (S76.tr (S95.tr (S105.tr S109)))))))))))) rfl rfl
        have f114 := g1_4.stp (S3.tr (S7.tr (S11.tr (S20.tr (S39.tr (S48.tr (S53.tr (S57.tr (S62.tr (S76.tr (S95.tr (S105.tr S109)))))))))))) rfl rfl
        refine WO.call rfl rfl rfl rfl rfl rfl Try.call102 (s_l31Step_ok (κ := fun b => mp [] 0 (K104 b)) (p0 := p1) (Sl.map f112 (mp [] 0) rfl rfl) (Sl.map f113 (mp [] 0) rfl rfl) (Sl.map f114 (mp [] 0) rfl rfl) hx58) ?_
        rintro _ w115 ⟨k116, rfl, e117⟩
        obtain ⟨K118, S119, m120⟩ := Ent.mixed (l := []) (κ := K104) e117 13 rfl
        refine ⟨(S119.cl rfl), ?_⟩
        refine WO.pn 5 rfl ?_
        refine WO.nx ?_
        refine WO.fin ?_
        refine DN.seq ?_
        refine WC.seq ?_
        refine WC.seq ?_
        refine WC.rx (κ := K118) [0, 4] none [(0, 2), (1, 2), (3, 2), (4, 2), (5, 2), (8, 2), (2, 0), (6, 2), (7, 0), (9, 2), (10, 0), (11, 2)] [] (by kernel_rfl) (by kernel_rfl) fun w123 S122 => ?_
        refine WO.pn 1 rfl ?_
        refine WO.k2 rfl rfl rfl rfl (rn_fieldAddr Try.runUnderlying50 rfl Try.sizeOf23 rfl rfl) ?_
        refine WO.pn 2 rfl ?_
        obtain ⟨_z66, hz66, h⟩ := Option.bind_eq_some_iff.mp h
        refine WO.k2 rfl rfl rfl rfl (rn_rem rfl rfl rfl (nz_ok hz66)) ?_
        refine WO.pn 1 rfl ?_
        have f124 := f42.stp (S48.tr (S53.tr (S57.tr (S62.tr (S76.tr (S95.tr (S105.tr (S109.tr (S119.tr S122))))))))) rfl rfl
        refine WO.k0 rfl rfl rfl rfl (rn_ld Try.isAgg23 rfl rfl (hvC (f124.ld 1 rfl rfl) rfl)) ?_
        obtain ⟨x67, hx67, h⟩ := Option.bind_eq_some_iff.mp h
        refine WO.k2 rfl rfl rfl rfl (rn_index f15 hx67 Try.runUnderlying23 Try.sizeOf22 rfl rfl rfl rfl) ?_
        have f125 := f15.stp (S20.tr (S39.tr (S48.tr (S53.tr (S57.tr (S62.tr (S76.tr (S95.tr (S105.tr (S109.tr (S119.tr S122))))))))))) rfl rfl
        obtain ⟨ax67, ux67, f126, hl127⟩ := f125.gSl hx67
        refine WO.k0 rfl rfl rfl rfl (rn_ld Try.isAgg22 rfl rfl (hvC hl127 rfl)) ?_
        obtain ⟨x70, hx70, h⟩ := Option.bind_eq_some_iff.mp h
        refine WO.k2 rfl rfl rfl rfl (rn_index f126 hx70 Try.runUnderlying22 Try.sizeOf2 rfl rfl rfl rfl) ?_
        refine WO.k0 rfl rfl rfl rfl (rn_ld Try.isAgg2 rfl rfl (hvC (f126.gInt hx70) rfl)) ?_
        refine WO.pn 1 rfl ?_
        refine WO.nx ?_
        refine WO.fin ?_
        refine DN.seq ?_
        revert h
        cases ht128 : (x58.2 != x70) with
        | true =>
         intro h; replace h := cT h
         refine WC.ct rfl ?_
         refine WC.seq ?_
         refine WC.rs [(0, 2)] rfl ?_
         refine WO.pn 1 rfl ?_
         refine WO.fin ?_
         refine DN.seq ?_
         refine WC.ret ?_
         refine DN.retThen ?_
         refine DN.retBlock ?_
         refine DN.retThen ?_
         refine DN.retThen ?_
         obtain rfl := Option.some.inj h
         obtain rfl := Option.some.inj hk99
         have h := hK85
         dsimp only [aft] at h
         refine DN.retBlock ?_
         refine DN.retMeet ?_
         refine DN.retBlock ?_
         refine DN.retThen ?_
         obtain rfl := Option.some.inj h
         obtain rfl := Option.some.inj hk81
         have h := hK66
         dsimp only [aft] at h
         refine DN.retBlock ?_
         refine DN.retMeet ?_
         refine DN.retThen ?_
         have f129 := hE.stp (S3.tr (S7.tr (S11.tr (S20.tr (S39.tr (S48.tr (S53.tr (S57.tr (S62.tr (S76.tr (S95.tr (S105.tr (S109.tr (S119.tr S122)))))))))))))) rfl rfl
         refine DN.res (l := [.tmp 6]) Try.results34 (res_tmp rfl rfl) rfl ?_
         obtain rfl := Option.some.inj h
         exact ⟨K118, rfl, f129⟩
        | false =>
         intro h; replace h := cF h
         refine WC.cf rfl ?_
         refine WC.skip ?_
         refine DN.seq ?_
         refine WC.seq ?_
         refine WC.rx (κ := K118) [0, 4] none [(0, 2), (1, 2), (2, 2), (3, 2), (5, 2), (6, 2), (7, 2), (10, 2), (4, 0), (8, 2), (9, 0), (11, 2), (12, 0), (13, 2), (14, 2)] [] (by kernel_rfl) (by kernel_rfl) fun w131 S130 => ?_
         refine WO.pn 3 rfl ?_
         refine WO.k2 rfl rfl rfl rfl (rn_fieldAddr Try.runUnderlying50 rfl Try.sizeOf23 rfl rfl) ?_
         refine WO.pn 2 rfl ?_
         obtain ⟨_z80, hz80, h⟩ := Option.bind_eq_some_iff.mp h
         refine WO.k2 rfl rfl rfl rfl (rn_rem rfl rfl rfl (nz_ok hz80)) ?_
         refine WO.pn 1 rfl ?_
         have f132 := f124.stp S130 rfl rfl
         refine WO.k0 rfl rfl rfl rfl (rn_ld Try.isAgg23 rfl rfl (hvC (f132.ld 0 rfl rfl) rfl)) ?_
         obtain ⟨x81, hx81, h⟩ := Option.bind_eq_some_iff.mp h
         refine WO.k2 rfl rfl rfl rfl (rn_index f14 hx81 Try.runUnderlying23 Try.sizeOf22 rfl rfl rfl rfl) ?_
         have f133 := f14.stp (S20.tr (S39.tr (S48.tr (S53.tr (S57.tr (S62.tr (S76.tr (S95.tr (S105.tr (S109.tr (S119.tr (S122.tr S130)))))))))))) rfl rfl
         obtain ⟨ax81, ux81, f134, hl135⟩ := f133.gSl hx81
         refine WO.k0 rfl rfl rfl rfl (rn_ld Try.isAgg22 rfl rfl (hvC hl135 rfl)) ?_
         obtain ⟨x84, hx84, h⟩ := Option.bind_eq_some_iff.mp h
         refine WO.k2 rfl rfl rfl rfl (rn_index f134 hx84 Try.runUnderlying22 Try.sizeOf2 rfl rfl rfl rfl) ?_
         refine WO.k0 rfl rfl rfl rfl (rn_ld Try.isAgg2 rfl rfl (hvC (f134.gInt hx84) rfl)) ?_
         refine WO.pn 2 rfl ?_
         refine WO.nx ?_
         refine WO.fin ?_
         refine DN.seq ?_
         refine WC.seq ?_
         refine WC.rs [(0, 2), (1, 2), (2, 2), (3, 1), (4, 2)] rfl ?_
         refine WO.pn 2 rfl ?_
         obtain ⟨x89, hx89, h⟩ := Option.bind_eq_some_iff.mp h
         refine WO.k2 rfl rfl rfl rfl (rn_index f97.rdc hx89 Try.runUnderlying131 Try.sizeOf4 rfl rfl hn98 rfl) ?_
         have f136 := f97.stp (S105.tr (S109.tr (S119.tr (S122.tr S130)))) rfl rfl
         refine WO.k1 trivial rfl rfl rfl rfl (rn_ld Try.isAgg4 rfl rfl (hvE (f136.rdc.gBool hx89))) ?_
         refine WO.pn 1 rfl ?_
         refine WO.fin ?_
         refine DN.seq ?_
         obtain ⟨q7, h, hK137⟩ := Option.bind_eq_some_iff.mp h
         refine WC.meet (fun L w' => ∃ (κ' : Col) (laq7_0 : Option Addr) (luq7_0 : Nat), L = [(3, .pointer (some ⟨b3, 0, none⟩)), (4, .pointer (some ⟨b4, 0, none⟩)), (5, .pointer (some ⟨b5, 0, none⟩)), (7, .int .i64 (p2.Next.length : Int)), (8, .slice a33 x33.length u33), (9, .slice laq7_0 q7.1.length luq7_0), (10, .int .i64 x41), (11, .int .i64 s4.2.1)] ∧ Stp [9, 10] K118 w131 κ' w' ∧ Oc (Ep.int .i64) 2 κ' w' 10 laq7_0 luq7_0 q7.1 ∧ Oc Ep.bool 4 κ' w' 9 a33 u33 q7.2 ∧ x33.length = q7.2.length) ?_ ?_
         ·
          revert h
          cases ht144 : (!x89) with
          | true =>
           intro h; replace h := cT h
           refine WC.ct rfl ?_
           refine WC.seq ?_
           refine WC.rs [(0, 2), (1, 2), (2, 2), (3, 1)] rfl ?_
           refine WO.pn 2 rfl ?_
           obtain ⟨x94, hx94, h⟩ := Option.bind_eq_some_iff.mp h
           refine WO.k2 rfl rfl rfl rfl (rn_index f136.rdc hx94 Try.runUnderlying131 Try.sizeOf4 rfl rfl hn98 rfl) ?_
           obtain ⟨y13, hy13, h⟩ := Option.bind_eq_some_iff.mp h
           refine WO.stI (κ := K118) (E := Ep.bool) 9 [] rfl rfl rfl rfl rfl rfl rfl rfl Try.sizeOf4 rfl rfl rfl rfl f136 hy13 fun w145 K146 S147 f148 => ⟨trivial, ?_⟩
           have hn149 : x33.length = y13.length := hn98.trans (setI_ok hy13).2.2.2.symm
           refine WO.fin ?_
           refine DN.seq ?_
           refine WC.rs [(0, 2), (1, 2), (2, 1), (3, 1), (4, 2)] rfl ?_
           refine WO.pn 2 rfl ?_
           refine WO.bl (κ := K146) (E := (Ep.int .i64)) 15 [] (parts := [(0, .tmp 96)]) (cells := [.int .i64 (IntKind.i64.wrap ((IntKind.i64.wrap (x58.1 * (p2.Next.length : Int))) + x84))]) (xs := ([(IntKind.i64.wrap ((IntKind.i64.wrap (x58.1 * (p2.Next.length : Int))) + x84))] : List Int)) rfl rfl rfl rfl rfl rfl Try.underlying22 Tryinfo2 rfl rfl rfl rfl rfl rfl rfl rfl rfl rfl ⟨[.int .i64 (IntKind.i64.wrap ((IntKind.i64.wrap (x58.1 * (p2.Next.length : Int))) + x84))], [], Zl K146 w145 [], Zl K146 w145 [], rfl, Zl.sp (l1 := []) (l2 := []) rfl, Zl.sr (l1 := []) (l2 := []), rfl, rfl⟩ fun a97 u97 w150 K151 S152 f153 => ⟨trivial, ?_⟩
           obtain ⟨x98, hx98, h⟩ := Option.bind_eq_some_iff.mp h
           have f154 := f96.stp (S105.tr (S109.tr (S119.tr (S122.tr (S130.tr (S147.tr S152)))))) rfl rfl
           refine WO.app (κ := K151) (E := (Ep.int .i64)) 10 [] rfl rfl rfl rfl rfl rfl rfl rfl rfl Try.underlying22 Tryinfo2 rfl rfl rfl rfl f154 (Sl.srcP (pu_int _) f153.rdc) sy_false hx98 rfl fun a98 u98 w155 K156 S157 f158 => ⟨trivial, ?_⟩
           refine WO.pn 1 rfl ?_
           refine WO.fin ?_
           have f159 := f148.stp (S152.tr S157) rfl rfl
           obtain rfl := Option.some.inj h
           exact DN.meet _ ⟨K156, a98, u98, rfl, (S147.tr (S152.tr S157)).wk rfl, f158, f159, hn149⟩ fun a ha => (ha.more (ha.more (ha.more (ha.more (ha.more (ha.more (ha.more (ha.more ha.nil rfl) rfl) rfl) rfl) rfl) rfl) rfl) rfl)
          | false =>
           intro h; replace h := cF h
           refine WC.cf rfl ?_
           refine WC.skip ?_
           have f160 := f96.stp (S105.tr (S109.tr (S119.tr (S122.tr S130)))) rfl rfl
           obtain rfl := Option.some.inj h
           exact DN.meet _ ⟨K118, las4_0, lus4_0, rfl, (Stp.refl _ _).wk rfl, f160, f136, hn98⟩ fun a ha => (ha.more (ha.more (ha.more (ha.more (ha.more (ha.more (ha.more (ha.more ha.nil rfl) rfl) rfl) rfl) rfl) rfl) rfl) rfl)
         rintro _ w138 ⟨K139, laq7_0, luq7_0, rfl, S140, f141, f142, hn143⟩
         have h := hK137
         refine DN.block ?_
         refine DN.seq ?_
         refine WC.rs [(0, 2), (1, 2), (2, 2)] rfl ?_
         refine WO.pn 3 rfl ?_
         refine WO.fin ?_
         obtain rfl := Option.some.inj h
         refine DN.round fun a ha => ?_
         exact ⟨k, _, Nat.lt_succ_self _, ⟨K139, ((q7.1 : (List Int)), ((IntKind.i64.wrap (s4.2.1 + 1)) : Int), (q7.2 : (List Bool))), laq7_0, luq7_0, rfl, (S95.tr (S105.tr (S109.tr (S119.tr (S122.tr (S130.tr S140)))))).wk rfl, f141, f142, hn143, hk99⟩, (ha.more (ha.more (ha.more (ha.more (ha.more (ha.more (ha.more (ha.more ha.nil rfl) rfl) rfl) rfl) rfl) rfl) rfl) rfl)⟩
       | false =>
        intro h; replace h := cF h
        refine WC.cf rfl ?_
        refine WC.exit ?_
        refine DN.exitThen ?_
        refine DN.exitThen ?_
        obtain rfl := Option.some.inj h
        have h := hk99
        refine DN.hit ?_
        have f161 := f96.stp S105 rfl rfl
        have f162 := f97.stp S105 rfl rfl
        obtain rfl := Option.some.inj h
        exact DN.meet _ ⟨K104, ((s4.1 : (List Int)), (s4.2.1 : Int), (s4.2.2 : (List Bool))), las4_0, lus4_0, rfl, (S95.tr S105).wk rfl, f161, f162, hn98, rfl⟩ fun a ha => (ha.more (ha.more (ha.more (ha.more (ha.more (ha.more ha.nil rfl) rfl) rfl) rfl) rfl) rfl)
     rintro _ w87 ⟨K88, s6, las6_0, lus6_0, rfl, S89, f90, f91, hn92, rfl⟩
     have h := hK85
     dsimp only [aft] at h
     refine DN.block ?_
     obtain rfl := Option.some.inj h
     refine DN.round fun a ha => ?_
     exact ⟨k, _, Nat.lt_succ_self _, ⟨K88, ((s6.1 : (List Int)), (s6.2.2 : (List Bool))), las6_0, lus6_0, rfl, (S76.tr S89).wk rfl, f90, f91, hn92, hk81⟩, (ha.more (ha.more (ha.more (ha.more (ha.more (ha.more ha.nil rfl) rfl) rfl) rfl) rfl) rfl)⟩
    | false =>
     intro h; replace h := cF h
     refine WC.cf rfl ?_
     refine WC.exit ?_
     refine DN.exitThen ?_
     refine DN.exitThen ?_
     obtain rfl := Option.some.inj h
     have h := hk81
     refine DN.hit ?_
     obtain rfl := Option.some.inj h
     exact DN.meet _ ⟨K75, ((s1.1 : (List Int)), (s1.2 : (List Bool))), las1_0, lus1_0, rfl, S76.wk rfl, f77, f78, hn79, rfl⟩ fun a ha => ha.nil
  rintro _ w68 ⟨K69, s3, las3_0, lus3_0, rfl, S70, f71, f72, hn73, rfl⟩
  have h := hK66
  dsimp only [aft] at h
  refine DN.seq ?_
  refine WC.seq ?_
  refine WC.rs [(0, 2)] rfl ?_
  refine WO.pn 1 rfl ?_
  refine WO.fin ?_
  refine DN.seq ?_
  refine WC.ret ?_
  have f163 := hE.stp (S3.tr (S7.tr (S11.tr (S20.tr (S39.tr (S48.tr (S53.tr (S57.tr (S62.tr S70))))))))) rfl rfl
  refine DN.res (l := [.tmp 6]) Try.results34 (res_tmp rfl rfl) rfl ?_
  obtain rfl := Option.some.inj h
  exact ⟨K69, rfl, f163⟩

/- loop.example/g00869/impl.isMachine -/
theorem i_isMachine_ok {w : World} {κ : Col} {p0 : Sig} {a1_0 : Option Addr} {u1_0 : Nat} {a1_1 : Option Addr} {u1_1 : Nat} {p1 : Machine} (g1_0 : Rd (Rp.sl (Rp.int .i64)) κ w 0 a1_0 u1_0 p1.Next) (g1_1 : Rd (Rp.sl (Rp.int .i64)) κ w 0 a1_1 u1_1 p1.Out) {r : Bool} (h : i_isMachine p0 p1 = some r) : Ret Try.prog 113 [.agg #[.int .i64 p0.In, .int .i64 p0.Out], .agg #[.slice a1_0 p1.Next.length u1_0, .slice a1_1 p1.Out.length u1_1]] w (fun v w' => ∃ (κ' : Col), v = .bool r ∧ Ent κ w κ' w') := by
 unfold i_isMachine at h
 refine Ret.enter Try.func113 rfl Try.ntmps113 rfl ?_
 dsimp only [envOf]
 have hE := Ent.refl κ w
 refine WC.seq ?_
 refine WC.rs [(0, 1), (1, 1), (2, 2)] rfl ?_
 refine WO.box (κ := κ) 2 rfl rfl rfl rfl rfl rfl rfl fun b2 w1 K2 S3 f4 => ⟨trivial, ?_⟩
 refine WO.box (κ := K2) 3 rfl rfl rfl rfl rfl rfl rfl fun b3 w5 K6 S7 f8 => ⟨trivial, ?_⟩
 refine WO.pn 1 rfl ?_
 refine WO.fin ?_
 refine DN.seq ?_
 refine WC.seq ?_
 refine WC.rs [(0, 2), (1, 1), (2, 2), (3, 2)] rfl ?_
 refine WO.k2 rfl rfl rfl rfl (rn_fieldAddr Try.runUnderlying50 rfl Try.sizeOf23 rfl rfl) ?_
 refine WO.k1 trivial rfl rfl rfl rfl (rn_ld Try.isAgg23 rfl rfl (hvE (f8.ld 0 rfl rfl))) ?_
 refine WO.k2 rfl rfl rfl rfl (rn_len Try.runUnderlying23 rfl rfl) ?_
 refine WO.pn 1 rfl ?_
 refine WO.fin ?_
 refine DN.seq ?_
 refine WC.seq ?_
 refine WC.seq ?_
 refine WC.rs [(0, 2), (1, 2), (2, 2), (3, 2), (4, 2), (5, 2), (6, 2), (7, 2), (8, 1), (9, 2), (10, 2), (11, 1), (12, 2), (13, 2), (14, 2)] rfl ?_
 refine WO.pn 3 rfl ?_
 obtain ⟨p16, h, hK9⟩ := Option.bind_eq_some_iff.mp h
 refine WO.meet [(3, 2), (4, 2), (5, 2)] [(6, 2), (7, 2), (8, 1), (9, 2), (10, 2), (11, 1), (12, 2), (13, 2), (14, 2)] (fun L w' => L = [(2, .pointer (some ⟨b2, 0, none⟩)), (3, .pointer (some ⟨b3, 0, none⟩)), (5, .int .i64 (p1.Next.length : Int)), (16, .bool p16)] ∧ ∃ κ', Stp [] K6 w5 κ' w') trivial ?_ ?_
 ·
  revert h
  cases ht10 : decide ((p1.Next.length : Int) < 1) with
  | true =>
   intro h; replace h := cT h
   refine WO.pn 3 rfl ?_
   obtain rfl := Option.some.inj h
   exact WO.met _ trivial ⟨rfl, _, (Stp.refl _ _).wk rfl⟩ fun a ha => (ha.more (ha.more (ha.more (ha.more ha.nil rfl) rfl) rfl) rfl)
  | false =>
   intro h; replace h := cF h
   refine WO.pn 3 rfl ?_
   obtain rfl := Option.some.inj h
   exact WO.met _ trivial ⟨rfl, _, (Stp.refl _ _).wk rfl⟩ fun a ha => (ha.more (ha.more (ha.more (ha.more ha.nil rfl) rfl) rfl) rfl)
 rintro _ w11 _ ⟨rfl, K12, S13⟩
 have h := hK9
 refine WO.pn 1 rfl ?_
 obtain ⟨p25, h, hK14⟩ := Option.bind_eq_some_iff.mp h
 refine WO.meet [(7, 2), (8, 1), (9, 2), (10, 2), (11, 1), (12, 2), (13, 2), (14, 2)] [] (fun L w' => L = [(2, .pointer (some ⟨b2, 0, none⟩)), (3, .pointer (some ⟨b3, 0, none⟩)), (5, .int .i64 (p1.Next.length : Int)), (25, .bool p25)] ∧ ∃ κ', Stp [] K12 w11 κ' w') trivial ?_ ?_
 ·
  revert h
  cases ht15 : p16 with
  | true =>
   intro h; replace h := cT h
   refine WO.pn 1 rfl ?_
   refine WO.ls rfl rfl rfl rfl ?_
   refine WO.pn 2 rfl ?_
   refine WO.ls rfl rfl rfl rfl ?_
   refine WO.pn 3 rfl ?_
   obtain rfl := Option.some.inj h
   exact WO.met _ trivial ⟨rfl, _, (Stp.refl _ _).wk rfl⟩ fun a ha => (ha.more (ha.more (ha.more (ha.more ha.nil rfl) rfl) rfl) rfl)
  | false =>
   intro h; replace h := cF h
   refine WO.k2 rfl rfl rfl rfl (rn_fieldAddr Try.runUnderlying50 rfl Try.sizeOf23 rfl rfl) ?_
   have f16 := f8.stp S13 rfl rfl
   refine WO.k1 trivial rfl rfl rfl rfl (rn_ld Try.isAgg23 rfl rfl (hvE (f16.ld 1 rfl rfl))) ?_
   refine WO.k2 rfl rfl rfl rfl (rn_len Try.runUnderlying23 rfl rfl) ?_
   refine WO.k2 rfl rfl rfl rfl (rn_fieldAddr Try.runUnderlying50 rfl Try.sizeOf23 rfl rfl) ?_
   refine WO.k1 trivial rfl rfl rfl rfl (rn_ld Try.isAgg23 rfl rfl (hvE (f16.ld 0 rfl rfl))) ?_
   refine WO.k2 rfl rfl rfl rfl (rn_len Try.runUnderlying23 rfl rfl) ?_
   refine WO.pn 2 rfl ?_
   obtain rfl := Option.some.inj h
   exact WO.met _ trivial ⟨rfl, _, (Stp.refl _ _).wk rfl⟩ fun a ha => (ha.more (ha.more (ha.more (ha.more ha.nil rfl) rfl) rfl) rfl)
 rintro _ w17 _ ⟨rfl, K18, S19⟩
 have h := hK14
 refine WO.fin ?_
 refine DN.seq ?_
 revert h
 cases ht20 : p25 with
 | true =>
  intro h; replace h := cT h
  refine WC.ct rfl ?_
  refine WC.seq ?_
  refine WC.rs [(0, 2)] rfl ?_
  refine WO.pn 1 rfl ?_
  refine WO.fin ?_
  refine DN.seq ?_
  refine WC.ret ?_
  refine DN.retThen ?_
  have f21 := hE.stp (S3.tr (S7.tr (S13.tr S19))) rfl rfl
  refine DN.res (l := [.tmp 4]) Try.results113 (res_tmp rfl rfl) rfl ?_
  obtain rfl := Option.some.inj h
  exact ⟨K18, rfl, f21⟩
 | false =>
  intro h; replace h := cF h
  refine WC.cf rfl ?_
  refine WC.skip ?_
  refine DN.seq ?_
  refine WC.seq ?_
  refine WC.seq ?_
  refine WC.rs [(0, 2), (1, 1), (2, 2), (3, 2)] rfl ?_
  refine WO.k2 rfl rfl rfl rfl (rn_fieldAddr Try.runUnderlying50 rfl Try.sizeOf23 rfl rfl) ?_
  have f22 := f8.stp (S13.tr S19) rfl rfl
  refine WO.k1 trivial rfl rfl rfl rfl (rn_ld Try.isAgg23 rfl rfl (hvE (f22.ld 0 rfl rfl))) ?_
  refine WO.k2 rfl rfl rfl rfl (rn_len Try.runUnderlying23 rfl rfl) ?_
  refine WO.pn 1 rfl ?_
  refine WO.fin ?_
  refine DN.seq ?_
  have hN23 : (p1.Next.length : Int) ≤ 9223372036854775807 := g1_0.len_le
  obtain ⟨q2, hq25, hK24⟩ := Option.bind_eq_some_iff.mp h
  clear h
  refine WC.meet (fun L w' => ∃ (κ' : Col), L = [] ∧ Stp [] K18 w17 κ' w' ∧ q2 = Sum.inr ()) ?_ ?_
  ·
   refine WC.block ?_
   refine WC.loop (fun k L w' => ∃ (κ' : Col) (v29 : Int), L = [(2, .pointer (some ⟨b2, 0, none⟩)), (3, .pointer (some ⟨b3, 0, none⟩)), (5, .int .i64 (p1.Next.length : Int)), (27, .slice a1_0 p1.Next.length u1_0), (28, .int .i64 (p1.Next.length : Int)), (29, .int .i64 v29)] ∧ Stp [] K18 w17 κ' w' ∧ 0 ≤ v29 ∧ Int.toNat ((p1.Next.length : Int) - v29) = k ∧ cntM (i_isMachine_b0 p0 p1) k v29 () = some q2) ⟨_, _, ⟨K18, 0, rfl, (Stp.refl _ _).wk rfl, (by decide), (by simp), hq25⟩, fun a ha => (ha.more (ha.more (ha.more (ha.more (ha.more (ha.more ha.nil rfl) rfl) rfl) rfl) rfl) rfl)⟩ ?_
   rintro k _ w29 ⟨K30, v29, rfl, S31, hj23, hJ23, h⟩
   rcases k with _ | k
   ·
    have hk32 := h; obtain ⟨o23, h⟩ := ex_eq (Sum.inr (Sum.inl ()) : Bool ⊕ ((Unit) ⊕ (Unit)))
    have hc23 : decide (v29 < (p1.Next.length : Int)) = false := decide_eq_false (by omega)
    refine WC.seq ?_
    refine WC.rs [(0, 2)] rfl ?_
    refine WO.pn 1 rfl ?_
    refine WO.fin ?_
    refine DN.seq ?_
    refine WC.seq ?_
    refine WC.cf' rfl hc23 ?_
    refine WC.exit ?_
    refine DN.exitThen ?_
    refine DN.exitThen ?_
    obtain rfl := Option.some.inj h
    have h := hk32
    refine DN.hit ?_
    obtain rfl := Option.some.inj h
    exact DN.meet _ ⟨K30, rfl, S31.wk rfl, rfl⟩ fun a ha => ha.nil
   ·
    obtain ⟨o23, h, hk32⟩ := Option.bind_eq_some_iff.mp h; unfold i_isMachine_b0 at h
    have hc23 : decide (v29 < (p1.Next.length : Int)) = true := decide_eq_true (by omega)
    refine WC.seq ?_
    refine WC.rs [(0, 2)] rfl ?_
    refine WO.pn 1 rfl ?_
    refine WO.fin ?_
    refine DN.seq ?_
    refine WC.seq ?_
    refine WC.ct' rfl hc23 ?_
    refine WC.skip ?_
    refine DN.seq ?_
    refine WC.seq ?_
    refine WC.block ?_
    refine WC.seq ?_
    refine WC.rs [(0, 2), (1, 2), (2, 1), (3, 2), (4, 2)] rfl ?_
    refine WO.pn 1 rfl ?_
    obtain ⟨x32, hx32, h⟩ := Option.bind_eq_some_iff.mp h
    refine WO.k2 rfl rfl rfl rfl (rn_index g1_0 hx32 Try.runUnderlying23 Try.sizeOf22 rfl rfl rfl rfl) ?_
    have f33 := g1_0.stp (S3.tr (S7.tr (S13.tr (S19.tr S31)))) rfl rfl
    obtain ⟨ax32, ux32, f34, hl35⟩ := f33.gSl hx32
    refine WO.k1 trivial rfl rfl rfl rfl (rn_ld Try.isAgg22 rfl rfl (hvE hl35)) ?_
    refine WO.pn 2 rfl ?_
    refine WO.fin ?_
    refine DN.seq ?_
    refine WC.seq ?_
    refine WC.rx (κ := K30) [0, 2, 3] none [(0, 2), (1, 2), (2, 0), (3, 1), (4, 2), (5, 2), (6, 2), (8, 2), (12, 2), (13, 2), (7, 0), (9, 2), (10, 0), (11, 2), (14, 2), (15, 2), (16, 2), (17, 2), (18, 2), (19, 1), (20, 2), (21, 2), (22, 2), (23, 2), (25, 2), (28, 2), (24, 0), (26, 2), (27, 0), (29, 0), (30, 2), (31, 1), (32, 2), (33, 2)] [] (by kernel_rfl) (by kernel_rfl) fun w37 S36 => ?_
    refine WO.pn 1 rfl ?_
    refine WO.k2 rfl rfl rfl rfl (rn_len Try.runUnderlying22 rfl rfl) ?_
    have f38 := f4.stp (S7.tr (S13.tr (S19.tr (S31.tr S36)))) rfl rfl
    refine WO.k0 rfl rfl rfl rfl (rn_la (cs := [.int .i64 p0.In, .int .i64 p0.Out]) Try.isAgg53 Try.sizeOf53 rfl rfl rfl (haC f38.cells rfl)) ?_
    obtain ⟨x37, hx37, h⟩ := Option.bind_eq_some_iff.mp h
    refine WO.call rfl rfl rfl rfl rfl rfl Try.call106 (i_inputsOf_ok (κ := fun b => mp [] 0 (K30 b)) (p0 := p0) hx37) ?_
    rintro _ w39 ⟨k40, rfl, e41⟩
    obtain ⟨K42, S43, m44⟩ := Ent.mixed (l := []) (κ := K30) e41 4 rfl
    refine ⟨(S43.cl rfl), ?_⟩
    refine WO.pn 2 rfl ?_
    obtain ⟨p49, h, hK46⟩ := Option.bind_eq_some_iff.mp h
    refine WO.meet [(6, 2), (8, 2), (12, 2), (13, 2), (7, 0), (9, 2), (10, 0), (11, 2), (14, 2), (15, 2)] [(16, 2), (17, 2), (18, 2), (19, 1), (20, 2), (21, 2), (22, 2), (23, 2), (25, 2), (28, 2), (24, 0), (26, 2), (27, 0), (29, 0), (30, 2), (31, 1), (32, 2), (33, 2)] (fun L w' => L = [(2, .pointer (some ⟨b2, 0, none⟩)), (3, .pointer (some ⟨b3, 0, none⟩)), (5, .int .i64 (p1.Next.length : Int)), (6, .int .i64 v29), (7, .slice ax32 x32.length ux32), (27, .slice a1_0 p1.Next.length u1_0), (28, .int .i64 (p1.Next.length : Int)), (29, .int .i64 v29), (49, .bool p49)] ∧ ∃ κ', Stp [] K42 w39 κ' w') (S43.cl rfl) ?_ ?_
    ·
     revert h
     cases ht47 : ((x32.length : Int) != x37) with
     | true =>
      intro h; replace h := cT h
      refine WO.pn 4 rfl ?_
      refine WO.qs rfl rfl rfl rfl ?_
      refine WO.pn 1 rfl ?_
      refine WO.qs rfl rfl rfl rfl ?_
      refine WO.pn 3 rfl ?_
      obtain rfl := Option.some.inj h
      exact WO.met _ (S43.cl rfl) ⟨rfl, _, (Stp.refl _ _).wk rfl⟩ fun a ha => (ha.more (ha.more (ha.more (ha.more (ha.more (ha.more (ha.more (ha.more (ha.more ha.nil rfl) rfl) rfl) rfl) rfl) rfl) rfl) rfl) rfl)
     | false =>
      intro h; replace h := cF h
      refine WO.k2 rfl rfl rfl rfl (rn_fieldAddr Try.runUnderlying50 rfl Try.sizeOf23 rfl rfl) ?_
      refine WO.pn 2 rfl ?_
      refine WO.k2 rfl rfl rfl rfl (rn_len Try.runUnderlying22 rfl rfl) ?_
      have f48 := f22.stp (S31.tr S36) rfl rfl
      refine WO.k0 rfl rfl rfl rfl (rn_ld Try.isAgg23 rfl rfl (hvC (f48.ld 1 rfl rfl) rfl)) ?_
      obtain ⟨x43, hx43, h⟩ := Option.bind_eq_some_iff.mp h
      refine WO.k2 rfl rfl rfl rfl (rn_index g1_1 hx43 Try.runUnderlying23 Try.sizeOf22 rfl rfl rfl rfl) ?_
      have f49 := g1_1.stp (S3.tr (S7.tr (S13.tr (S19.tr (S31.tr S36))))) rfl rfl
      obtain ⟨ax43, ux43, f50, hl51⟩ := f49.gSl hx43
      refine WO.k0 rfl rfl rfl rfl (rn_ld Try.isAgg22 rfl rfl (hvC hl51 rfl)) ?_
      refine WO.k2 rfl rfl rfl rfl (rn_len Try.runUnderlying22 rfl rfl) ?_
      refine WO.pn 2 rfl ?_
      obtain rfl := Option.some.inj h
      exact WO.met _ (S43.cl rfl) ⟨rfl, _, (Stp.refl _ _).wk rfl⟩ fun a ha => (ha.more (ha.more (ha.more (ha.more (ha.more (ha.more (ha.more (ha.more (ha.more ha.nil rfl) rfl) rfl) rfl) rfl) rfl) rfl) rfl) rfl)
    rintro _ w52 _ ⟨rfl, K53, S54⟩
    have h := hK46
    refine WO.pn 1 rfl ?_
    obtain ⟨p55, h, hK55⟩ := Option.bind_eq_some_iff.mp h
    refine WO.meet [(17, 2), (18, 2), (19, 1), (20, 2), (21, 2)] [(22, 2), (23, 2), (25, 2), (28, 2), (24, 0), (26, 2), (27, 0), (29, 0), (30, 2), (31, 1), (32, 2), (33, 2)] (fun L w' => L = [(2, .pointer (some ⟨b2, 0, none⟩)), (3, .pointer (some ⟨b3, 0, none⟩)), (5, .int .i64 (p1.Next.length : Int)), (6, .int .i64 v29), (27, .slice a1_0 p1.Next.length u1_0), (28, .int .i64 (p1.Next.length : Int)), (29, .int .i64 v29), (55, .bool p55)] ∧ ∃ κ', Stp [] K53 w52 κ' w') ((S43.tr S54).cl rfl) ?_ ?_
    ·
     revert h
     cases ht56 : p49 with
     | true =>
      intro h; replace h := cT h
      refine WO.pn 2 rfl ?_
      refine WO.ls rfl rfl rfl rfl ?_
      refine WO.pn 2 rfl ?_
      obtain rfl := Option.some.inj h
      exact WO.met _ ((S43.tr S54).cl rfl) ⟨rfl, _, (Stp.refl _ _).wk rfl⟩ fun a ha => (ha.more (ha.more (ha.more (ha.more (ha.more (ha.more (ha.more (ha.more ha.nil rfl) rfl) rfl) rfl) rfl) rfl) rfl) rfl)
     | false =>
      intro h; replace h := cF h
      refine WO.pn 2 rfl ?_
      obtain ⟨x53, hx53, h⟩ := Option.bind_eq_some_iff.mp h
      have f57 := f34.stp (S36.tr (S43.tr S54)) rfl rfl
      refine WO.call rfl rfl rfl rfl rfl rfl Try.call170 (i_areLetters_ok (κ := fun b => mp [] 0 (K53 b)) (Sl.map f57 (mp [] 0) rfl rfl) hx53) ?_
      rintro _ w58 ⟨k59, rfl, e60⟩
      obtain ⟨K61, S62, m63⟩ := Ent.mixed (l := []) (κ := K53) e60 6 rfl
      refine ⟨((S43.tr (S54.tr S62)).cl rfl), ?_⟩
      refine WO.pn 2 rfl ?_
      obtain rfl := Option.some.inj h
      exact WO.met _ ((S43.tr (S54.tr S62)).cl rfl) ⟨rfl, _, S62.wk rfl⟩ fun a ha => (ha.more (ha.more (ha.more (ha.more (ha.more (ha.more (ha.more (ha.more ha.nil rfl) rfl) rfl) rfl) rfl) rfl) rfl) rfl)
    rintro _ w65 _ ⟨rfl, K66, S67⟩
    have h := hK55
    refine WO.pn 1 rfl ?_
    obtain ⟨p67, h, hK68⟩ := Option.bind_eq_some_iff.mp h
    refine WO.meet [(23, 2), (25, 2), (28, 2), (24, 0), (26, 2), (27, 0), (29, 0), (30, 2), (31, 1), (32, 2), (33, 2)] [] (fun L w' => L = [(2, .pointer (some ⟨b2, 0, none⟩)), (3, .pointer (some ⟨b3, 0, none⟩)), (5, .int .i64 (p1.Next.length : Int)), (27, .slice a1_0 p1.Next.length u1_0), (28, .int .i64 (p1.Next.length : Int)), (29, .int .i64 v29), (67, .bool p67)] ∧ ∃ κ', Stp [] K66 w65 κ' w') ((S43.tr (S54.tr S67)).cl rfl) ?_ ?_
    ·
     revert h
     cases ht69 : p55 with
     | true =>
      intro h; replace h := cT h
      refine WO.pn 3 rfl ?_
      refine WO.qs rfl rfl rfl rfl ?_
      refine WO.pn 1 rfl ?_
      refine WO.qs rfl rfl rfl rfl ?_
      refine WO.qs rfl rfl rfl rfl ?_
      refine WO.pn 1 rfl ?_
      refine WO.ls rfl rfl rfl rfl ?_
      refine WO.pn 2 rfl ?_
      obtain rfl := Option.some.inj h
      exact WO.met _ ((S43.tr (S54.tr S67)).cl rfl) ⟨rfl, _, (Stp.refl _ _).wk rfl⟩ fun a ha => (ha.more (ha.more (ha.more (ha.more (ha.more (ha.more (ha.more ha.nil rfl) rfl) rfl) rfl) rfl) rfl) rfl)
     | false =>
      intro h; replace h := cF h
      refine WO.k2 rfl rfl rfl rfl (rn_fieldAddr Try.runUnderlying50 rfl Try.sizeOf23 rfl rfl) ?_
      refine WO.pn 1 rfl ?_
      refine WO.k2 rfl rfl rfl rfl (rn_fieldAddr Try.runUnderlying53 rfl Try.sizeOf2 rfl rfl) ?_
      have f70 := f22.stp (S31.tr S36) rfl rfl
      refine WO.k0 rfl rfl rfl rfl (rn_ld Try.isAgg23 rfl rfl (hvC (f70.ld 1 rfl rfl) rfl)) ?_
      obtain ⟨x60, hx60, h⟩ := Option.bind_eq_some_iff.mp h
      refine WO.k2 rfl rfl rfl rfl (rn_index g1_1 hx60 Try.runUnderlying23 Try.sizeOf22 rfl rfl rfl rfl) ?_
      have f71 := g1_1.stp (S3.tr (S7.tr (S13.tr (S19.tr (S31.tr S36))))) rfl rfl
      obtain ⟨ax60, ux60, f72, hl73⟩ := f71.gSl hx60
      refine WO.k0 rfl rfl rfl rfl (rn_ld Try.isAgg22 rfl rfl (hvC hl73 rfl)) ?_
      refine WO.k0 rfl rfl rfl rfl (rn_ld Try.isAgg2 rfl rfl (hvC (f38.ld 1 rfl rfl) rfl)) ?_
      obtain ⟨_z64, hz64, h⟩ := Option.bind_eq_some_iff.mp h
      refine WO.k2 rfl rfl rfl rfl (rn_shl rfl rfl rfl (nn_ok hz64)) ?_
      obtain ⟨x65, hx65, h⟩ := Option.bind_eq_some_iff.mp h
      have f74 := f72.stp (S43.tr (S54.tr S67)) rfl rfl
      refine WO.call rfl rfl rfl rfl rfl rfl Try.call170 (i_areLetters_ok (κ := fun b => mp [] 0 (K66 b)) (Sl.map f74 (mp [] 0) rfl rfl) hx65) ?_
      rintro _ w75 ⟨k76, rfl, e77⟩
      obtain ⟨K78, S79, m80⟩ := Ent.mixed (l := []) (κ := K66) e77 6 rfl
      refine ⟨((S43.tr (S54.tr (S67.tr S79))).cl rfl), ?_⟩
      refine WO.pn 2 rfl ?_
      obtain rfl := Option.some.inj h
      exact WO.met _ ((S43.tr (S54.tr (S67.tr S79))).cl rfl) ⟨rfl, _, S79.wk rfl⟩ fun a ha => (ha.more (ha.more (ha.more (ha.more (ha.more (ha.more (ha.more ha.nil rfl) rfl) rfl) rfl) rfl) rfl) rfl)
    rintro _ w82 _ ⟨rfl, K83, S84⟩
    have h := hK68
    refine WO.nx ?_
    refine WO.fin ?_
    refine DN.seq ?_
    revert h
    cases ht85 : p67 with
    | true =>
     intro h; replace h := cT h
     refine WC.ct rfl ?_
     refine WC.seq ?_
     refine WC.rs [(0, 2)] rfl ?_
     refine WO.pn 1 rfl ?_
     refine WO.fin ?_
     refine DN.seq ?_
     refine WC.ret ?_
     refine DN.retBlock ?_
     refine DN.retThen ?_
     refine DN.retThen ?_
     obtain rfl := Option.some.inj h
     obtain rfl := Option.some.inj hk32
     have h := hK24
     dsimp only [aft] at h
     refine DN.retBlock ?_
     refine DN.retMeet ?_
     refine DN.retThen ?_
     have f86 := hE.stp (S3.tr (S7.tr (S13.tr (S19.tr (S31.tr (S36.tr (S43.tr (S54.tr (S67.tr S84))))))))) rfl rfl
     refine DN.res (l := [.tmp 4]) Try.results113 (res_tmp rfl rfl) rfl ?_
     obtain rfl := Option.some.inj h
     exact ⟨K83, rfl, f86⟩
    | false =>
     intro h; replace h := cF h
     refine WC.cf rfl ?_
     refine WC.skip ?_
     refine DN.block ?_
     refine DN.seq ?_
     refine WC.rs [(0, 2), (1, 2)] rfl ?_
     refine WO.pn 2 rfl ?_
     refine WO.fin ?_
     have hw23 : IntKind.wrap .i64 (v29 + 1) = v29 + 1 := wr1 hj23 (of_decide_eq_true hc23) hN23
     rw [hw23]
     have hc23 := of_decide_eq_true hc23
     obtain rfl := Option.some.inj h
     refine DN.round fun a ha => ?_
     exact ⟨k, _, Nat.lt_succ_self _, ⟨K83, v29 + 1, rfl, (S31.tr (S36.tr (S43.tr (S54.tr (S67.tr S84))))).wk rfl, by omega, by omega, hk32⟩, (ha.more (ha.more (ha.more (ha.more (ha.more (ha.more ha.nil rfl) rfl) rfl) rfl) rfl) rfl)⟩
  rintro _ w26 ⟨K27, rfl, S28, rfl⟩
  have h := hK24
  dsimp only [aft] at h
  refine DN.seq ?_
  refine WC.seq ?_
  refine WC.rs [(0, 2)] rfl ?_
  refine WO.pn 1 rfl ?_
  refine WO.fin ?_
  refine DN.seq ?_
  refine WC.ret ?_
  have f87 := hE.stp (S3.tr (S7.tr (S13.tr (S19.tr S28)))) rfl rfl
  refine DN.res (l := [.tmp 4]) Try.results113 (res_tmp rfl rfl) rfl ?_
  obtain rfl := Option.some.inj h
  exact ⟨K27, rfl, f87⟩

/- loop.example/g00869/impl.isCircuit -/
theorem i_isCircuit_ok {w : World} {κ : Col} {a0_2 : Option Addr} {u0_2 : Nat} {a0_3 : Option Addr} {u0_3 : Nat} {a0_4 : Option Addr} {u0_4 : Nat} {p0 : Circuit} (g0_2 : Rd (Rp.int .i64) κ w 0 a0_2 u0_2 p0.Next) (g0_3 : Rd Gate.rp κ w 0 a0_3 u0_3 p0.Gates) (g0_4 : Rd (Rp.int .i64) κ w 0 a0_4 u0_4 p0.Outs) {r : Bool} (h : i_isCircuit p0 = some r) : Ret Try.prog 105 [.agg #[.int .i64 p0.Inputs, .int .i64 p0.Latches, .slice a0_2 p0.Next.length u0_2, .slice a0_3 p0.Gates.length u0_3, .slice a0_4 p0.Outs.length u0_4]] w (fun v w' => ∃ (κ' : Col), v = .bool r ∧ Ent κ w κ' w') := by
 unfold i_isCircuit at h
 refine Ret.enter Try.func105 rfl Try.ntmps105 rfl ?_
 dsimp only [envOf]
 have hE := Ent.refl κ w
 refine WC.seq ?_
 refine WC.rs [(0, 1), (1, 2)] rfl ?_
 refine WO.box (κ := κ) 2 rfl rfl rfl rfl rfl rfl rfl fun b1 w1 K2 S3 f4 => ⟨trivial, ?_⟩
 refine WO.pn 1 rfl ?_
 refine WO.fin ?_
 refine DN.seq ?_
 refine WC.seq ?_
 refine WC.seq ?_
 refine WC.rs [(0, 2), (1, 1), (2, 2), (3, 2), (4, 2), (5, 1), (6, 2), (7, 2), (8, 2), (9, 2), (10, 1), (11, 2), (12, 2), (13, 2), (14, 2), (15, 1), (16, 2), (17, 2), (18, 2), (19, 2), (20, 1), (21, 2), (22, 2), (23, 1), (24, 2), (25, 2), (26, 2), (27, 2), (28, 1), (29, 2), (30, 2), (31, 2), (32, 2), (33, 2), (34, 1), (35, 2), (36, 2), (37, 2)] rfl ?_
 refine WO.k2 rfl rfl rfl rfl (rn_fieldAddr Try.runUnderlying57 rfl Try.sizeOf2 rfl rfl) ?_
 refine WO.k1 trivial rfl rfl rfl rfl (rn_ld Try.isAgg2 rfl rfl (hvE (f4.ld 0 rfl rfl))) ?_
 refine WO.pn 2 rfl ?_
 obtain ⟨p13, h, hK5⟩ := Option.bind_eq_some_iff.mp h
 refine WO.meet [(4, 2), (5, 1), (6, 2), (7, 2)] [(8, 2), (9, 2), (10, 1), (11, 2), (12, 2), (13, 2), (14, 2), (15, 1), (16, 2), (17, 2), (18, 2), (19, 2), (20, 1), (21, 2), (22, 2), (23, 1), (24, 2), (25, 2), (26, 2), (27, 2), (28, 1), (29, 2), (30, 2), (31, 2), (32, 2), (33, 2), (34, 1), (35, 2), (36, 2), (37, 2)] (fun L w' => L = [(1, .pointer (some ⟨b1, 0, none⟩)), (13, .bool p13)] ∧ ∃ κ', Stp [] K2 w1 κ' w') trivial ?_ ?_
 ·
  revert h
  cases ht6 : decide (p0.Inputs < 0) with
  | true =>
   intro h; replace h := cT h
   refine WO.pn 1 rfl ?_
   refine WO.ls rfl rfl rfl rfl ?_
   refine WO.pn 2 rfl ?_
   obtain rfl := Option.some.inj h
   exact WO.met _ trivial ⟨rfl, _, (Stp.refl _ _).wk rfl⟩ fun a ha => (ha.more (ha.more ha.nil rfl) rfl)
  | false =>
   intro h; replace h := cF h
   refine WO.k2 rfl rfl rfl rfl (rn_fieldAddr Try.runUnderlying57 rfl Try.sizeOf2 rfl rfl) ?_
   refine WO.k1 trivial rfl rfl rfl rfl (rn_ld Try.isAgg2 rfl rfl (hvE (f4.ld 0 rfl rfl))) ?_
   refine WO.pn 2 rfl ?_
   obtain rfl := Option.some.inj h
   exact WO.met _ trivial ⟨rfl, _, (Stp.refl _ _).wk rfl⟩ fun a ha => (ha.more (ha.more ha.nil rfl) rfl)
 rintro _ w7 _ ⟨rfl, K8, S9⟩
 have h := hK5
 refine WO.pn 1 rfl ?_
 obtain ⟨p18, h, hK10⟩ := Option.bind_eq_some_iff.mp h
 refine WO.meet [(9, 2), (10, 1), (11, 2), (12, 2)] [(13, 2), (14, 2), (15, 1), (16, 2), (17, 2), (18, 2), (19, 2), (20, 1), (21, 2), (22, 2), (23, 1), (24, 2), (25, 2), (26, 2), (27, 2), (28, 1), (29, 2), (30, 2), (31, 2), (32, 2), (33, 2), (34, 1), (35, 2), (36, 2), (37, 2)] (fun L w' => L = [(1, .pointer (some ⟨b1, 0, none⟩)), (18, .bool p18)] ∧ ∃ κ', Stp [] K8 w7 κ' w') trivial ?_ ?_
 ·
  revert h
  cases ht11 : p13 with
  | true =>
   intro h; replace h := cT h
   refine WO.pn 1 rfl ?_
   refine WO.ls rfl rfl rfl rfl ?_
   refine WO.pn 2 rfl ?_
   obtain rfl := Option.some.inj h
   exact WO.met _ trivial ⟨rfl, _, (Stp.refl _ _).wk rfl⟩ fun a ha => (ha.more (ha.more ha.nil rfl) rfl)
  | false =>
   intro h; replace h := cF h
   refine WO.k2 rfl rfl rfl rfl (rn_fieldAddr Try.runUnderlying57 rfl Try.sizeOf2 rfl rfl) ?_
   have f12 := f4.stp S9 rfl rfl
   refine WO.k1 trivial rfl rfl rfl rfl (rn_ld Try.isAgg2 rfl rfl (hvE (f12.ld 1 rfl rfl))) ?_
   refine WO.pn 2 rfl ?_
   obtain rfl := Option.some.inj h
   exact WO.met _ trivial ⟨rfl, _, (Stp.refl _ _).wk rfl⟩ fun a ha => (ha.more (ha.more ha.nil rfl) rfl)
 rintro _ w13 _ ⟨rfl, K14, S15⟩
 have h := hK10
 refine WO.pn 1 rfl ?_
 obtain ⟨p23, h, hK16⟩ := Option.bind_eq_some_iff.mp h
 refine WO.meet [(14, 2), (15, 1), (16, 2), (17, 2)] [(18, 2), (19, 2), (20, 1), (21, 2), (22, 2), (23, 1), (24, 2), (25, 2), (26, 2), (27, 2), (28, 1), (29, 2), (30, 2), (31, 2), (32, 2), (33, 2), (34, 1), (35, 2), (36, 2), (37, 2)] (fun L w' => L = [(1, .pointer (some ⟨b1, 0, none⟩)), (23, .bool p23)] ∧ ∃ κ', Stp [] K14 w13 κ' w') trivial ?_ ?_
 ·
  revert h
  cases ht17 : p18 with
  | true =>
   intro h; replace h := cT h
   refine WO.pn 1 rfl ?_
   refine WO.ls rfl rfl rfl rfl ?_
   refine WO.pn 2 rfl ?_
   obtain rfl := Option.some.inj h
   exact WO.met _ trivial ⟨rfl, _, (Stp.refl _ _).wk rfl⟩ fun a ha => (ha.more (ha.more ha.nil rfl) rfl)
  | false =>
   intro h; replace h := cF h
   refine WO.k2 rfl rfl rfl rfl (rn_fieldAddr Try.runUnderlying57 rfl Try.sizeOf2 rfl rfl) ?_
   have f18 := f4.stp (S9.tr S15) rfl rfl
   refine WO.k1 trivial rfl rfl rfl rfl (rn_ld Try.isAgg2 rfl rfl (hvE (f18.ld 1 rfl rfl))) ?_
   refine WO.pn 2 rfl ?_
   obtain rfl := Option.some.inj h
   exact WO.met _ trivial ⟨rfl, _, (Stp.refl _ _).wk rfl⟩ fun a ha => (ha.more (ha.more ha.nil rfl) rfl)
 rintro _ w19 _ ⟨rfl, K20, S21⟩
 have h := hK16
 refine WO.pn 1 rfl ?_
 obtain ⟨p31, h, hK22⟩ := Option.bind_eq_some_iff.mp h
 refine WO.meet [(19, 2), (20, 1), (21, 2), (22, 2), (23, 1), (24, 2), (25, 2)] [(26, 2), (27, 2), (28, 1), (29, 2), (30, 2), (31, 2), (32, 2), (33, 2), (34, 1), (35, 2), (36, 2), (37, 2)] (fun L w' => L = [(1, .pointer (some ⟨b1, 0, none⟩)), (31, .bool p31)] ∧ ∃ κ', Stp [] K20 w19 κ' w') trivial ?_ ?_
 ·
  revert h
  cases ht23 : p23 with
  | true =>
   intro h; replace h := cT h
   refine WO.pn 1 rfl ?_
   refine WO.ls rfl rfl rfl rfl ?_
   refine WO.pn 2 rfl ?_
   refine WO.ls rfl rfl rfl rfl ?_
   refine WO.pn 2 rfl ?_
   obtain rfl := Option.some.inj h
   exact WO.met _ trivial ⟨rfl, _, (Stp.refl _ _).wk rfl⟩ fun a ha => (ha.more (ha.more ha.nil rfl) rfl)
  | false =>
   intro h; replace h := cF h
   refine WO.k2 rfl rfl rfl rfl (rn_fieldAddr Try.runUnderlying57 rfl Try.sizeOf22 rfl rfl) ?_
   have f24 := f4.stp (S9.tr (S15.tr S21)) rfl rfl
   refine WO.k1 trivial rfl rfl rfl rfl (rn_ld Try.isAgg22 rfl rfl (hvE (f24.ld 2 rfl rfl))) ?_
   refine WO.k2 rfl rfl rfl rfl (rn_len Try.runUnderlying22 rfl rfl) ?_
   refine WO.k2 rfl rfl rfl rfl (rn_fieldAddr Try.runUnderlying57 rfl Try.sizeOf2 rfl rfl) ?_
   refine WO.k1 trivial rfl rfl rfl rfl (rn_ld Try.isAgg2 rfl rfl (hvE (f24.ld 1 rfl rfl))) ?_
   refine WO.pn 2 rfl ?_
   obtain rfl := Option.some.inj h
   exact WO.met _ trivial ⟨rfl, _, (Stp.refl _ _).wk rfl⟩ fun a ha => (ha.more (ha.more ha.nil rfl) rfl)
 rintro _ w25 _ ⟨rfl, K26, S27⟩
 have h := hK22
 refine WO.pn 1 rfl ?_
 obtain ⟨p37, h, hK28⟩ := Option.bind_eq_some_iff.mp h
 refine WO.meet [(27, 2), (28, 1), (29, 2), (30, 2), (31, 2)] [(32, 2), (33, 2), (34, 1), (35, 2), (36, 2), (37, 2)] (fun L w' => L = [(1, .pointer (some ⟨b1, 0, none⟩)), (37, .bool p37)] ∧ ∃ κ', Stp [] K26 w25 κ' w') trivial ?_ ?_
 ·
  revert h
  cases ht29 : p31 with
  | true =>
   intro h; replace h := cT h
   refine WO.pn 1 rfl ?_
   refine WO.ls rfl rfl rfl rfl ?_
   refine WO.pn 3 rfl ?_
   obtain rfl := Option.some.inj h
   exact WO.met _ trivial ⟨rfl, _, (Stp.refl _ _).wk rfl⟩ fun a ha => (ha.more (ha.more ha.nil rfl) rfl)
  | false =>
   intro h; replace h := cF h
   refine WO.k2 rfl rfl rfl rfl (rn_fieldAddr Try.runUnderlying57 rfl Try.sizeOf55 rfl rfl) ?_
   have f30 := f4.stp (S9.tr (S15.tr (S21.tr S27))) rfl rfl
   refine WO.k1 trivial rfl rfl rfl rfl (rn_ld Try.isAgg55 rfl rfl (hvE (f30.ld 3 rfl rfl))) ?_
   refine WO.k2 rfl rfl rfl rfl (rn_len Try.runUnderlying55 rfl rfl) ?_
   refine WO.pn 2 rfl ?_
   obtain rfl := Option.some.inj h
   exact WO.met _ trivial ⟨rfl, _, (Stp.refl _ _).wk rfl⟩ fun a ha => (ha.more (ha.more ha.nil rfl) rfl)
 rintro _ w31 _ ⟨rfl, K32, S33⟩
 have h := hK28
 refine WO.pn 1 rfl ?_
 obtain ⟨p43, h, hK34⟩ := Option.bind_eq_some_iff.mp h
 refine WO.meet [(33, 2), (34, 1), (35, 2), (36, 2), (37, 2)] [] (fun L w' => L = [(1, .pointer (some ⟨b1, 0, none⟩)), (43, .bool p43)] ∧ ∃ κ', Stp [] K32 w31 κ' w') trivial ?_ ?_
 ·
  revert h
  cases ht35 : p37 with
  | true =>
   intro h; replace h := cT h
   refine WO.pn 1 rfl ?_
   refine WO.ls rfl rfl rfl rfl ?_
   refine WO.pn 3 rfl ?_
   obtain rfl := Option.some.inj h
   exact WO.met _ trivial ⟨rfl, _, (Stp.refl _ _).wk rfl⟩ fun a ha => (ha.more (ha.more ha.nil rfl) rfl)
  | false =>
   intro h; replace h := cF h
   refine WO.k2 rfl rfl rfl rfl (rn_fieldAddr Try.runUnderlying57 rfl Try.sizeOf22 rfl rfl) ?_
   have f36 := f4.stp (S9.tr (S15.tr (S21.tr (S27.tr S33)))) rfl rfl
   refine WO.k1 trivial rfl rfl rfl rfl (rn_ld Try.isAgg22 rfl rfl (hvE (f36.ld 4 rfl rfl))) ?_
   refine WO.k2 rfl rfl rfl rfl (rn_len Try.runUnderlying22 rfl rfl) ?_
   refine WO.pn 2 rfl ?_
   obtain rfl := Option.some.inj h
   exact WO.met _ trivial ⟨rfl, _, (Stp.refl _ _).wk rfl⟩ fun a ha => (ha.more (ha.more ha.nil rfl) rfl)
 rintro _ w37 _ ⟨rfl, K38, S39⟩
 have h := hK34
 refine WO.fin ?_
 refine DN.seq ?_
 revert h
 cases ht40 : p43 with
 | true =>
  intro h; replace h := cT h
  refine WC.ct rfl ?_
  refine WC.seq ?_
  refine WC.rs [(0, 2)] rfl ?_
  refine WO.pn 1 rfl ?_
  refine WO.fin ?_
  refine DN.seq ?_
  refine WC.ret ?_
  refine DN.retThen ?_
  have f41 := hE.stp (S3.tr (S9.tr (S15.tr (S21.tr (S27.tr (S33.tr S39)))))) rfl rfl
  refine DN.res (l := [.tmp 2]) Try.results105 (res_tmp rfl rfl) rfl ?_
  obtain rfl := Option.some.inj h
  exact ⟨K38, rfl, f41⟩
 | false =>
  intro h; replace h := cF h
  refine WC.cf rfl ?_
  refine WC.skip ?_
  refine DN.seq ?_
  refine WC.seq ?_
  refine WC.rs [(0, 2), (1, 1), (2, 2), (3, 2), (4, 1), (5, 2), (6, 2)] rfl ?_
  refine WO.k2 rfl rfl rfl rfl (rn_fieldAddr Try.runUnderlying57 rfl Try.sizeOf2 rfl rfl) ?_
  have f42 := f4.stp (S9.tr (S15.tr (S21.tr (S27.tr (S33.tr S39))))) rfl rfl
  refine WO.k1 trivial rfl rfl rfl rfl (rn_ld Try.isAgg2 rfl rfl (hvE (f42.ld 0 rfl rfl))) ?_
  refine WO.pn 1 rfl ?_
  refine WO.k2 rfl rfl rfl rfl (rn_fieldAddr Try.runUnderlying57 rfl Try.sizeOf2 rfl rfl) ?_
  refine WO.k1 trivial rfl rfl rfl rfl (rn_ld Try.isAgg2 rfl rfl (hvE (f42.ld 1 rfl rfl))) ?_
  refine WO.pn 2 rfl ?_
  refine WO.fin ?_
  refine DN.seq ?_
  refine WC.seq ?_
  refine WC.seq ?_
  refine WC.rs [(0, 2), (1, 1), (2, 2), (3, 2)] rfl ?_
  refine WO.k2 rfl rfl rfl rfl (rn_fieldAddr Try.runUnderlying57 rfl Try.sizeOf55 rfl rfl) ?_
  refine WO.k1 trivial rfl rfl rfl rfl (rn_ld Try.isAgg55 rfl rfl (hvE (f42.ld 3 rfl rfl))) ?_
  refine WO.k2 rfl rfl rfl rfl (rn_len Try.runUnderlying55 rfl rfl) ?_
  refine WO.pn 1 rfl ?_
  refine WO.fin ?_
  refine DN.seq ?_
  have hN43 : (p0.Gates.length : Int) ≤ 9223372036854775807 := g0_3.len_le
  obtain ⟨q2, hq45, hK44⟩ := Option.bind_eq_some_iff.mp h
  clear h
  refine WC.meet (fun L w' => ∃ (κ' : Col), L = [(1, .pointer (some ⟨b1, 0, none⟩))] ∧ Stp [3] K38 w37 κ' w' ∧ q2 = Sum.inr ()) ?_ ?_
  ·
   refine WC.block ?_
   refine WC.loop (fun k L w' => ∃ (κ' : Col) (v53 : Int), L = [(1, .pointer (some ⟨b1, 0, none⟩)), (3, .int .i64 (IntKind.i64.wrap ((IntKind.i64.wrap (1 + p0.Inputs)) + p0.Latches))), (51, .slice a0_3 p0.Gates.length u0_3), (52, .int .i64 (p0.Gates.length : Int)), (53, .int .i64 v53)] ∧ Stp [3] K38 w37 κ' w' ∧ 0 ≤ v53 ∧ Int.toNat ((p0.Gates.length : Int) - v53) = k ∧ cntM (i_isCircuit_b0 p0) k v53 () = some q2) ⟨_, _, ⟨K38, 0, rfl, (Stp.refl _ _).wk rfl, (by decide), (by simp), hq45⟩, fun a ha => (ha.more (ha.more (ha.more (ha.more (ha.more ha.nil rfl) rfl) rfl) rfl) rfl)⟩ ?_
   rintro k _ w49 ⟨K50, v53, rfl, S51, hj43, hJ43, h⟩
   rcases k with _ | k
   ·
    have hk52 := h; obtain ⟨o43, h⟩ := ex_eq (Sum.inr (Sum.inl ()) : Bool ⊕ ((Unit) ⊕ (Unit)))
    have hc43 : decide (v53 < (p0.Gates.length : Int)) = false := decide_eq_false (by omega)
    refine WC.seq ?_
    refine WC.rs [(0, 2)] rfl ?_
    refine WO.pn 1 rfl ?_
    refine WO.fin ?_
    refine DN.seq ?_
    refine WC.seq ?_
    refine WC.cf' rfl hc43 ?_
    refine WC.exit ?_
    refine DN.exitThen ?_
    refine DN.exitThen ?_
    obtain rfl := Option.some.inj h
    have h := hk52
    refine DN.hit ?_
    obtain rfl := Option.some.inj h
    exact DN.meet _ ⟨K50, rfl, S51.wk rfl, rfl⟩ fun a ha => (ha.more ha.nil rfl)
   ·
    obtain ⟨o43, h, hk52⟩ := Option.bind_eq_some_iff.mp h; unfold i_isCircuit_b0 at h
    have hc43 : decide (v53 < (p0.Gates.length : Int)) = true := decide_eq_true (by omega)
    refine WC.seq ?_
    refine WC.rs [(0, 2)] rfl ?_
    refine WO.pn 1 rfl ?_
    refine WO.fin ?_
    refine DN.seq ?_
    refine WC.seq ?_
    refine WC.ct' rfl hc43 ?_
    refine WC.skip ?_
    refine DN.seq ?_
    refine WC.seq ?_
    refine WC.block ?_
    refine WC.seq ?_
    refine WC.rs [(0, 2), (1, 2), (2, 1), (3, 1), (4, 2), (5, 1)] rfl ?_
    refine WO.pn 1 rfl ?_
    obtain ⟨x56, hx56, h⟩ := Option.bind_eq_some_iff.mp h
    refine WO.k2 rfl rfl rfl rfl (rn_index g0_3 hx56 Try.runUnderlying55 Try.sizeOf159 rfl rfl rfl rfl) ?_
    have f53 := g0_3.stp (S3.tr (S9.tr (S15.tr (S21.tr (S27.tr (S33.tr (S39.tr S51))))))) rfl rfl
    obtain ⟨cse54, hre54, hle54⟩ := (f53).gSt hx56
    obtain rfl := Gate.un hre54
    refine WO.k1 trivial rfl rfl rfl rfl (rn_la (cs := [.int .i64 x56.A, .int .i64 x56.B]) Try.isAgg159 Try.sizeOf159 rfl rfl rfl (haE hle54)) ?_
    refine WO.alloc (κ := K50) 3 rfl rfl rfl rfl rfl Try.zeroValue159 rfl fun b5 w55 K56 S57 f58 => ⟨trivial, ?_⟩
    refine WO.pn 1 rfl ?_
    refine WO.stB0 (κ := K56) 3 (vc := [.int .i64 x56.A, .int .i64 x56.B]) rfl rfl rfl rfl rfl rfl rfl Try.sizeOf159 rfl rfl f58 rfl fun w59 S60 f61 => ⟨trivial, ?_⟩
    refine WO.fin ?_
    refine DN.seq ?_
    refine WC.seq ?_
    refine WC.rs [(0, 2), (1, 1), (2, 2), (3, 1), (4, 1), (5, 2), (6, 2), (7, 2), (8, 2), (9, 1), (10, 2)] rfl ?_
    refine WO.k2 rfl rfl rfl rfl (rn_fieldAddr Try.runUnderlying159 rfl Try.sizeOf2 rfl rfl) ?_
    refine WO.k1 trivial rfl rfl rfl rfl (rn_ld Try.isAgg2 rfl rfl (hvE (f61.ld 0 rfl rfl))) ?_
    refine WO.k2 rfl rfl rfl rfl (rn_fieldAddr Try.runUnderlying159 rfl Try.sizeOf2 rfl rfl) ?_
    refine WO.k1 trivial rfl rfl rfl rfl (rn_ld Try.isAgg2 rfl rfl (hvE (f61.ld 1 rfl rfl))) ?_
    refine WO.bl (κ := K56) (E := (Ep.int .i64)) 4 [] (parts := [(0, .tmp 59), (1, .tmp 61)]) (cells := [.int .i64 x56.A, .int .i64 x56.B]) (xs := ([x56.A, x56.B] : List Int)) rfl rfl rfl rfl rfl rfl Try.underlying22 Tryinfo2 rfl rfl rfl rfl rfl rfl rfl rfl rfl rfl ⟨[.int .i64 x56.A], [.int .i64 x56.B], Zl K56 w59 [], Zl K56 w59 [], rfl, Zl.sp (l1 := []) (l2 := []) rfl, Zl.sr (l1 := []) (l2 := []), rfl, ⟨[.int .i64 x56.B], [], Zl K56 w59 [], Zl K56 w59 [], rfl, Zl.sp (l1 := []) (l2 := []) rfl, Zl.sr (l1 := []) (l2 := []), rfl, rfl⟩⟩ fun a62 u62 w62 K63 S64 f65 => ⟨trivial, ?_⟩
    refine WO.pn 4 rfl ?_
    obtain ⟨x67, hx67, h⟩ := Option.bind_eq_some_iff.mp h
    refine WO.call rfl rfl rfl rfl rfl rfl Try.call170 (i_areLetters_ok (κ := fun b => mp [] 0 (K63 b)) (Sl.map f65.rdc (mp [] 0) rfl rfl) hx67) ?_
    rintro _ w66 ⟨k67, rfl, e68⟩
    obtain ⟨K69, S70, m71⟩ := Ent.mixed (l := []) (κ := K63) e68 5 rfl
    refine ⟨trivial, ?_⟩
    refine WO.pn 1 rfl ?_
    refine WO.fin ?_
    refine DN.seq ?_
    revert h
    cases ht73 : (!x67) with
    | true =>
     intro h; replace h := cT h
     refine WC.ct rfl ?_
     refine WC.seq ?_
     refine WC.rs [(0, 2)] rfl ?_
     refine WO.pn 1 rfl ?_
     refine WO.fin ?_
     refine DN.seq ?_
     refine WC.ret ?_
     refine DN.retBlock ?_
     refine DN.retThen ?_
     refine DN.retThen ?_
     obtain rfl := Option.some.inj h
     obtain rfl := Option.some.inj hk52
     have h := hK44
     dsimp only [aft] at h
     refine DN.retBlock ?_
     refine DN.retMeet ?_
     refine DN.retThen ?_
     have f74 := hE.stp (S3.tr (S9.tr (S15.tr (S21.tr (S27.tr (S33.tr (S39.tr (S51.tr (S57.tr (S60.tr (S64.tr S70))))))))))) rfl rfl
     refine DN.res (l := [.tmp 2]) Try.results105 (res_tmp rfl rfl) rfl ?_
     obtain rfl := Option.some.inj h
     exact ⟨K69, rfl, f74⟩
    | false =>
     intro h; replace h := cF h
     refine WC.cf rfl ?_
     refine WC.skip ?_
     refine DN.block ?_
     refine DN.seq ?_
     refine WC.rs [(0, 2), (1, 2)] rfl ?_
     refine WO.pn 2 rfl ?_
     refine WO.fin ?_
     have hw43 : IntKind.wrap .i64 (v53 + 1) = v53 + 1 := wr1 hj43 (of_decide_eq_true hc43) hN43
     rw [hw43]
     have hc43 := of_decide_eq_true hc43
     obtain rfl := Option.some.inj h
     refine DN.round fun a ha => ?_
     exact ⟨k, _, Nat.lt_succ_self _, ⟨K69, v53 + 1, rfl, (S51.tr (S57.tr (S60.tr (S64.tr S70)))).wk rfl, by omega, by omega, hk52⟩, (ha.more (ha.more (ha.more (ha.more (ha.more ha.nil rfl) rfl) rfl) rfl) rfl)⟩
  rintro _ w46 ⟨K47, rfl, S48, rfl⟩
  have h := hK44
  dsimp only [aft] at h
  refine DN.seq ?_
  refine WC.seq ?_
  refine WC.rx (κ := K47) [2] none [(0, 2), (1, 0), (2, 0), (3, 1), (4, 2), (5, 1), (6, 2), (7, 2), (8, 0), (9, 0), (10, 1), (11, 2), (12, 1), (13, 2), (14, 2)] [] (by kernel_rfl) (by kernel_rfl) fun w76 S75 => ?_
  refine WO.k2 rfl rfl rfl rfl (rn_fieldAddr Try.runUnderlying57 rfl Try.sizeOf22 rfl rfl) ?_
  have f77 := f42.stp (S48.tr S75) rfl rfl
  refine WO.k0 rfl rfl rfl rfl (rn_ld Try.isAgg22 rfl rfl (hvC (f77.ld 2 rfl rfl) rfl)) ?_
  refine WO.k0 rfl rfl rfl rfl (rn_la (cs := [.int .i64 p0.Inputs, .int .i64 p0.Latches, .slice a0_2 p0.Next.length u0_2, .slice a0_3 p0.Gates.length u0_3, .slice a0_4 p0.Outs.length u0_4]) Try.isAgg57 Try.sizeOf57 rfl rfl rfl (haC f77.cells rfl)) ?_
  obtain ⟨x73, hx73, h⟩ := Option.bind_eq_some_iff.mp h
  have f78 := g0_2.stp (S3.tr (S9.tr (S15.tr (S21.tr (S27.tr (S33.tr (S39.tr (S48.tr S75)))))))) rfl rfl
  have f79 := g0_3.stp (S3.tr (S9.tr (S15.tr (S21.tr (S27.tr (S33.tr (S39.tr (S48.tr S75)))))))) rfl rfl
  have f80 := g0_4.stp (S3.tr (S9.tr (S15.tr (S21.tr (S27.tr (S33.tr (S39.tr (S48.tr S75)))))))) rfl rfl
  refine WO.call rfl rfl rfl rfl rfl rfl Try.call171 (i_signalsOf_ok (κ := fun b => mp [] 0 (K47 b)) (p0 := p0) (Sl.map f78 (mp [] 0) rfl rfl) (Sl.map f79 (mp [] 0) rfl rfl) (Sl.map f80 (mp [] 0) rfl rfl) hx73) ?_
  rintro _ w81 ⟨k82, rfl, e83⟩
  obtain ⟨K84, S85, m86⟩ := Ent.mixed (l := []) (κ := K47) e83 3 rfl
  refine ⟨(S85.cl rfl), ?_⟩
  refine WO.pn 1 rfl ?_
  obtain ⟨x75, hx75, h⟩ := Option.bind_eq_some_iff.mp h
  have f88 := f78.stp S85 rfl rfl
  refine WO.call rfl rfl rfl rfl rfl rfl Try.call170 (i_areLetters_ok (κ := fun b => mp [] 0 (K84 b)) (Sl.map f88 (mp [] 0) rfl rfl) hx75) ?_
  rintro _ w89 ⟨k90, rfl, e91⟩
  obtain ⟨K92, S93, m94⟩ := Ent.mixed (l := []) (κ := K84) e91 5 rfl
  refine ⟨((S85.tr S93).cl rfl), ?_⟩
  refine WO.pn 1 rfl ?_
  obtain ⟨p83, h, hK96⟩ := Option.bind_eq_some_iff.mp h
  refine WO.meet [(7, 2), (8, 0), (9, 0), (10, 1), (11, 2), (12, 1), (13, 2)] [(14, 2)] (fun L w' => L = [(83, .bool p83)] ∧ ∃ κ', Stp [] K92 w89 κ' w') ((S85.tr S93).cl rfl) ?_ ?_
  ·
   revert h
   cases ht97 : x75 with
   | true =>
    intro h; replace h := cT h
    refine WO.k2 rfl rfl rfl rfl (rn_fieldAddr Try.runUnderlying57 rfl Try.sizeOf22 rfl rfl) ?_
    refine WO.k0 rfl rfl rfl rfl (rn_ld Try.isAgg22 rfl rfl (hvC (f77.ld 4 rfl rfl) rfl)) ?_
    refine WO.k0 rfl rfl rfl rfl (rn_la (cs := [.int .i64 p0.Inputs, .int .i64 p0.Latches, .slice a0_2 p0.Next.length u0_2, .slice a0_3 p0.Gates.length u0_3, .slice a0_4 p0.Outs.length u0_4]) Try.isAgg57 Try.sizeOf57 rfl rfl rfl (haC f77.cells rfl)) ?_
    obtain ⟨x80, hx80, h⟩ := Option.bind_eq_some_iff.mp h
    have f98 := f88.stp S93 rfl rfl
    have f99 := f79.stp (S85.tr S93) rfl rfl
    have f100 := f80.stp (S85.tr S93) rfl rfl
    refine WO.call rfl rfl rfl rfl rfl rfl Try.call171 (i_signalsOf_ok (κ := fun b => mp [] 0 (K92 b)) (p0 := p0) (Sl.map f98 (mp [] 0) rfl rfl) (Sl.map f99 (mp [] 0) rfl rfl) (Sl.map f100 (mp [] 0) rfl rfl) hx80) ?_
    rintro _ w101 ⟨k102, rfl, e103⟩
    obtain ⟨K104, S105, m106⟩ := Ent.mixed (l := []) (κ := K92) e103 7 rfl
    refine ⟨((S85.tr (S93.tr S105)).cl rfl), ?_⟩
    refine WO.pn 1 rfl ?_
    obtain ⟨x82, hx82, h⟩ := Option.bind_eq_some_iff.mp h
    have f108 := f100.stp S105 rfl rfl
    refine WO.call rfl rfl rfl rfl rfl rfl Try.call170 (i_areLetters_ok (κ := fun b => mp [] 0 (K104 b)) (Sl.map f108 (mp [] 0) rfl rfl) hx82) ?_
    rintro _ w109 ⟨k110, rfl, e111⟩
    obtain ⟨K112, S113, m114⟩ := Ent.mixed (l := []) (κ := K104) e111 9 rfl
    refine ⟨((S85.tr (S93.tr (S105.tr S113))).cl rfl), ?_⟩
    refine WO.pn 1 rfl ?_
    obtain rfl := Option.some.inj h
    exact WO.met _ ((S85.tr (S93.tr (S105.tr S113))).cl rfl) ⟨rfl, _, (S105.tr S113).wk rfl⟩ fun a ha => (ha.more ha.nil rfl)
   | false =>
    intro h; replace h := cF h
    refine WO.pn 1 rfl ?_
    refine WO.qs rfl rfl rfl rfl ?_
    refine WO.qs rfl rfl rfl rfl ?_
    refine WO.ls rfl rfl rfl rfl ?_
    refine WO.pn 1 rfl ?_
    refine WO.ls rfl rfl rfl rfl ?_
    refine WO.pn 1 rfl ?_
    obtain rfl := Option.some.inj h
    exact WO.met _ ((S85.tr S93).cl rfl) ⟨rfl, _, (Stp.refl _ _).wk rfl⟩ fun a ha => (ha.more ha.nil rfl)
  rintro _ w116 _ ⟨rfl, K117, S118⟩
  have h := hK96
  refine WO.pn 1 rfl ?_
  refine WO.nx ?_
  refine WO.fin ?_
  refine DN.seq ?_
  refine WC.ret ?_
  have f119 := hE.stp (S3.tr (S9.tr (S15.tr (S21.tr (S27.tr (S33.tr (S39.tr (S48.tr (S75.tr (S85.tr (S93.tr S118))))))))))) rfl rfl
  refine DN.res (l := [.tmp 2]) Try.results105 (res_tmp rfl rfl) rfl ?_
  obtain rfl := Option.some.inj h
  exact ⟨K117, rfl, f119⟩

/- loop.example/g00869/impl.CircuitMeets -/
theorem i_CircuitMeets_ok {w : World} {κ : Col} {p0 : Sig} {a1_2 : Option Addr} {u1_2 : Nat} {a1_3 : Option Addr} {u1_3 : Nat} {a1_4 : Option Addr} {u1_4 : Nat} {p1 : Circuit} {a2_0 : Option Addr} {u2_0 : Nat} {a2_1 : Option Addr} {u2_1 : Nat} {p2 : Machine} (g1_2 : Rd (Rp.int .i64) κ w 0 a1_2 u1_2 p1.Next) (g1_3 : Rd Gate.rp κ w 0 a1_3 u1_3 p1.Gates) (g1_4 : Rd (Rp.int .i64) κ w 0 a1_4 u1_4 p1.Outs) (g2_0 : Rd (Rp.sl (Rp.int .i64)) κ w 0 a2_0 u2_0 p2.Next) (g2_1 : Rd (Rp.sl (Rp.int .i64)) κ w 0 a2_1 u2_1 p2.Out) {r : Bool} (h : i_CircuitMeets p0 p1 p2 = some r) : Ret Try.prog 36 [.agg #[.int .i64 p0.In, .int .i64 p0.Out], .agg #[.int .i64 p1.Inputs, .int .i64 p1.Latches, .slice a1_2 p1.Next.length u1_2, .slice a1_3 p1.Gates.length u1_3, .slice a1_4 p1.Outs.length u1_4], .agg #[.slice a2_0 p2.Next.length u2_0, .slice a2_1 p2.Out.length u2_1]] w (fun v w' => ∃ (κ' : Col), v = .bool r ∧ Ent κ w κ' w') := by
 unfold i_CircuitMeets at h
 refine Ret.enter Try.func36 rfl Try.ntmps36 rfl ?_
 dsimp only [envOf]
 have hE := Ent.refl κ w
 refine WC.seq ?_
 refine WC.rs [(0, 1), (1, 1), (2, 1), (3, 2)] rfl ?_
 refine WO.box (κ := κ) 2 rfl rfl rfl rfl rfl rfl rfl fun b3 w1 K2 S3 f4 => ⟨trivial, ?_⟩
 refine WO.box (κ := K2) 3 rfl rfl rfl rfl rfl rfl rfl fun b4 w5 K6 S7 f8 => ⟨trivial, ?_⟩
 refine WO.box (κ := K6) 4 rfl rfl rfl rfl rfl rfl rfl fun b5 w9 K10 S11 f12 => ⟨trivial, ?_⟩
 refine WO.pn 1 rfl ?_
 refine WO.fin ?_
 refine DN.seq ?_
 refine WC.seq ?_
 refine WC.seq ?_
 refine WC.rs [(0, 1), (1, 1), (2, 2), (3, 2), (4, 1), (5, 1), (6, 1), (7, 2), (8, 2), (9, 2), (10, 1), (11, 1), (12, 2), (13, 2), (14, 2), (15, 2), (16, 1), (17, 2), (18, 1), (19, 2), (20, 2), (21, 2), (22, 2), (23, 1), (24, 2), (25, 2), (26, 1), (27, 2), (28, 2)] rfl ?_
 have f13 := f4.stp (S7.tr S11) rfl rfl
 refine WO.k1 trivial rfl rfl rfl rfl (rn_la (cs := [.int .i64 p0.In, .int .i64 p0.Out]) Try.isAgg53 Try.sizeOf53 rfl rfl rfl (haE f13.cells)) ?_
 obtain ⟨x15, hx15, h⟩ := Option.bind_eq_some_iff.mp h
 refine WO.call rfl rfl rfl rfl rfl rfl Try.call104 (i_isSig_ok (κ := fun b => mp [] 0 (K10 b)) (p0 := p0) hx15) ?_
 rintro _ w14 ⟨k15, rfl, e16⟩
 obtain ⟨K17, S18, m19⟩ := Ent.mixed (l := []) (κ := K10) e16 5 rfl
 refine ⟨trivial, ?_⟩
 refine WO.pn 2 rfl ?_
 obtain ⟨p22, h, hK21⟩ := Option.bind_eq_some_iff.mp h
 refine WO.meet [(4, 1), (5, 1), (6, 1), (7, 2), (8, 2)] [(9, 2), (10, 1), (11, 1), (12, 2), (13, 2), (14, 2), (15, 2), (16, 1), (17, 2), (18, 1), (19, 2), (20, 2), (21, 2), (22, 2), (23, 1), (24, 2), (25, 2), (26, 1), (27, 2), (28, 2)] (fun L w' => L = [(3, .pointer (some ⟨b3, 0, none⟩)), (4, .pointer (some ⟨b4, 0, none⟩)), (5, .pointer (some ⟨b5, 0, none⟩)), (22, .bool p22)] ∧ ∃ κ', Stp [] K17 w14 κ' w') trivial ?_ ?_
 ·
  revert h
  cases ht22 : (!x15) with
  | true =>
   intro h; replace h := cT h
   refine WO.ls rfl rfl rfl rfl ?_
   refine WO.ls rfl rfl rfl rfl ?_
   refine WO.ls rfl rfl rfl rfl ?_
   refine WO.pn 2 rfl ?_
   obtain rfl := Option.some.inj h
   exact WO.met _ trivial ⟨rfl, _, (Stp.refl _ _).wk rfl⟩ fun a ha => (ha.more (ha.more (ha.more (ha.more ha.nil rfl) rfl) rfl) rfl)
  | false =>
   intro h; replace h := cF h
   have f23 := f13.stp S18 rfl rfl
   refine WO.k1 trivial rfl rfl rfl rfl (rn_la (cs := [.int .i64 p0.In, .int .i64 p0.Out]) Try.isAgg53 Try.sizeOf53 rfl rfl rfl (haE f23.cells)) ?_
   have f24 := f12.stp S18 rfl rfl
   refine WO.k1 trivial rfl rfl rfl rfl (rn_la (cs := [.slice a2_0 p2.Next.length u2_0, .slice a2_1 p2.Out.length u2_1]) Try.isAgg50 Try.sizeOf50 rfl rfl rfl (haE f24.cells)) ?_
   obtain ⟨x20, hx20, h⟩ := Option.bind_eq_some_iff.mp h
   have f25 := g2_0.stp (S3.tr (S7.tr (S11.tr S18))) rfl rfl
   have f26 := g2_1.stp (S3.tr (S7.tr (S11.tr S18))) rfl rfl
   refine WO.call rfl rfl rfl rfl rfl rfl Try.call113 (i_isMachine_ok (κ := fun b => mp [] 0 (K17 b)) (p0 := p0) (p1 := p2) (Sl.map f25 (mp [] 0) rfl rfl) (Sl.map f26 (mp [] 0) rfl rfl) hx20) ?_
   rintro _ w27 ⟨k28, rfl, e29⟩
   obtain ⟨K30, S31, m32⟩ := Ent.mixed (l := []) (κ := K17) e29 7 rfl
   refine ⟨trivial, ?_⟩
   refine WO.pn 2 rfl ?_
   obtain rfl := Option.some.inj h
   exact WO.met _ trivial ⟨rfl, _, S31.wk rfl⟩ fun a ha => (ha.more (ha.more (ha.more (ha.more ha.nil rfl) rfl) rfl) rfl)
 rintro _ w34 _ ⟨rfl, K35, S36⟩
 have h := hK21
 refine WO.pn 1 rfl ?_
 obtain ⟨p27, h, hK37⟩ := Option.bind_eq_some_iff.mp h
 refine WO.meet [(10, 1), (11, 1), (12, 2), (13, 2)] [(14, 2), (15, 2), (16, 1), (17, 2), (18, 1), (19, 2), (20, 2), (21, 2), (22, 2), (23, 1), (24, 2), (25, 2), (26, 1), (27, 2), (28, 2)] (fun L w' => L = [(3, .pointer (some ⟨b3, 0, none⟩)), (4, .pointer (some ⟨b4, 0, none⟩)), (5, .pointer (some ⟨b5, 0, none⟩)), (27, .bool p27)] ∧ ∃ κ', Stp [] K35 w34 κ' w') trivial ?_ ?_
 ·
  revert h
  cases ht38 : p22 with
  | true =>
   intro h; replace h := cT h
   refine WO.ls rfl rfl rfl rfl ?_
   refine WO.ls rfl rfl rfl rfl ?_
   refine WO.pn 2 rfl ?_
   obtain rfl := Option.some.inj h
   exact WO.met _ trivial ⟨rfl, _, (Stp.refl _ _).wk rfl⟩ fun a ha => (ha.more (ha.more (ha.more (ha.more ha.nil rfl) rfl) rfl) rfl)
  | false =>
   intro h; replace h := cF h
   have f39 := f8.stp (S11.tr (S18.tr S36)) rfl rfl
   refine WO.k1 trivial rfl rfl rfl rfl (rn_la (cs := [.int .i64 p1.Inputs, .int .i64 p1.Latches, .slice a1_2 p1.Next.length u1_2, .slice a1_3 p1.Gates.length u1_3, .slice a1_4 p1.Outs.length u1_4]) Try.isAgg57 Try.sizeOf57 rfl rfl rfl (haE f39.cells)) ?_
   obtain ⟨x25, hx25, h⟩ := Option.bind_eq_some_iff.mp h
   have f40 := g1_2.stp (S3.tr (S7.tr (S11.tr (S18.tr S36)))) rfl rfl
   have f41 := g1_3.stp (S3.tr (S7.tr (S11.tr (S18.tr S36)))) rfl rfl
   have f42 := g1_4.stp (S3.tr (S7.tr (S11.tr (S18.tr S36)))) rfl rfl
   refine WO.call rfl rfl rfl rfl rfl rfl Try.call105 (i_isCircuit_ok (κ := fun b => mp [] 0 (K35 b)) (p0 := p1) (Sl.map f40 (mp [] 0) rfl rfl) (Sl.map f41 (mp [] 0) rfl rfl) (Sl.map f42 (mp [] 0) rfl rfl) hx25) ?_
   rintro _ w43 ⟨k44, rfl, e45⟩
   obtain ⟨K46, S47, m48⟩ := Ent.mixed (l := []) (κ := K35) e45 7 rfl
   refine ⟨trivial, ?_⟩
   refine WO.pn 2 rfl ?_
   obtain rfl := Option.some.inj h
   exact WO.met _ trivial ⟨rfl, _, S47.wk rfl⟩ fun a ha => (ha.more (ha.more (ha.more (ha.more ha.nil rfl) rfl) rfl) rfl)
 rintro _ w50 _ ⟨rfl, K51, S52⟩
 have h := hK37
 refine WO.pn 1 rfl ?_
 obtain ⟨p34, h, hK53⟩ := Option.bind_eq_some_iff.mp h
 refine WO.meet [(15, 2), (16, 1), (17, 2), (18, 1), (19, 2), (20, 2)] [(21, 2), (22, 2), (23, 1), (24, 2), (25, 2), (26, 1), (27, 2), (28, 2)] (fun L w' => L = [(3, .pointer (some ⟨b3, 0, none⟩)), (4, .pointer (some ⟨b4, 0, none⟩)), (5, .pointer (some ⟨b5, 0, none⟩)), (34, .bool p34)] ∧ ∃ κ', Stp [] K51 w50 κ' w') trivial ?_ ?_
 ·
  revert h
  cases ht54 : p27 with
  | true =>
   intro h; replace h := cT h
   refine WO.pn 1 rfl ?_
   refine WO.ls rfl rfl rfl rfl ?_
   refine WO.pn 1 rfl ?_
   refine WO.ls rfl rfl rfl rfl ?_
   refine WO.pn 2 rfl ?_
   obtain rfl := Option.some.inj h
   exact WO.met _ trivial ⟨rfl, _, (Stp.refl _ _).wk rfl⟩ fun a ha => (ha.more (ha.more (ha.more (ha.more ha.nil rfl) rfl) rfl) rfl)
  | false =>
   intro h; replace h := cF h
   refine WO.k2 rfl rfl rfl rfl (rn_fieldAddr Try.runUnderlying57 rfl Try.sizeOf2 rfl rfl) ?_
   have f55 := f8.stp (S11.tr (S18.tr (S36.tr S52))) rfl rfl
   refine WO.k1 trivial rfl rfl rfl rfl (rn_ld Try.isAgg2 rfl rfl (hvE (f55.ld 0 rfl rfl))) ?_
   refine WO.k2 rfl rfl rfl rfl (rn_fieldAddr Try.runUnderlying53 rfl Try.sizeOf2 rfl rfl) ?_
   have f56 := f13.stp (S18.tr (S36.tr S52)) rfl rfl
   refine WO.k1 trivial rfl rfl rfl rfl (rn_ld Try.isAgg2 rfl rfl (hvE (f56.ld 0 rfl rfl))) ?_
   refine WO.pn 2 rfl ?_
   obtain rfl := Option.some.inj h
   exact WO.met _ trivial ⟨rfl, _, (Stp.refl _ _).wk rfl⟩ fun a ha => (ha.more (ha.more (ha.more (ha.more ha.nil rfl) rfl) rfl) rfl)
 rintro _ w57 _ ⟨rfl, K58, S59⟩
 have h := hK53
 refine WO.pn 1 rfl ?_
 obtain ⟨p42, h, hK60⟩ := Option.bind_eq_some_iff.mp h
 refine WO.meet [(22, 2), (23, 1), (24, 2), (25, 2), (26, 1), (27, 2), (28, 2)] [] (fun L w' => L = [(4, .pointer (some ⟨b4, 0, none⟩)), (5, .pointer (some ⟨b5, 0, none⟩)), (42, .bool p42)] ∧ ∃ κ', Stp [] K58 w57 κ' w') trivial ?_ ?_
 ·
  revert h
  cases ht61 : p34 with
  | true =>
   intro h; replace h := cT h
   refine WO.pn 1 rfl ?_
   refine WO.ls rfl rfl rfl rfl ?_
   refine WO.pn 2 rfl ?_
   refine WO.ls rfl rfl rfl rfl ?_
   refine WO.pn 2 rfl ?_
   obtain rfl := Option.some.inj h
   exact WO.met _ trivial ⟨rfl, _, (Stp.refl _ _).wk rfl⟩ fun a ha => (ha.more (ha.more (ha.more ha.nil rfl) rfl) rfl)
  | false =>
   intro h; replace h := cF h
   refine WO.k2 rfl rfl rfl rfl (rn_fieldAddr Try.runUnderlying57 rfl Try.sizeOf22 rfl rfl) ?_
   have f62 := f8.stp (S11.tr (S18.tr (S36.tr (S52.tr S59)))) rfl rfl
   refine WO.k1 trivial rfl rfl rfl rfl (rn_ld Try.isAgg22 rfl rfl (hvE (f62.ld 4 rfl rfl))) ?_
   refine WO.k2 rfl rfl rfl rfl (rn_len Try.runUnderlying22 rfl rfl) ?_
   refine WO.k2 rfl rfl rfl rfl (rn_fieldAddr Try.runUnderlying53 rfl Try.sizeOf2 rfl rfl) ?_
   have f63 := f13.stp (S18.tr (S36.tr (S52.tr S59))) rfl rfl
   refine WO.k1 trivial rfl rfl rfl rfl (rn_ld Try.isAgg2 rfl rfl (hvE (f63.ld 1 rfl rfl))) ?_
   refine WO.pn 2 rfl ?_
   obtain rfl := Option.some.inj h
   exact WO.met _ trivial ⟨rfl, _, (Stp.refl _ _).wk rfl⟩ fun a ha => (ha.more (ha.more (ha.more ha.nil rfl) rfl) rfl)
 rintro _ w64 _ ⟨rfl, K65, S66⟩
 have h := hK60
 refine WO.fin ?_
 refine DN.seq ?_
 revert h
 cases ht67 : p42 with
 | true =>
  intro h; replace h := cT h
  refine WC.ct rfl ?_
  refine WC.seq ?_
  refine WC.rs [(0, 2)] rfl ?_
  refine WO.pn 1 rfl ?_
  refine WO.fin ?_
  refine DN.seq ?_
  refine WC.ret ?_
  refine DN.retThen ?_
  have f68 := hE.stp (S3.tr (S7.tr (S11.tr (S18.tr (S36.tr (S52.tr (S59.tr S66))))))) rfl rfl
  refine DN.res (l := [.tmp 6]) Try.results36 (res_tmp rfl rfl) rfl ?_
  obtain rfl := Option.some.inj h
  exact ⟨K65, rfl, f68⟩
 | false =>
  intro h; replace h := cF h
  refine WC.cf rfl ?_
  refine WC.skip ?_
  refine DN.seq ?_
  refine WC.seq ?_
  refine WC.rs [(0, 2), (1, 1), (2, 2)] rfl ?_
  refine WO.k2 rfl rfl rfl rfl (rn_build (parts := [(0, .const (.int .i64 0)), (1, .const (.int .i64 0))]) (cells := [.int .i64 0, .int .i64 0]) rfl rfl (by kernel_rfl)) ?_
  refine WO.bl (κ := K65) (E := (Ep.pair (Ep.int .i64) (Ep.int .i64))) 7 [] (parts := [(0, .tmp 43)]) (cells := [.int .i64 0, .int .i64 0]) (xs := ([(0, 0)] : List (Int × Int))) rfl rfl rfl rfl rfl rfl Try.underlying153 Tryinfo152 rfl rfl rfl rfl rfl rfl rfl rfl rfl rfl ⟨[.int .i64 0, .int .i64 0], [], Zl K65 w64 [], Zl K65 w64 [], rfl, Zl.sp (l1 := []) (l2 := []) rfl, Zl.sr (l1 := []) (l2 := []), ⟨[.int .i64 0], [.int .i64 0], Zl K65 w64 [], Zl K65 w64 [], rfl, Zl.sp (l1 := []) (l2 := []) rfl, Zl.sr (l1 := []) (l2 := []), rfl, rfl⟩, rfl⟩ fun a44 u44 w69 K70 S71 f72 => ⟨trivial, ?_⟩
  refine WO.pn 1 rfl ?_
  refine WO.fin ?_
  refine DN.seq ?_
  refine WC.seq ?_
  refine WC.seq ?_
  refine WC.rs [(0, 2)] rfl ?_
  refine WO.pn 1 rfl ?_
  refine WO.fin ?_
  refine DN.seq ?_
  obtain ⟨q2, hq75, hK74⟩ := Option.bind_eq_some_iff.mp h
  clear h
  refine WC.meet (fun L w' => ∃ (κ' : Col) (s3 : (List (Int × Int)) × Int) (las3_0 : Option Addr) (lus3_0 : Nat), L = [] ∧ Stp [7, 10] K70 w69 κ' w' ∧ Oc (Ep.pair (Ep.int .i64) (Ep.int .i64)) 152 κ' w' 7 las3_0 lus3_0 s3.1 ∧ q2 = Sum.inr s3) ?_ ?_
  ·
   refine WC.block ?_
   refine WC.loop (fun k L w' => ∃ (κ' : Col) (s1 : (List (Int × Int)) × Int) (las1_0 : Option Addr) (lus1_0 : Nat), L = [(4, .pointer (some ⟨b4, 0, none⟩)), (5, .pointer (some ⟨b5, 0, none⟩)), (7, .slice las1_0 s1.1.length lus1_0), (8, .int .i64 s1.2)] ∧ Stp [7, 10] K70 w69 κ' w' ∧ Oc (Ep.pair (Ep.int .i64) (Ep.int .i64)) 152 κ' w' 7 las1_0 lus1_0 s1.1 ∧ whileM (i_CircuitMeets_b0 p1 p2) k s1 = some q2) ⟨_, _, ⟨K70, ((([(0, 0)] : List (Int × Int)) : (List (Int × Int))), (0 : Int)), a44, u44, rfl, (Stp.refl _ _).wk rfl, f72, hq75⟩, fun a ha => (ha.more (ha.more (ha.more (ha.more ha.nil rfl) rfl) rfl) rfl)⟩ ?_
   rintro k _ w80 ⟨K81, s1, las1_0, lus1_0, rfl, S82, f83, h⟩
   rcases k with _ | k
   ·
    cases h
   ·
    obtain ⟨o73, h, hk84⟩ := Option.bind_eq_some_iff.mp h; unfold i_CircuitMeets_b0 at h
    refine WC.seq ?_
    refine WC.seq ?_
    refine WC.rs [(0, 2), (1, 2), (2, 2), (3, 2)] rfl ?_
    refine WO.pn 2 rfl ?_
    refine WO.k2 rfl rfl rfl rfl (rn_len Try.runUnderlying153 rfl rfl) ?_
    refine WO.pn 1 rfl ?_
    refine WO.fin ?_
    refine DN.seq ?_
    revert h
    cases ht85 : decide (s1.2 < (s1.1.length : Int)) with
    | true =>
     intro h; replace h := cT h
     refine WC.ct rfl ?_
     refine WC.skip ?_
     refine DN.seq ?_
     refine WC.seq ?_
     refine WC.block ?_
     refine WC.seq ?_
     refine WC.rx (κ := K81) [0, 4, 7] none [(0, 2), (2, 2), (3, 2), (4, 2), (5, 2), (10, 2), (1, 0), (6, 0), (7, 2), (8, 0), (9, 2)] [] (by kernel_rfl) (by kernel_rfl) fun w87 S86 => ?_
     refine WO.k2 rfl rfl rfl rfl (rn_fieldAddr Try.runUnderlying50 rfl Try.sizeOf23 rfl rfl) ?_
     refine WO.pn 2 rfl ?_
     obtain ⟨x55, hx55, h⟩ := Option.bind_eq_some_iff.mp h
     refine WO.k2 rfl rfl rfl rfl (rn_index f83.rdc hx55 Try.runUnderlying153 Try.sizeOf152 rfl rfl rfl rfl) ?_
     refine WO.k2 rfl rfl rfl rfl (rn_indexA Try.runUnderlying152 Try.sizeOf2 rfl rfl rfl rfl) ?_
     refine WO.pn 1 rfl ?_
     have f88 := f12.stp (S18.tr (S36.tr (S52.tr (S59.tr (S66.tr (S71.tr (S82.tr S86))))))) rfl rfl
     refine WO.k0 rfl rfl rfl rfl (rn_ld Try.isAgg23 rfl rfl (hvC (f88.ld 0 rfl rfl) rfl)) ?_
     have f89 := f83.stp S86 rfl rfl
     obtain ⟨cse90, hre90, hle90⟩ := (f89.rdc).gSt hx55
     obtain ⟨_, _, rfl, rfl, rfl⟩ := hre90
     refine WO.k0 rfl rfl rfl rfl (rn_ld Try.isAgg2 rfl rfl (hvC (fun w' hw' => hle90 w' hw' 1 _ rfl) rfl)) ?_
     obtain ⟨x58, hx58, h⟩ := Option.bind_eq_some_iff.mp h
     refine WO.k2 rfl rfl rfl rfl (rn_index g2_0 hx58 Try.runUnderlying23 Try.sizeOf22 rfl rfl rfl rfl) ?_
     have f91 := g2_0.stp (S3.tr (S7.tr (S11.tr (S18.tr (S36.tr (S52.tr (S59.tr (S66.tr (S71.tr (S82.tr S86)))))))))) rfl rfl
     obtain ⟨ax58, ux58, f92, hl93⟩ := f91.gSl hx58
     refine WO.k0 rfl rfl rfl rfl (rn_ld Try.isAgg22 rfl rfl (hvC hl93 rfl)) ?_
     refine WO.k2 rfl rfl rfl rfl (rn_len Try.runUnderlying22 rfl rfl) ?_
     refine WO.nx ?_
     refine WO.fin ?_
     refine DN.seq ?_
     have hN94 : (x58.length : Int) ≤ 9223372036854775807 := f92.len_le
     obtain ⟨q5, hq96, hK95⟩ := Option.bind_eq_some_iff.mp h
     clear h
     refine WC.meet (fun L w' => ∃ (κ' : Col) (s6 : (List (Int × Int))) (las6_0 : Option Addr) (lus6_0 : Nat), L = [(4, .pointer (some ⟨b4, 0, none⟩)), (5, .pointer (some ⟨b5, 0, none⟩)), (7, .slice las6_0 s6.length lus6_0), (8, .int .i64 s1.2)] ∧ Stp [7, 10] K81 w87 κ' w' ∧ Oc (Ep.pair (Ep.int .i64) (Ep.int .i64)) 152 κ' w' 7 las6_0 lus6_0 s6 ∧ q5 = Sum.inr s6) ?_ ?_
     ·
      refine WC.block ?_
      refine WC.loop (fun k L w' => ∃ (κ' : Col) (v61 : Int) (s4 : (List (Int × Int))) (las4_0 : Option Addr) (lus4_0 : Nat), L = [(4, .pointer (some ⟨b4, 0, none⟩)), (5, .pointer (some ⟨b5, 0, none⟩)), (7, .slice las4_0 s4.length lus4_0), (8, .int .i64 s1.2), (59, .slice ax58 x58.length ux58), (60, .int .i64 (x58.length : Int)), (61, .int .i64 v61)] ∧ Stp [7, 10] K81 w87 κ' w' ∧ Oc (Ep.pair (Ep.int .i64) (Ep.int .i64)) 152 κ' w' 7 las4_0 lus4_0 s4 ∧ 0 ≤ v61 ∧ Int.toNat ((x58.length : Int) - v61) = k ∧ cntM (i_CircuitMeets_b2 p1 p2 s1 x58) k v61 s4 = some q5) ⟨_, _, ⟨K81, 0, (s1.1 : (List (Int × Int))), las1_0, lus1_0, rfl, (Stp.refl _ _).wk rfl, f89, (by decide), (by simp), hq96⟩, fun a ha => (ha.more (ha.more (ha.more (ha.more (ha.more (ha.more (ha.more ha.nil rfl) rfl) rfl) rfl) rfl) rfl) rfl)⟩ ?_
      rintro k _ w101 ⟨K102, v61, s4, las4_0, lus4_0, rfl, S103, f104, hj94, hJ94, h⟩
      rcases k with _ | k
      ·
       have hk105 := h; obtain ⟨o94, h⟩ := ex_eq (Sum.inr (Sum.inl s4) : Bool ⊕ (((List (Int × Int))) ⊕ ((List (Int × Int)))))
       have hc94 : decide (v61 < (x58.length : Int)) = false := decide_eq_false (by omega)
       refine WC.seq ?_
       refine WC.rs [(0, 2)] rfl ?_
       refine WO.pn 1 rfl ?_
       refine WO.fin ?_
       refine DN.seq ?_
       refine WC.seq ?_
       refine WC.cf' rfl hc94 ?_
       refine WC.exit ?_
       refine DN.exitThen ?_
       refine DN.exitThen ?_
       obtain rfl := Option.some.inj h
       have h := hk105
       refine DN.hit ?_
       obtain rfl := Option.some.inj h
       exact DN.meet _ ⟨K102, (s4 : (List (Int × Int))), las4_0, lus4_0, rfl, S103.wk rfl, f104, rfl⟩ fun a ha => (ha.more (ha.more (ha.more (ha.more ha.nil rfl) rfl) rfl) rfl)
      ·
       obtain ⟨o94, h, hk105⟩ := Option.bind_eq_some_iff.mp h; unfold i_CircuitMeets_b2 at h
       have hc94 : decide (v61 < (x58.length : Int)) = true := decide_eq_true (by omega)
       refine WC.seq ?_
       refine WC.rs [(0, 2)] rfl ?_
       refine WO.pn 1 rfl ?_
       refine WO.fin ?_
       refine DN.seq ?_
       refine WC.seq ?_
       refine WC.ct' rfl hc94 ?_
       refine WC.skip ?_
       refine DN.seq ?_
       refine WC.seq ?_
       refine WC.block ?_
       refine WC.seq ?_
       refine WC.rs [(0, 2), (1, 2), (2, 1), (3, 2), (4, 2)] rfl ?_
       refine WO.pn 1 rfl ?_
       obtain ⟨x64, hx64, h⟩ := Option.bind_eq_some_iff.mp h
       refine WO.k2 rfl rfl rfl rfl (rn_index f92 hx64 Try.runUnderlying22 Try.sizeOf2 rfl rfl rfl rfl) ?_
       have f106 := f92.stp S103 rfl rfl
       refine WO.k1 trivial rfl rfl rfl rfl (rn_ld Try.isAgg2 rfl rfl (hvE (f106.gInt hx64))) ?_
       refine WO.pn 2 rfl ?_
       refine WO.fin ?_
       refine DN.seq ?_
       refine WC.seq ?_
       refine WC.rx (κ := K102) [0, 3, 7] none [(1, 2), (2, 2), (3, 2), (4, 2), (6, 2), (0, 0), (5, 0), (7, 1), (8, 2), (9, 2), (10, 2), (11, 2), (12, 2)] [] (by kernel_rfl) (by kernel_rfl) fun w108 S107 => ?_
       refine WO.pn 2 rfl ?_
       obtain ⟨x70, hx70, h⟩ := Option.bind_eq_some_iff.mp h
       refine WO.k2 rfl rfl rfl rfl (rn_index f104.rdc hx70 Try.runUnderlying153 Try.sizeOf152 rfl rfl rfl rfl) ?_
       refine WO.k2 rfl rfl rfl rfl (rn_indexA Try.runUnderlying152 Try.sizeOf2 rfl rfl rfl rfl) ?_
       refine WO.pn 1 rfl ?_
       have f109 := f8.stp (S11.tr (S18.tr (S36.tr (S52.tr (S59.tr (S66.tr (S71.tr (S82.tr (S86.tr (S103.tr S107)))))))))) rfl rfl
       refine WO.k0 rfl rfl rfl rfl (rn_la (cs := [.int .i64 p1.Inputs, .int .i64 p1.Latches, .slice a1_2 p1.Next.length u1_2, .slice a1_3 p1.Gates.length u1_3, .slice a1_4 p1.Outs.length u1_4]) Try.isAgg57 Try.sizeOf57 rfl rfl rfl (haC f109.cells rfl)) ?_
       have f110 := f104.stp S107 rfl rfl
       obtain ⟨cse111, hre111, hle111⟩ := (f110.rdc).gSt hx70
       obtain ⟨_, _, rfl, rfl, rfl⟩ := hre111
       refine WO.k0 rfl rfl rfl rfl (rn_ld Try.isAgg2 rfl rfl (hvC (fun w' hw' => hle111 w' hw' 0 _ rfl) rfl)) ?_
       obtain ⟨x74, hx74, h⟩ := Option.bind_eq_some_iff.mp h
       have f112 := g1_2.stp (S3.tr (S7.tr (S11.tr (S18.tr (S36.tr (S52.tr (S59.tr (S66.tr (S71.tr (S82.tr (S86.tr (S103.tr S107)))))))))))) rfl rfl
       have f113 := g1_3.stp (S3.tr (S7.tr (S11.tr (S18.tr (S36.tr (S52.tr (S59.tr (S66.tr (S71.tr (S82.tr (S86.tr (S103.tr S107)))))))))))) rfl rfl
       have f114 := g1_4.stp (S3.tr (S7.tr (S11.tr (S18.tr (S36.tr (S52.tr (S59.tr (S66.tr (S71.tr (S82.tr (S86.tr (S103.tr S107)))))))))))) rfl rfl
       refine WO.call rfl rfl rfl rfl rfl rfl Try.call107 (i_stepOf_ok (κ := fun b => mp [] 0 (K102 b)) (p0 := p1) (Sl.map f112 (mp [] 0) rfl rfl) (Sl.map f113 (mp [] 0) rfl rfl) (Sl.map f114 (mp [] 0) rfl rfl) hx74) ?_
       rintro _ w115 ⟨k116, rfl, e117⟩
       obtain ⟨K118, S119, m120⟩ := Ent.mixed (l := []) (κ := K102) e117 8 rfl
       refine ⟨(S119.cl rfl), ?_⟩
       refine WO.pn 5 rfl ?_
       refine WO.nx ?_
       refine WO.fin ?_
       refine DN.seq ?_
       refine WC.seq ?_
       refine WC.seq ?_
       refine WC.rx (κ := K118) [0, 4, 7] none [(0, 2), (1, 2), (3, 2), (4, 2), (5, 2), (6, 2), (10, 2), (2, 0), (7, 0), (8, 2), (9, 0), (11, 2), (12, 0), (13, 2)] [] (by kernel_rfl) (by kernel_rfl) fun w123 S122 => ?_
       refine WO.pn 1 rfl ?_
       refine WO.k2 rfl rfl rfl rfl (rn_fieldAddr Try.runUnderlying50 rfl Try.sizeOf23 rfl rfl) ?_
       refine WO.pn 2 rfl ?_
       obtain ⟨x82, hx82, h⟩ := Option.bind_eq_some_iff.mp h
       refine WO.k2 rfl rfl rfl rfl (rn_index f110.rdc hx82 Try.runUnderlying153 Try.sizeOf152 rfl rfl rfl rfl) ?_
       refine WO.k2 rfl rfl rfl rfl (rn_indexA Try.runUnderlying152 Try.sizeOf2 rfl rfl rfl rfl) ?_
       refine WO.pn 1 rfl ?_
       have f124 := f88.stp (S103.tr (S107.tr (S119.tr S122))) rfl rfl
       refine WO.k0 rfl rfl rfl rfl (rn_ld Try.isAgg23 rfl rfl (hvC (f124.ld 1 rfl rfl) rfl)) ?_
       have f125 := f110.stp (S119.tr S122) rfl rfl
       obtain ⟨cse126, hre126, hle126⟩ := (f125.rdc).gSt hx82
       obtain ⟨_, _, rfl, rfl, rfl⟩ := hre126
       refine WO.k0 rfl rfl rfl rfl (rn_ld Try.isAgg2 rfl rfl (hvC (fun w' hw' => hle126 w' hw' 1 _ rfl) rfl)) ?_
       obtain ⟨x85, hx85, h⟩ := Option.bind_eq_some_iff.mp h
       refine WO.k2 rfl rfl rfl rfl (rn_index g2_1 hx85 Try.runUnderlying23 Try.sizeOf22 rfl rfl rfl rfl) ?_
       have f127 := g2_1.stp (S3.tr (S7.tr (S11.tr (S18.tr (S36.tr (S52.tr (S59.tr (S66.tr (S71.tr (S82.tr (S86.tr (S103.tr (S107.tr (S119.tr S122)))))))))))))) rfl rfl
       obtain ⟨ax85, ux85, f128, hl129⟩ := f127.gSl hx85
       refine WO.k0 rfl rfl rfl rfl (rn_ld Try.isAgg22 rfl rfl (hvC hl129 rfl)) ?_
       obtain ⟨x88, hx88, h⟩ := Option.bind_eq_some_iff.mp h
       refine WO.k2 rfl rfl rfl rfl (rn_index f128 hx88 Try.runUnderlying22 Try.sizeOf2 rfl rfl rfl rfl) ?_
       refine WO.k0 rfl rfl rfl rfl (rn_ld Try.isAgg2 rfl rfl (hvC (f128.gInt hx88) rfl)) ?_
       refine WO.pn 1 rfl ?_
       refine WO.nx ?_
       refine WO.fin ?_
       refine DN.seq ?_
       revert h
       cases ht130 : (x74.2 != x88) with
       | true =>
        intro h; replace h := cT h
        refine WC.ct rfl ?_
        refine WC.seq ?_
        refine WC.rs [(0, 2)] rfl ?_
        refine WO.pn 1 rfl ?_
        refine WO.fin ?_
        refine DN.seq ?_
        refine WC.ret ?_
        refine DN.retThen ?_
        refine DN.retBlock ?_
        refine DN.retThen ?_
        refine DN.retThen ?_
        obtain rfl := Option.some.inj h
        obtain rfl := Option.some.inj hk105
        have h := hK95
        dsimp only [aft] at h
        refine DN.retBlock ?_
        refine DN.retMeet ?_
        refine DN.retBlock ?_
        refine DN.retThen ?_
        refine DN.retThen ?_
        obtain rfl := Option.some.inj h
        obtain rfl := Option.some.inj hk84
        have h := hK74
        dsimp only [aft] at h
        refine DN.retBlock ?_
        refine DN.retMeet ?_
        refine DN.retThen ?_
        have f131 := hE.stp (S3.tr (S7.tr (S11.tr (S18.tr (S36.tr (S52.tr (S59.tr (S66.tr (S71.tr (S82.tr (S86.tr (S103.tr (S107.tr (S119.tr S122)))))))))))))) rfl rfl
        refine DN.res (l := [.tmp 6]) Try.results36 (res_tmp rfl rfl) rfl ?_
        obtain rfl := Option.some.inj h
        exact ⟨K118, rfl, f131⟩
       | false =>
        intro h; replace h := cF h
        refine WC.cf rfl ?_
        refine WC.skip ?_
        refine DN.seq ?_
        refine WC.seq ?_
        refine WC.rs [(0, 2), (1, 2), (2, 2), (3, 1), (4, 1)] rfl ?_
        refine WO.pn 2 rfl ?_
        refine WO.k2 rfl rfl rfl rfl (rn_build (parts := [(0, .tmp 91), (1, .tmp 92)]) (cells := [.int .i64 x74.1, .int .i64 x64]) rfl rfl (by kernel_rfl)) ?_
        refine WO.alloc (κ := K118) 10 rfl rfl rfl rfl rfl Try.zeroValue152 rfl fun b13 w132 K133 S134 f135 => ⟨trivial, ?_⟩
        refine WO.stB0 (κ := K133) 10 (vc := [.int .i64 x74.1, .int .i64 x64]) rfl rfl rfl rfl rfl rfl rfl Try.sizeOf152 rfl rfl f135 rfl fun w136 S137 f138 => ⟨trivial, ?_⟩
        refine WO.fin ?_
        refine DN.seq ?_
        refine WC.seq ?_
        refine WC.rs [(0, 2), (1, 1), (2, 1), (3, 2)] rfl ?_
        refine WO.pn 1 rfl ?_
        refine WO.k1 trivial rfl rfl rfl rfl (rn_la (cs := [.int .i64 x74.1, .int .i64 x64]) Try.isAgg152 Try.sizeOf152 rfl rfl rfl (haE f138.cells)) ?_
        obtain ⟨x96, hx96, h⟩ := Option.bind_eq_some_iff.mp h
        have f139 := f125.stp (S134.tr S137) rfl rfl
        refine WO.call rfl rfl rfl rfl rfl rfl Try.call114 (slices_Contains_2_int64_2_int64_ok (κ := fun b => mp [] 0 (K133 b)) (p1 := (x74.1, x64)) (Sl.map f139.rdc (mp [] 0) rfl rfl) hx96) ?_
        rintro _ w140 ⟨k141, rfl, e142⟩
        obtain ⟨K143, S144, m145⟩ := Ent.mixed (l := []) (κ := K133) e142 11 rfl
        refine ⟨trivial, ?_⟩
        refine WO.pn 1 rfl ?_
        refine WO.fin ?_
        refine DN.seq ?_
        obtain ⟨q7, h, hK147⟩ := Option.bind_eq_some_iff.mp h
        refine WC.meet (fun L w' => ∃ (κ' : Col) (laq7_0 : Option Addr) (luq7_0 : Nat), L = [(4, .pointer (some ⟨b4, 0, none⟩)), (5, .pointer (some ⟨b5, 0, none⟩)), (7, .slice laq7_0 q7.length luq7_0), (8, .int .i64 s1.2), (59, .slice ax58 x58.length ux58), (60, .int .i64 (x58.length : Int)), (61, .int .i64 v61)] ∧ Stp [7] K143 w140 κ' w' ∧ Oc (Ep.pair (Ep.int .i64) (Ep.int .i64)) 152 κ' w' 7 laq7_0 luq7_0 q7) ?_ ?_
        ·
         revert h
         cases ht152 : (!x96) with
         | true =>
          intro h; replace h := cT h
          refine WC.ct rfl ?_
          refine WC.rs [(0, 2), (1, 1), (2, 1), (3, 1), (4, 2)] rfl ?_
          refine WO.pn 1 rfl ?_
          have f153 := f138.stp S144 rfl rfl
          refine WO.k1 trivial rfl rfl rfl rfl (rn_la (cs := [.int .i64 x74.1, .int .i64 x64]) Try.isAgg152 Try.sizeOf152 rfl rfl rfl (haE f153.cells)) ?_
          refine WO.bl (κ := K143) (E := (Ep.pair (Ep.int .i64) (Ep.int .i64))) 13 [] (parts := [(0, .tmp 99)]) (cells := [.int .i64 x74.1, .int .i64 x64]) (xs := ([(x74.1, x64)] : List (Int × Int))) rfl rfl rfl rfl rfl rfl Try.underlying153 Tryinfo152 rfl rfl rfl rfl rfl rfl rfl rfl rfl rfl ⟨[.int .i64 x74.1, .int .i64 x64], [], Zl K143 w140 [], Zl K143 w140 [], rfl, Zl.sp (l1 := []) (l2 := []) rfl, Zl.sr (l1 := []) (l2 := []), ⟨[.int .i64 x74.1], [.int .i64 x64], Zl K143 w140 [], Zl K143 w140 [], rfl, Zl.sp (l1 := []) (l2 := []) rfl, Zl.sr (l1 := []) (l2 := []), rfl, rfl⟩, rfl⟩ fun a100 u100 w154 K155 S156 f157 => ⟨trivial, ?_⟩
          obtain ⟨x101, hx101, h⟩ := Option.bind_eq_some_iff.mp h
          have f158 := f139.stp (S144.tr S156) rfl rfl
          refine WO.app (κ := K155) (E := (Ep.pair (Ep.int .i64) (Ep.int .i64))) 7 [] rfl rfl rfl rfl rfl rfl rfl rfl rfl Try.underlying153 Tryinfo152 rfl rfl rfl rfl f158 (Sl.srcP (pu_pair (pu_int _) (pu_int _)) f157.rdc) sy_false hx101 rfl fun a101 u101 w159 K160 S161 f162 => ⟨trivial, ?_⟩
          refine WO.pn 1 rfl ?_
          refine WO.fin ?_
          obtain rfl := Option.some.inj h
          exact DN.meet _ ⟨K160, a101, u101, rfl, (S156.tr S161).wk rfl, f162⟩ fun a ha => (ha.more (ha.more (ha.more (ha.more (ha.more (ha.more (ha.more ha.nil rfl) rfl) rfl) rfl) rfl) rfl) rfl)
         | false =>
          intro h; replace h := cF h
          refine WC.cf rfl ?_
          refine WC.skip ?_
          have f163 := f139.stp S144 rfl rfl
          obtain rfl := Option.some.inj h
          exact DN.meet _ ⟨K143, las4_0, lus4_0, rfl, (Stp.refl _ _).wk rfl, f163⟩ fun a ha => (ha.more (ha.more (ha.more (ha.more (ha.more (ha.more (ha.more ha.nil rfl) rfl) rfl) rfl) rfl) rfl) rfl)
        rintro _ w148 ⟨K149, laq7_0, luq7_0, rfl, S150, f151⟩
        have h := hK147
        refine DN.block ?_
        refine DN.seq ?_
        refine WC.rs [(0, 2), (1, 2)] rfl ?_
        refine WO.pn 2 rfl ?_
        refine WO.fin ?_
        have hw94 : IntKind.wrap .i64 (v61 + 1) = v61 + 1 := wr1 hj94 (of_decide_eq_true hc94) hN94
        rw [hw94]
        have hc94 := of_decide_eq_true hc94
        obtain rfl := Option.some.inj h
        refine DN.round fun a ha => ?_
        exact ⟨k, _, Nat.lt_succ_self _, ⟨K149, v61 + 1, (q7 : (List (Int × Int))), laq7_0, luq7_0, rfl, (S103.tr (S107.tr (S119.tr (S122.tr (S134.tr (S137.tr (S144.tr S150))))))).wk rfl, f151, by omega, by omega, hk105⟩, (ha.more (ha.more (ha.more (ha.more (ha.more (ha.more (ha.more ha.nil rfl) rfl) rfl) rfl) rfl) rfl) rfl)⟩
     rintro _ w97 ⟨K98, s6, las6_0, lus6_0, rfl, S99, f100, rfl⟩
     have h := hK95
     dsimp only [aft] at h
     refine DN.block ?_
     refine DN.seq ?_
     refine WC.rs [(0, 2), (1, 2), (2, 2)] rfl ?_
     refine WO.pn 3 rfl ?_
     refine WO.fin ?_
     obtain rfl := Option.some.inj h
     refine DN.round fun a ha => ?_
     exact ⟨k, _, Nat.lt_succ_self _, ⟨K98, ((s6 : (List (Int × Int))), ((IntKind.i64.wrap (s1.2 + 1)) : Int)), las6_0, lus6_0, rfl, (S82.tr (S86.tr S99)).wk rfl, f100, hk84⟩, (ha.more (ha.more (ha.more (ha.more ha.nil rfl) rfl) rfl) rfl)⟩
    | false =>
     intro h; replace h := cF h
     refine WC.cf rfl ?_
     refine WC.exit ?_
     refine DN.exitThen ?_
     refine DN.exitThen ?_
     obtain rfl := Option.some.inj h
     have h := hk84
     refine DN.hit ?_
     obtain rfl := Option.some.inj h
     exact DN.meet _ ⟨K81, ((s1.1 : (List (Int × Int))), (s1.2 : Int)), las1_0, lus1_0, rfl, S82.wk rfl, f83, rfl⟩ fun a ha => ha.nil
  rintro _ w76 ⟨K77, s3, las3_0, lus3_0, rfl, S78, f79, rfl⟩
  have h := hK74
  dsimp only [aft] at h
  refine DN.seq ?_
  refine WC.seq ?_
  refine WC.rs [(0, 2)] rfl ?_
  refine WO.pn 1 rfl ?_
  refine WO.fin ?_
  refine DN.seq ?_
  refine WC.ret ?_
  have f164 := hE.stp (S3.tr (S7.tr (S11.tr (S18.tr (S36.tr (S52.tr (S59.tr (S66.tr (S71.tr S78))))))))) rfl rfl
  refine DN.res (l := [.tmp 6]) Try.results36 (res_tmp rfl rfl) rfl ?_
  obtain rfl := Option.some.inj h
  exact ⟨K77, rfl, f164⟩

end Go.Proofs.Ytfmkhnlnomkcfaa
