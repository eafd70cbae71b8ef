/- The walks, part 4. By program. -/
import Derived.Test.YtfmkhnlnomkcfaaFnsC83
set_option linter.unusedVariables false
set_option linter.unusedSimpArgs false
namespace Go.Proofs.Ytfmkhnlnomkcfaa
open Go Go.Wk Go.Proofs
set_option maxRecDepth 100000
set_option maxHeartbeats 1000000

/- loop.example/g00869/spec.l31Table -/
theorem s_l31Table_ok (n : Nat) : ∀ {w : World} {κ : Col} {a0_2 : Option Addr} {u0_2 : Nat} {a0_3 : Option Addr} {u0_3 : Nat} {a0_4 : Option Addr} {u0_4 : Nat} {p0 : Circuit} {a1 : Option Addr} {u1 : Nat} {p1 : (List Bool)} {p2 : Int} (g0_2 : Rd (Rp.int .i64) κ w 0 a0_2 u0_2 p0.Next) (g0_3 : Oc Gate.ep159 159 κ w 2 a0_3 u0_3 p0.Gates) (g0_4 : Rd (Rp.int .i64) κ w 0 a0_4 u0_4 p0.Outs) (g1 : Rd Rp.bool κ w 0 a1 u1 p1) {r : Circuit × Int} (h : s_l31Table n p0 p1 p2 = some r), Ret Try.prog 131 [.agg #[.int .i64 p0.Inputs, .int .i64 p0.Latches, .slice a0_2 p0.Next.length u0_2, .slice a0_3 p0.Gates.length u0_3, .slice a0_4 p0.Outs.length u0_4], .slice a1 p1.length u1, .int .i64 p2] w (fun v w' => ∃ (κ' : Col) (ra0 : Option Addr) (ru0 : Nat) (ra1 : Option Addr) (ru1 : Nat) (ra2 : Option Addr) (ru2 : Nat), v = .tuple #[.agg #[.int .i64 r.1.Inputs, .int .i64 r.1.Latches, .slice ra0 r.1.Next.length ru0, .slice ra1 r.1.Gates.length ru1, .slice ra2 r.1.Outs.length ru2], .int .i64 r.2] ∧ Ent κ w κ' w' ∧ Rd (Rp.int .i64) κ' w' 0 ra0 ru0 r.1.Next ∧ Oc Gate.ep159 159 κ' w' 4 ra1 ru1 r.1.Gates ∧ Rd (Rp.int .i64) κ' w' 0 ra2 ru2 r.1.Outs) := by
 induction n with
 | zero =>
  intro w κ a0_2 u0_2 a0_3 u0_3 a0_4 u0_4 p0 a1 u1 p1 p2 g0_2 g0_3 g0_4 g1 r h
  cases h
 | succ n ih =>
  intro w κ a0_2 u0_2 a0_3 u0_3 a0_4 u0_4 p0 a1 u1 p1 p2 g0_2 g0_3 g0_4 g1 r h
  have h : s_l31Table_s (s_l31Table n) p0 p1 p2 = some r := h
  unfold s_l31Table_s at h
  refine Ret.enter Try.func131 rfl Try.ntmps131 rfl ?_
  dsimp only [envOf]
  have hE := Ent.refl κ w
  refine WC.seq ?_
  refine WC.rs [(0, 1), (1, 1), (2, 2)] rfl ?_
  refine WO.box (κ := κ) 3 rfl rfl rfl rfl rfl rfl rfl fun b3 w1 K2 S3 f4 => ⟨trivial, ?_⟩
  refine WO.alloc (κ := K2) 4 rfl rfl rfl rfl rfl Try.zeroValue57 rfl fun b6 w5 K6 S7 f8 => ⟨trivial, ?_⟩
  refine WO.pn 1 rfl ?_
  refine WO.fin ?_
  refine DN.seq ?_
  refine WC.seq ?_
  refine WC.rs [(0, 2)] rfl ?_
  refine WO.pn 1 rfl ?_
  refine WO.fin ?_
  refine DN.seq ?_
  refine WC.seq ?_
  refine WC.seq ?_
  refine WC.rs [(0, 2)] rfl ?_
  refine WO.pn 1 rfl ?_
  refine WO.fin ?_
  refine DN.seq ?_
  have hN9 : (p1.length : Int) ≤ 9223372036854775807 := g1.len_le
  obtain ⟨q2, hq11, hK10⟩ := Option.bind_eq_some_iff.mp h
  clear h
  refine WC.meet (fun L w' => ∃ (κ' : Col) (s3 : Bool), L = [(1, .slice a1 p1.length u1), (2, .int .i64 p2), (3, .pointer (some ⟨b3, 0, none⟩)), (6, .pointer (some ⟨b6, 0, none⟩)), (8, .bool s3)] ∧ Stp [] K6 w5 κ' w' ∧ q2 = Sum.inr s3) ?_ ?_
  ·
   refine WC.block ?_
   refine WC.loop (fun k L w' => ∃ (κ' : Col) (v9 : Int) (s1 : Bool), L = [(1, .slice a1 p1.length u1), (2, .int .i64 p2), (3, .pointer (some ⟨b3, 0, none⟩)), (6, .pointer (some ⟨b6, 0, none⟩)), (8, .bool s1), (9, .int .i64 v9)] ∧ Stp [] K6 w5 κ' w' ∧ 0 ≤ v9 ∧ Int.toNat ((p1.length : Int) - v9) = k ∧ cntM (s_l31Table_b0 p1) k v9 s1 = some q2) ⟨_, _, ⟨K6, 0, (true : Bool), rfl, (Stp.refl _ _).wk rfl, (by decide), (by simp), hq11⟩, fun a ha => (ha.more (ha.more (ha.more (ha.more (ha.more (ha.more ha.nil rfl) rfl) rfl) rfl) rfl) rfl)⟩ ?_
   rintro k _ w15 ⟨K16, v9, s1, rfl, S17, hj9, hJ9, h⟩
   rcases k with _ | k
   ·
    have hk18 := h; obtain ⟨o9, h⟩ := ex_eq (Sum.inr (Sum.inl s1) : (Circuit × Int) ⊕ ((Bool) ⊕ (Bool)))
    have hc9 : decide (v9 < (p1.length : Int)) = false := decide_eq_false (by omega)
    refine WC.seq ?_
    refine WC.seq ?_
    refine WC.rs [(0, 2), (1, 2), (2, 2), (3, 2)] rfl ?_
    refine WO.pn 2 rfl ?_
    refine WO.k2 rfl rfl rfl rfl (rn_len Try.runUnderlying131 rfl rfl) ?_
    refine WO.pn 1 rfl ?_
    refine WO.fin ?_
    refine DN.seq ?_
    refine WC.cf' rfl hc9 ?_
    refine WC.exit ?_
    refine DN.exitThen ?_
    refine DN.exitThen ?_
    obtain rfl := Option.some.inj h
    have h := hk18
    refine DN.hit ?_
    obtain rfl := Option.some.inj h
    exact DN.meet _ ⟨K16, (s1 : Bool), rfl, S17.wk rfl, rfl⟩ fun a ha => (ha.more (ha.more (ha.more (ha.more (ha.more ha.nil rfl) rfl) rfl) rfl) rfl)
   ·
    obtain ⟨o9, h, hk18⟩ := Option.bind_eq_some_iff.mp h; unfold s_l31Table_b0 at h
    have hc9 : decide (v9 < (p1.length : Int)) = true := decide_eq_true (by omega)
    refine WC.seq ?_
    refine WC.seq ?_
    refine WC.rs [(0, 2), (1, 2), (2, 2), (3, 2)] rfl ?_
    refine WO.pn 2 rfl ?_
    refine WO.k2 rfl rfl rfl rfl (rn_len Try.runUnderlying131 rfl rfl) ?_
    refine WO.pn 1 rfl ?_
    refine WO.fin ?_
    refine DN.seq ?_
    refine WC.ct' rfl hc9 ?_
    refine WC.skip ?_
    refine DN.seq ?_
    refine WC.seq ?_
    refine WC.block ?_
    refine WC.rx (κ := K16) [0] none [(0, 2), (1, 2), (2, 2), (3, 2), (4, 2), (6, 2), (7, 2), (5, 0), (8, 0), (9, 2), (10, 2), (11, 2)] [] (by kernel_rfl) (by kernel_rfl) fun w20 S19 => ?_
    refine WO.pn 2 rfl ?_
    obtain ⟨p29, h, hK21⟩ := Option.bind_eq_some_iff.mp h
    refine WO.meet [(2, 2), (3, 2), (4, 2), (6, 2), (7, 2), (5, 0), (8, 0), (9, 2), (10, 2)] [(11, 2)] (fun L w' => L = [(1, .slice a1 p1.length u1), (2, .int .i64 p2), (3, .pointer (some ⟨b3, 0, none⟩)), (6, .pointer (some ⟨b6, 0, none⟩)), (8, .bool s1), (9, .int .i64 v9), (29, .bool p29)] ∧ ∃ κ', Stp [] K16 w20 κ' w') (Cl.refl _ _ _) ?_ ?_
    ·
     revert h
     cases ht22 : s1 with
     | true =>
      intro h; replace h := cT h
      refine WO.pn 2 rfl ?_
      obtain ⟨x23, hx23, h⟩ := Option.bind_eq_some_iff.mp h
      refine WO.k2 rfl rfl rfl rfl (rn_index g1 hx23 Try.runUnderlying131 Try.sizeOf4 rfl rfl rfl rfl) ?_
      refine WO.pn 1 rfl ?_
      obtain ⟨x26, hx26, h⟩ := Option.bind_eq_some_iff.mp h
      refine WO.k2 rfl rfl rfl rfl (rn_index g1 hx26 Try.runUnderlying131 Try.sizeOf4 rfl rfl rfl rfl) ?_
      have f23 := g1.stp (S3.tr (S7.tr (S17.tr S19))) rfl rfl
      refine WO.k0 rfl rfl rfl rfl (rn_ld Try.isAgg4 rfl rfl (hvC (f23.gBool hx23) rfl)) ?_
      refine WO.k0 rfl rfl rfl rfl (rn_ld Try.isAgg4 rfl rfl (hvC (f23.gBool hx26) rfl)) ?_
      refine WO.k2 rfl rfl rfl rfl (rn_eqlB rfl rfl Try.runUnderlying4 rfl) ?_
      refine WO.pn 1 rfl ?_
      obtain rfl := Option.some.inj h
      exact WO.met _ (Cl.refl _ _ _) ⟨rfl, _, (Stp.refl _ _).wk rfl⟩ fun a ha => (ha.more (ha.more (ha.more (ha.more (ha.more (ha.more (ha.more ha.nil rfl) rfl) rfl) rfl) rfl) rfl) rfl)
     | false =>
      intro h; replace h := cF h
      refine WO.pn 5 rfl ?_
      refine WO.qs rfl rfl rfl rfl ?_
      refine WO.qs rfl rfl rfl rfl ?_
      refine WO.pn 2 rfl ?_
      obtain rfl := Option.some.inj h
      exact WO.met _ (Cl.refl _ _ _) ⟨rfl, _, (Stp.refl _ _).wk rfl⟩ fun a ha => (ha.more (ha.more (ha.more (ha.more (ha.more (ha.more (ha.more ha.nil rfl) rfl) rfl) rfl) rfl) rfl) rfl)
    rintro _ w24 _ ⟨rfl, K25, S26⟩
    have h := hK21
    refine WO.pn 1 rfl ?_
    refine WO.nx ?_
    refine WO.fin ?_
    refine DN.block ?_
    refine DN.seq ?_
    refine WC.rs [(0, 2), (1, 2), (2, 2)] rfl ?_
    refine WO.pn 3 rfl ?_
    refine WO.fin ?_
    have hw9 : IntKind.wrap .i64 (v9 + 1) = v9 + 1 := wr1 hj9 (of_decide_eq_true hc9) hN9
    rw [hw9]
    have hc9 := of_decide_eq_true hc9
    obtain rfl := Option.some.inj h
    refine DN.round fun a ha => ?_
    exact ⟨k, _, Nat.lt_succ_self _, ⟨K25, v9 + 1, (p29 : Bool), rfl, (S17.tr (S19.tr S26)).wk rfl, by omega, by omega, hk18⟩, (ha.more (ha.more (ha.more (ha.more (ha.more (ha.more ha.nil rfl) rfl) rfl) rfl) rfl) rfl)⟩
  rintro _ w12 ⟨K13, s3, rfl, S14, rfl⟩
  have h := hK10
  dsimp only [aft] at h
  refine DN.seq ?_
  refine WC.seq ?_
  refine WC.seq ?_
  refine WC.rs [(0, 2)] rfl ?_
  refine WO.pn 1 rfl ?_
  refine WO.fin ?_
  refine DN.seq ?_
  revert h
  cases ht27 : s3 with
  | true =>
   intro h; replace h := cT h
   refine WC.ct rfl ?_
   refine WC.seq ?_
   refine WC.rx (κ := K13) [0, 3] none [(1, 2), (2, 2), (0, 0), (3, 0), (4, 1), (5, 1), (6, 2)] [] (by kernel_rfl) (by kernel_rfl) fun w29 S28 => ?_
   refine WO.pn 1 rfl ?_
   obtain ⟨x33, hx33, h⟩ := Option.bind_eq_some_iff.mp h
   refine WO.k2 rfl rfl rfl rfl (rn_index g1 hx33 Try.runUnderlying131 Try.sizeOf4 rfl rfl rfl rfl) ?_
   have f30 := f4.stp (S7.tr (S14.tr S28)) rfl rfl
   refine WO.k0 rfl rfl rfl rfl (rn_la (cs := [.int .i64 p0.Inputs, .int .i64 p0.Latches, .slice a0_2 p0.Next.length u0_2, .slice a0_3 p0.Gates.length u0_3, .slice a0_4 p0.Outs.length u0_4]) Try.isAgg57 Try.sizeOf57 rfl rfl rfl (haC f30.cells rfl)) ?_
   have f31 := g1.stp (S3.tr (S7.tr (S14.tr S28))) rfl rfl
   refine WO.k0 rfl rfl rfl rfl (rn_ld Try.isAgg4 rfl rfl (hvC (f31.gBool hx33) rfl)) ?_
   obtain ⟨x35, hx35, h⟩ := Option.bind_eq_some_iff.mp h
   refine WO.call rfl rfl rfl rfl rfl rfl Try.call190 (s_l1Flag_ok (κ := fun b => mp [] 0 (K13 b)) hx35) ?_
   rintro _ w32 ⟨k33, rfl, e34⟩
   obtain ⟨K35, S36, m37⟩ := Ent.mixed (l := []) (κ := K13) e34 5 rfl
   refine ⟨(S36.cl rfl), ?_⟩
   have f39 := f8.stp (S14.tr (S28.tr S36)) rfl rfl
   refine WO.stB0 (κ := K35) 4 (vc := [.int .i64 p0.Inputs, .int .i64 p0.Latches, .slice a0_2 p0.Next.length u0_2, .slice a0_3 p0.Gates.length u0_3, .slice a0_4 p0.Outs.length u0_4]) rfl rfl rfl rfl rfl rfl rfl Try.sizeOf57 rfl rfl f39 rfl fun w40 S41 f42 => ⟨((S36.tr S41).cl rfl), ?_⟩
   refine WO.pn 1 rfl ?_
   refine WO.nx ?_
   refine WO.fin ?_
   refine DN.seq ?_
   refine WC.ret ?_
   refine DN.retThen ?_
   have f43 := hE.stp (S3.tr (S7.tr (S14.tr (S28.tr (S36.tr S41))))) rfl rfl
   have f44 := g0_2.stp (S3.tr (S7.tr (S14.tr (S28.tr (S36.tr S41))))) rfl rfl
   have f45 := g0_3.stp (S3.tr (S7.tr (S14.tr (S28.tr (S36.tr S41))))) rfl rfl
   have f46 := g0_4.stp (S3.tr (S7.tr (S14.tr (S28.tr (S36.tr S41))))) rfl rfl
   refine DN.res (l := [.cell 6 57, .tmp 7]) Try.results131 (res_cellA rfl f42 Try.isAgg57 Try.sizeOf57 rfl (res_tmp rfl rfl)) rfl ?_
   obtain rfl := Option.some.inj h
   exact ⟨(fun b => ren [(2, 4)] (K35 b)), a0_2, u0_2, a0_3, u0_3, a0_4, u0_4, rfl, (f43.map (ren [(2, 4)]) rfl rfl), (f44.map (ren [(2, 4)]) rfl rfl), (f45.map (ren [(2, 4)]) rfl rfl), (f46.map (ren [(2, 4)]) rfl rfl)⟩
  | false =>
   intro h; replace h := cF h
   refine WC.cf rfl ?_
   refine WC.skip ?_
   refine DN.seq ?_
   refine WC.seq ?_
   refine WC.rs [(0, 2), (1, 2), (2, 2), (3, 2)] rfl ?_
   refine WO.pn 1 rfl ?_
   refine WO.k2 rfl rfl rfl rfl (rn_len Try.runUnderlying131 rfl rfl) ?_
   refine WO.k2 rfl rfl rfl rfl (rn_quo rfl rfl rfl (by decide)) ?_
   refine WO.pn 1 rfl ?_
   refine WO.fin ?_
   refine DN.seq ?_
   refine WC.seq ?_
   refine WC.rx (κ := K13) [3] (some 10) [(1, 2), (2, 2), (3, 2), (4, 2), (5, 2), (0, 0), (6, 1), (7, 2), (8, 2), (9, 2)] [(10, 1), (11, 2)] (by kernel_rfl) (by kernel_rfl) fun w48 S47 => ?_
   refine WO.pn 2 rfl ?_
   obtain ⟨x43, hx43, h⟩ := Option.bind_eq_some_iff.mp h
   refine WO.k2 rfl rfl rfl rfl (rn_slice (k1 := .i64) (k2 := .i64) Try.runUnderlying131 Try.sizeOf4 (.inr ⟨_, rfl, rfl⟩) (.inl ⟨rfl, rfl⟩) hx43 g1.1 rfl rfl rfl) ?_
   have f50 := g1.stp (S3.tr (S7.tr (S14.tr S47))) rfl rfl
   have f49 := f50.sub hx43
   refine WO.pn 2 rfl ?_
   have f51 := f4.stp (S7.tr (S14.tr S47)) rfl rfl
   refine WO.k0 rfl rfl rfl rfl (rn_la (cs := [.int .i64 p0.Inputs, .int .i64 p0.Latches, .slice a0_2 p0.Next.length u0_2, .slice a0_3 p0.Gates.length u0_3, .slice a0_4 p0.Outs.length u0_4]) Try.isAgg57 Try.sizeOf57 rfl rfl rfl (haC f51.cells rfl)) ?_
   obtain ⟨x46, hx46, h⟩ := Option.bind_eq_some_iff.mp h
   have f52 := g0_2.stp (S3.tr (S7.tr (S14.tr S47))) rfl rfl
   have f53 := g0_3.stp (S3.tr (S7.tr (S14.tr S47))) rfl rfl
   have f54 := g0_4.stp (S3.tr (S7.tr (S14.tr S47))) rfl rfl
   refine WO.call rfl rfl rfl rfl rfl rfl Try.call131 (ih (κ := fun b => mp [(2, 2)] 1 (K13 b)) (p0 := p0) (Sl.map f52 (mp [(2, 2)] 1) rfl rfl) (f53.map (mp [(2, 2)] 1) rfl rfl) (Sl.map f54 (mp [(2, 2)] 1) rfl rfl) (Sl.map f49 (mp [(2, 2)] 1) rfl rfl) hx46) ?_
   rintro _ w55 ⟨k56, a46_0, u46_0, a46_1, u46_1, a46_2, u46_2, rfl, e57, f58, f59, f60⟩
   obtain ⟨K61, S62, m63, z64⟩ := Ent.mixed0 (l := [(2, 2)]) (κ := K13) e57 5 rfl
   refine ⟨(S62.cl rfl), ?_⟩
   have f65 := f58.mx z64
   have f66 := f59.mx Gate.no159 m63 rfl (rfl : 5 + 4 = 9)
   have f67 := f60.mx z64
   refine WO.pn 3 rfl ?_
   refine WO.nx ?_
   have f68 := f51.stp S62 rfl rfl
   refine WO.stB0 (κ := K61) 3 (vc := [.int .i64 x46.1.Inputs, .int .i64 x46.1.Latches, .slice a46_0 x46.1.Next.length u46_0, .slice a46_1 x46.1.Gates.length u46_1, .slice a46_2 x46.1.Outs.length u46_2]) rfl rfl rfl rfl rfl rfl rfl Try.sizeOf57 rfl rfl f68 rfl fun w69 S70 f71 => ⟨trivial, ?_⟩
   refine WO.pn 1 rfl ?_
   refine WO.fin ?_
   refine DN.seq ?_
   refine WC.seq ?_
   refine WC.rx (κ := K61) [3] (some 10) [(1, 2), (2, 2), (3, 2), (4, 2), (5, 2), (0, 0), (6, 1), (7, 2), (8, 2), (9, 2)] [(10, 1), (11, 2)] (by kernel_rfl) (by kernel_rfl) fun w73 S72 => ?_
   refine WO.pn 2 rfl ?_
   obtain ⟨x53, hx53, h⟩ := Option.bind_eq_some_iff.mp h
   refine WO.k2 rfl rfl rfl rfl (rn_slice (k1 := .i64) (k2 := .i64) Try.runUnderlying131 Try.sizeOf4 (.inl ⟨rfl, rfl⟩) (.inr ⟨_, rfl, rfl⟩) hx53 f50.1 rfl rfl rfl) ?_
   have f75 := f50.stp (S62.tr (S70.tr S72)) rfl rfl
   have f74 := f75.sub hx53
   refine WO.pn 2 rfl ?_
   have f76 := f71.stp S72 rfl rfl
   refine WO.k0 rfl rfl rfl rfl (rn_la (cs := [.int .i64 x46.1.Inputs, .int .i64 x46.1.Latches, .slice a46_0 x46.1.Next.length u46_0, .slice a46_1 x46.1.Gates.length u46_1, .slice a46_2 x46.1.Outs.length u46_2]) Try.isAgg57 Try.sizeOf57 rfl rfl rfl (haC f76.cells rfl)) ?_
   obtain ⟨x56, hx56, h⟩ := Option.bind_eq_some_iff.mp h
   have f77 := f65.stp (S70.tr S72) rfl rfl
   have f78 := f66.stp (S70.tr S72) rfl rfl
   have f79 := f67.stp (S70.tr S72) rfl rfl
   refine WO.call rfl rfl rfl rfl rfl rfl Try.call131 (ih (κ := fun b => mp [(9, 2)] 1 (K61 b)) (p0 := x46.1) (Sl.map f77 (mp [(9, 2)] 1) rfl rfl) (f78.map (mp [(9, 2)] 1) rfl rfl) (Sl.map f79 (mp [(9, 2)] 1) rfl rfl) (Sl.map f74 (mp [(9, 2)] 1) rfl rfl) hx56) ?_
   rintro _ w80 ⟨k81, a56_0, u56_0, a56_1, u56_1, a56_2, u56_2, rfl, e82, f83, f84, f85⟩
   obtain ⟨K86, S87, m88, z89⟩ := Ent.mixed0 (l := [(9, 2)]) (κ := K61) e82 11 rfl
   refine ⟨(S87.cl rfl), ?_⟩
   have f90 := f83.mx z89
   have f91 := f84.mx Gate.no159 m88 rfl (rfl : 11 + 4 = 15)
   have f92 := f85.mx z89
   refine WO.pn 3 rfl ?_
   refine WO.nx ?_
   have f93 := f76.stp S87 rfl rfl
   refine WO.stB0 (κ := K86) 3 (vc := [.int .i64 x56.1.Inputs, .int .i64 x56.1.Latches, .slice a56_0 x56.1.Next.length u56_0, .slice a56_1 x56.1.Gates.length u56_1, .slice a56_2 x56.1.Outs.length u56_2]) rfl rfl rfl rfl rfl rfl rfl Try.sizeOf57 rfl rfl f93 rfl fun w94 S95 f96 => ⟨trivial, ?_⟩
   refine WO.pn 1 rfl ?_
   refine WO.fin ?_
   refine DN.seq ?_
   refine WC.seq ?_
   refine WC.rs [(0, 1), (1, 2), (2, 2), (3, 2), (4, 2), (5, 1), (6, 2), (7, 2), (8, 1), (9, 2)] rfl ?_
   refine WO.k1 trivial rfl rfl rfl rfl (rn_la (cs := [.int .i64 x56.1.Inputs, .int .i64 x56.1.Latches, .slice a56_0 x56.1.Next.length u56_0, .slice a56_1 x56.1.Gates.length u56_1, .slice a56_2 x56.1.Outs.length u56_2]) Try.isAgg57 Try.sizeOf57 rfl rfl rfl (haE f96.cells)) ?_
   refine WO.pn 4 rfl ?_
   obtain ⟨x64, hx64, h⟩ := Option.bind_eq_some_iff.mp h
   have f97 := f90.stp S95 rfl rfl
   have f98 := f91.stp S95 rfl rfl
   have f99 := f92.stp S95 rfl rfl
   refine WO.call rfl rfl rfl rfl rfl rfl Try.call191 (s_l31Choose_ok (κ := fun b => mp [(15, 2)] 1 (K86 b)) (p0 := x56.1) (Sl.map f97 (mp [(15, 2)] 1) rfl rfl) (f98.map (mp [(15, 2)] 1) rfl rfl) (Sl.map f99 (mp [(15, 2)] 1) rfl rfl) hx64) ?_
   rintro _ w100 ⟨k101, a64_0, u64_0, a64_1, u64_1, a64_2, u64_2, rfl, e102, f103, f104, f105⟩
   obtain ⟨K106, S107, m108, z109⟩ := Ent.mixed0 (l := [(15, 2)]) (κ := K86) e102 17 rfl
   refine ⟨trivial, ?_⟩
   have f110 := f103.mx z109
   have f111 := f104.mx Gate.no159 m108 rfl (rfl : 17 + 4 = 21)
   have f112 := f105.mx z109
   refine WO.pn 2 rfl ?_
   have f113 := f8.stp (S14.tr (S47.tr (S62.tr (S70.tr (S72.tr (S87.tr (S95.tr S107))))))) rfl rfl
   refine WO.stB0 (κ := K106) 4 (vc := [.int .i64 x64.1.Inputs, .int .i64 x64.1.Latches, .slice a64_0 x64.1.Next.length u64_0, .slice a64_1 x64.1.Gates.length u64_1, .slice a64_2 x64.1.Outs.length u64_2]) rfl rfl rfl rfl rfl rfl rfl Try.sizeOf57 rfl rfl f113 rfl fun w114 S115 f116 => ⟨trivial, ?_⟩
   refine WO.pn 1 rfl ?_
   refine WO.fin ?_
   refine DN.seq ?_
   refine WC.ret ?_
   have f117 := hE.stp (S3.tr (S7.tr (S14.tr (S47.tr (S62.tr (S70.tr (S72.tr (S87.tr (S95.tr (S107.tr S115)))))))))) rfl rfl
   have f118 := f110.stp S115 rfl rfl
   have f119 := f111.stp S115 rfl rfl
   have f120 := f112.stp S115 rfl rfl
   refine DN.res (l := [.cell 6 57, .tmp 7]) Try.results131 (res_cellA rfl f116 Try.isAgg57 Try.sizeOf57 rfl (res_tmp rfl rfl)) rfl ?_
   obtain rfl := Option.some.inj h
   exact ⟨(fun b => ren [(21, 4)] (K106 b)), a64_0, u64_0, a64_1, u64_1, a64_2, u64_2, rfl, (f117.map (ren [(21, 4)]) rfl rfl), (f118.map (ren [(21, 4)]) rfl rfl), (f119.map (ren [(21, 4)]) rfl rfl), (f120.map (ren [(21, 4)]) rfl rfl)⟩

/- loop.example/g00869/impl.areLetters -/
theorem i_areLetters_ok {w : World} {κ : Col} {a0 : Option Addr} {u0 : Nat} {p0 : (List Int)} {p1 : Int} (g0 : Rd (Rp.int .i64) κ w 0 a0 u0 p0) {r : Bool} (h : i_areLetters p0 p1 = some r) : Ret Try.prog 170 [.slice a0 p0.length u0, .int .i64 p1] w (fun v w' => ∃ (κ' : Col), v = .bool r ∧ Ent κ w κ' w') := by
 unfold i_areLetters at h
 refine Ret.enter Try.func170 rfl Try.ntmps170 rfl ?_
 dsimp only [envOf]
 have hE := Ent.refl κ w
 refine WC.seq ?_
 refine WC.rs [(0, 1), (1, 2)] rfl ?_
 refine WO.box (κ := κ) 2 rfl rfl rfl rfl rfl rfl rfl fun b3 w1 K2 S3 f4 => ⟨trivial, ?_⟩
 refine WO.pn 1 rfl ?_
 refine WO.fin ?_
 refine DN.seq ?_
 refine WC.seq ?_
 refine WC.rs [(0, 2), (1, 2), (2, 1), (3, 2), (4, 2)] rfl ?_
 refine WO.pn 1 rfl ?_
 refine WO.k2 rfl rfl rfl rfl (rn_makeFunc (first := []) (captured := [.tmp 3]) rfl rfl rfl ⟨_, rfl⟩) ?_
 obtain ⟨x7, hx7, h⟩ := Option.bind_eq_some_iff.mp h
 have f5 := g0.stp S3 rfl rfl
 refine WO.call rfl rfl rfl rfl rfl rfl Try.call212 (slices_ContainsFunc_I_int64__i_areLetters_1_ok (κ := fun b => mp [] 0 (K2 b)) (Sl.map f5 (mp [] 0) rfl rfl) (f4.map (mp [] 0) rfl rfl) hx7) ?_
 rintro _ w6 ⟨k7, rfl, e8⟩
 obtain ⟨K9, S10, m11⟩ := Ent.mixed (l := []) (κ := K2) e8 3 rfl
 refine ⟨trivial, ?_⟩
 refine WO.pn 2 rfl ?_
 refine WO.fin ?_
 refine DN.seq ?_
 refine WC.ret ?_
 have f13 := hE.stp (S3.tr S10) rfl rfl
 refine DN.res (l := [.tmp 4]) Try.results170 (res_tmp rfl rfl) rfl ?_
 obtain rfl := Option.some.inj h
 exact ⟨K9, rfl, f13⟩

/- (*loop.example/g00869/impl.builder).literalOf -/
theorem i_builder_literalOf_ok (n : Nat) : ∀ {w : World} {κ : Col} {a0_0_2 : Option Addr} {u0_0_2 : Nat} {a0_0_3 : Option Addr} {u0_0_3 : Nat} {a0_0_4 : Option Addr} {u0_0_4 : Nat} {mb0_2 : Nat} {p0 : builder} {a1 : Option Addr} {u1 : Nat} {p1 : (List Bool)} {b0 : Nat} (g0_0_2 : Rd (Rp.int .i64) κ w 0 a0_0_2 u0_0_2 p0.c.Next) (g0_0_3 : Oc Gate.ep159 159 κ w 2 a0_0_3 u0_0_3 p0.c.Gates) (g0_0_4 : Rd (Rp.int .i64) κ w 0 a0_0_4 u0_0_4 p0.c.Outs) (g0_2 : Mc kwGate kvGate (fun v : Int => .int .i64 v) κ w 3 mb0_2 p0.known) (g1 : Rd Rp.bool κ w 0 a1 u1 p1) (gb0 : Bc κ w 4 b0 186 [.int .i64 p0.c.Inputs, .int .i64 p0.c.Latches, .slice a0_0_2 p0.c.Next.length u0_0_2, .slice a0_0_3 p0.c.Gates.length u0_0_3, .slice a0_0_4 p0.c.Outs.length u0_0_4, .bool p0.full, .map (some mb0_2)]) {r : Int × (List Gate) × Bool × (List (Gate × Int))} (h : i_builder_literalOf n p0 p1 = some r), Ret Try.prog 134 [.pointer (some ⟨b0, 0, none⟩), .slice a1 p1.length u1] w (fun v w' => ∃ (κ' : Col) (ma0 : Option Addr) (mu0 : Nat), v = .int .i64 r.1 ∧ Ent κ w κ' w' ∧ Oc Gate.ep159 159 κ' w' 2 ma0 mu0 r.2.1 ∧ Mc kwGate kvGate (fun v : Int => .int .i64 v) κ' w' 3 mb0_2 r.2.2.2 ∧ Bc κ' w' 4 b0 186 [.int .i64 p0.c.Inputs, .int .i64 p0.c.Latches, .slice a0_0_2 p0.c.Next.length u0_0_2, .slice ma0 r.2.1.length mu0, .slice a0_0_4 p0.c.Outs.length u0_0_4, .bool r.2.2.1, .map (some mb0_2)]) := by
 induction n with
 | zero =>
  intro w κ a0_0_2 u0_0_2 a0_0_3 u0_0_3 a0_0_4 u0_0_4 mb0_2 p0 a1 u1 p1 b0 g0_0_2 g0_0_3 g0_0_4 g0_2 g1 gb0 r h
  cases h
 | succ n ih =>
  intro w κ a0_0_2 u0_0_2 a0_0_3 u0_0_3 a0_0_4 u0_0_4 mb0_2 p0 a1 u1 p1 b0 g0_0_2 g0_0_3 g0_0_4 g0_2 g1 gb0 r h
  have h : i_builder_literalOf_s (i_builder_literalOf n) p0 p1 = some r := h
  unfold i_builder_literalOf_s at h
  refine Ret.enter Try.func134 rfl Try.ntmps134 rfl ?_
  dsimp only [envOf]
  have hE := Ent.refl κ w
  refine WC.seq ?_
  refine WC.rs [(0, 2)] rfl ?_
  refine WO.pn 1 rfl ?_
  refine WO.fin ?_
  refine DN.seq ?_
  refine WC.seq ?_
  refine WC.seq ?_
  refine WC.rs [(0, 2), (1, 1), (2, 2)] rfl ?_
  refine WO.pn 1 rfl ?_
  obtain ⟨x10, hx10, h⟩ := Option.bind_eq_some_iff.mp h
  refine WO.call rfl rfl rfl rfl rfl rfl Try.call193 (slices_Contains_bool_bool_ok (κ := fun b => mp [] 0 (κ b)) (Sl.map g1 (mp [] 0) rfl rfl) hx10) ?_
  rintro _ w1 ⟨k2, rfl, e3⟩
  obtain ⟨K4, S5, m6⟩ := Ent.mixed (l := []) (κ := κ) e3 5 rfl
  refine ⟨trivial, ?_⟩
  refine WO.pn 1 rfl ?_
  refine WO.fin ?_
  refine DN.seq ?_
  revert h
  cases ht8 : (!x10) with
  | true =>
   intro h; replace h := cT h
   refine WC.ct rfl ?_
   refine WC.seq ?_
   refine WC.rs [(0, 2)] rfl ?_
   refine WO.pn 1 rfl ?_
   refine WO.fin ?_
   refine DN.seq ?_
   refine WC.ret ?_
   refine DN.retThen ?_
   have f9 := hE.stp S5 rfl rfl
   have f10 := g0_0_3.stp S5 rfl rfl
   have f11 := g0_2.stp S5 rfl rfl
   have f12 := gb0.stp S5 rfl rfl
   refine DN.res (l := [.tmp 4]) Try.results134 (res_tmp rfl rfl) rfl ?_
   obtain rfl := Option.some.inj h
   exact ⟨K4, a0_0_3, u0_0_3, rfl, f9, f10, f11, f12⟩
  | false =>
   intro h; replace h := cF h
   refine WC.cf rfl ?_
   refine WC.skip ?_
   refine DN.seq ?_
   refine WC.seq ?_
   refine WC.seq ?_
   refine WC.rs [(0, 2), (1, 1), (2, 2)] rfl ?_
   refine WO.pn 1 rfl ?_
   obtain ⟨x13, hx13, h⟩ := Option.bind_eq_some_iff.mp h
   have f13 := g1.stp S5 rfl rfl
   refine WO.call rfl rfl rfl rfl rfl rfl Try.call193 (slices_Contains_bool_bool_ok (κ := fun b => mp [] 0 (K4 b)) (Sl.map f13 (mp [] 0) rfl rfl) hx13) ?_
   rintro _ w14 ⟨k15, rfl, e16⟩
   obtain ⟨K17, S18, m19⟩ := Ent.mixed (l := []) (κ := K4) e16 7 rfl
   refine ⟨trivial, ?_⟩
   refine WO.pn 1 rfl ?_
   refine WO.fin ?_
   refine DN.seq ?_
   revert h
   cases ht21 : (!x13) with
   | true =>
    intro h; replace h := cT h
    refine WC.ct rfl ?_
    refine WC.seq ?_
    refine WC.rs [(0, 2)] rfl ?_
    refine WO.pn 1 rfl ?_
    refine WO.fin ?_
    refine DN.seq ?_
    refine WC.ret ?_
    refine DN.retThen ?_
    have f22 := hE.stp (S5.tr S18) rfl rfl
    have f23 := g0_0_3.stp (S5.tr S18) rfl rfl
    have f24 := g0_2.stp (S5.tr S18) rfl rfl
    have f25 := gb0.stp (S5.tr S18) rfl rfl
    refine DN.res (l := [.tmp 4]) Try.results134 (res_tmp rfl rfl) rfl ?_
    obtain rfl := Option.some.inj h
    exact ⟨K17, a0_0_3, u0_0_3, rfl, f22, f23, f24, f25⟩
   | false =>
    intro h; replace h := cF h
    refine WC.cf rfl ?_
    refine WC.skip ?_
    refine DN.seq ?_
    refine WC.seq ?_
    refine WC.rs [(0, 2)] rfl ?_
    refine WO.pn 1 rfl ?_
    refine WO.fin ?_
    refine DN.seq ?_
    refine WC.seq ?_
    obtain ⟨q2, hq28, hK27⟩ := Option.bind_eq_some_iff.mp h
    clear h
    refine WC.meet (fun L w' => ∃ (κ' : Col) (s3 : Int), L = [(0, .pointer (some ⟨b0, 0, none⟩)), (1, .slice a1 p1.length u1), (5, .int .i64 s3)] ∧ Stp [] K17 w14 κ' w' ∧ q2 = Sum.inr s3) ?_ ?_
    ·
     refine WC.block ?_
     refine WC.loop (fun k L w' => ∃ (κ' : Col) (s1 : Int), L = [(0, .pointer (some ⟨b0, 0, none⟩)), (1, .slice a1 p1.length u1), (5, .int .i64 s1)] ∧ Stp [] K17 w14 κ' w' ∧ whileM (i_builder_literalOf_b0 p1) k s1 = some q2) ⟨_, _, ⟨K17, (0 : Int), rfl, (Stp.refl _ _).wk rfl, hq28⟩, fun a ha => (ha.more (ha.more (ha.more ha.nil rfl) rfl) rfl)⟩ ?_
     rintro k _ w32 ⟨K33, s1, rfl, S34, h⟩
     rcases k with _ | k
     ·
      cases h
     ·
      obtain ⟨o26, h, hk35⟩ := Option.bind_eq_some_iff.mp h; unfold i_builder_literalOf_b0 at h
      refine WC.seq ?_
      refine WC.seq ?_
      refine WC.rs [(0, 2), (1, 2), (2, 2), (3, 2), (4, 2)] rfl ?_
      refine WO.pn 1 rfl ?_
      obtain ⟨_z16, hz16, h⟩ := Option.bind_eq_some_iff.mp h
      refine WO.k2 rfl rfl rfl rfl (rn_shl rfl rfl rfl (nn_ok hz16)) ?_
      refine WO.pn 1 rfl ?_
      refine WO.k2 rfl rfl rfl rfl (rn_len Try.runUnderlying131 rfl rfl) ?_
      refine WO.pn 1 rfl ?_
      refine WO.fin ?_
      refine DN.seq ?_
      revert h
      cases ht36 : decide ((IntKind.i64.wrap (2 * 2 ^ (min (Int.toNat s1) (IntKind.bits IntKind.i64)))) < (p1.length : Int)) with
      | true =>
       intro h; replace h := cT h
       refine WC.ct rfl ?_
       refine WC.skip ?_
       refine DN.seq ?_
       refine WC.block ?_
       refine WC.rs [(0, 2), (1, 2), (2, 2)] rfl ?_
       refine WO.pn 3 rfl ?_
       refine WO.fin ?_
       refine DN.block ?_
       obtain rfl := Option.some.inj h
       refine DN.round fun a ha => ?_
       exact ⟨k, _, Nat.lt_succ_self _, ⟨K33, ((IntKind.i64.wrap (s1 + 1)) : Int), rfl, S34.wk rfl, hk35⟩, (ha.more (ha.more (ha.more ha.nil rfl) rfl) rfl)⟩
      | false =>
       intro h; replace h := cF h
       refine WC.cf rfl ?_
       refine WC.exit ?_
       refine DN.exitThen ?_
       refine DN.exitThen ?_
       obtain rfl := Option.some.inj h
       have h := hk35
       refine DN.hit ?_
       obtain rfl := Option.some.inj h
       exact DN.meet _ ⟨K33, (s1 : Int), rfl, S34.wk rfl, rfl⟩ fun a ha => (ha.more (ha.more (ha.more ha.nil rfl) rfl) rfl)
    rintro _ w29 ⟨K30, s3, rfl, S31, rfl⟩
    have h := hK27
    dsimp only [aft] at h
    refine DN.seq ?_
    refine WC.seq ?_
    refine WC.rs [(0, 2), (1, 2), (2, 2), (3, 2)] rfl ?_
    refine WO.pn 4 rfl ?_
    refine WO.fin ?_
    refine DN.seq ?_
    refine WC.seq ?_
    refine WC.rs [(0, 2), (1, 2), (2, 2), (3, 2), (4, 2), (5, 2), (6, 1), (7, 2)] rfl ?_
    refine WO.pn 3 rfl ?_
    refine WO.k2 rfl rfl rfl rfl (rn_len Try.runUnderlying131 rfl rfl) ?_
    refine WO.k2 rfl rfl rfl rfl (rn_quo rfl rfl rfl (by decide)) ?_
    obtain ⟨x30, hx30, h⟩ := Option.bind_eq_some_iff.mp h
    refine WO.k2 rfl rfl rfl rfl (rn_slice (k1 := .i64) (k2 := .i64) Try.runUnderlying131 Try.sizeOf4 (.inr ⟨_, rfl, rfl⟩) (.inl ⟨rfl, rfl⟩) hx30 f13.1 rfl rfl rfl) ?_
    have f38 := f13.stp (S18.tr S31) rfl rfl
    have f37 := f38.sub hx30
    obtain ⟨x31, hx31, h⟩ := Option.bind_eq_some_iff.mp h
    have f39 := g0_0_2.stp (S5.tr (S18.tr S31)) rfl rfl
    have f40 := g0_0_3.stp (S5.tr (S18.tr S31)) rfl rfl
    have f41 := g0_0_4.stp (S5.tr (S18.tr S31)) rfl rfl
    have f42 := g0_2.stp (S5.tr (S18.tr S31)) rfl rfl
    have f43 := gb0.stp (S5.tr (S18.tr S31)) rfl rfl
    refine WO.call rfl rfl rfl rfl rfl rfl Try.call134 (ih (κ := fun b => mp [(2, 2), (3, 3), (4, 4)] 0 (K30 b)) (p0 := p0) (Sl.map f39 (mp [(2, 2), (3, 3), (4, 4)] 0) rfl rfl) (f40.map (mp [(2, 2), (3, 3), (4, 4)] 0) rfl rfl) (Sl.map f41 (mp [(2, 2), (3, 3), (4, 4)] 0) rfl rfl) (f42.map (mp [(2, 2), (3, 3), (4, 4)] 0) rfl rfl) (Sl.map f37 (mp [(2, 2), (3, 3), (4, 4)] 0) rfl rfl) (f43.map (mp [(2, 2), (3, 3), (4, 4)] 0) rfl rfl) hx31) ?_
    rintro _ w44 ⟨k45, a31_m0, u31_m0, rfl, e46, f47, f48, f49⟩
    obtain ⟨K50, S51, m52⟩ := Ent.mixed (l := [(2, 2), (3, 3), (4, 4)]) (κ := K30) e46 9 rfl
    refine ⟨trivial, ?_⟩
    have f54 := f47.mx Gate.no159 m52 rfl (rfl : 9 + 2 = 11)
    have f55 := f48.mx' m52 rfl (rfl : 9 + 3 = 12)
    have f56 := f49.mx m52 rfl (rfl : 9 + 4 = 13)
    refine WO.pn 1 rfl ?_
    refine WO.fin ?_
    refine DN.seq ?_
    refine WC.seq ?_
    refine WC.rs [(0, 2), (1, 2), (2, 2), (3, 2), (4, 2), (5, 2), (6, 1), (7, 2)] rfl ?_
    refine WO.pn 3 rfl ?_
    refine WO.k2 rfl rfl rfl rfl (rn_len Try.runUnderlying131 rfl rfl) ?_
    refine WO.k2 rfl rfl rfl rfl (rn_quo rfl rfl rfl (by decide)) ?_
    obtain ⟨x37, hx37, h⟩ := Option.bind_eq_some_iff.mp h
    refine WO.k2 rfl rfl rfl rfl (rn_slice (k1 := .i64) (k2 := .i64) Try.runUnderlying131 Try.sizeOf4 (.inl ⟨rfl, rfl⟩) (.inr ⟨_, rfl, rfl⟩) hx37 f38.1 rfl rfl rfl) ?_
    have f58 := f38.stp S51 rfl rfl
    have f57 := f58.sub hx37
    obtain ⟨x38, hx38, h⟩ := Option.bind_eq_some_iff.mp h
    have f59 := f39.stp S51 rfl rfl
    have f60 := f41.stp S51 rfl rfl
    refine WO.call rfl rfl rfl rfl rfl rfl Try.call134 (ih (κ := fun b => mp [(11, 2), (12, 3), (13, 4)] 0 (K50 b)) (p0 := (⟨(⟨p0.c.Inputs, p0.c.Latches, p0.c.Next, x31.2.1, p0.c.Outs⟩ : Circuit), x31.2.2.1, x31.2.2.2⟩ : builder)) (Sl.map f59 (mp [(11, 2), (12, 3), (13, 4)] 0) rfl rfl) (f54.map (mp [(11, 2), (12, 3), (13, 4)] 0) rfl rfl) (Sl.map f60 (mp [(11, 2), (12, 3), (13, 4)] 0) rfl rfl) (f55.map (mp [(11, 2), (12, 3), (13, 4)] 0) rfl rfl) (Sl.map f57 (mp [(11, 2), (12, 3), (13, 4)] 0) rfl rfl) (f56.map (mp [(11, 2), (12, 3), (13, 4)] 0) rfl rfl) hx38) ?_
    rintro _ w61 ⟨k62, a38_m0, u38_m0, rfl, e63, f64, f65, f66⟩
    obtain ⟨K67, S68, m69⟩ := Ent.mixed (l := [(11, 2), (12, 3), (13, 4)]) (κ := K50) e63 14 rfl
    refine ⟨trivial, ?_⟩
    have f71 := f64.mx Gate.no159 m69 rfl (rfl : 14 + 2 = 16)
    have f72 := f65.mx' m69 rfl (rfl : 14 + 3 = 17)
    have f73 := f66.mx m69 rfl (rfl : 14 + 4 = 18)
    refine WO.pn 1 rfl ?_
    refine WO.fin ?_
    refine DN.seq ?_
    refine WC.seq ?_
    refine WC.rs [(0, 2), (1, 2), (2, 2), (3, 2), (4, 1), (5, 2)] rfl ?_
    refine WO.pn 4 rfl ?_
    obtain ⟨x43, hx43, h⟩ := Option.bind_eq_some_iff.mp h
    have f74 := f59.stp S68 rfl rfl
    have f75 := f60.stp S68 rfl rfl
    refine WO.call rfl rfl rfl rfl rfl rfl Try.call194 (i_builder_choose_ok (κ := fun b => mp [(16, 2), (17, 3), (18, 4)] 0 (K67 b)) (p0 := (⟨(⟨p0.c.Inputs, p0.c.Latches, p0.c.Next, x38.2.1, p0.c.Outs⟩ : Circuit), x38.2.2.1, x38.2.2.2⟩ : builder)) (Sl.map f74 (mp [(16, 2), (17, 3), (18, 4)] 0) rfl rfl) (f71.map (mp [(16, 2), (17, 3), (18, 4)] 0) rfl rfl) (Sl.map f75 (mp [(16, 2), (17, 3), (18, 4)] 0) rfl rfl) (f72.map (mp [(16, 2), (17, 3), (18, 4)] 0) rfl rfl) (f73.map (mp [(16, 2), (17, 3), (18, 4)] 0) rfl rfl) hx43) ?_
    rintro _ w76 ⟨k77, a43_m0, u43_m0, rfl, e78, f79, f80, f81⟩
    obtain ⟨K82, S83, m84⟩ := Ent.mixed (l := [(16, 2), (17, 3), (18, 4)]) (κ := K67) e78 19 rfl
    refine ⟨trivial, ?_⟩
    have f86 := f79.mx Gate.no159 m84 rfl (rfl : 19 + 2 = 21)
    have f87 := f80.mx' m84 rfl (rfl : 19 + 3 = 22)
    have f88 := f81.mx m84 rfl (rfl : 19 + 4 = 23)
    refine WO.pn 1 rfl ?_
    refine WO.fin ?_
    refine DN.seq ?_
    refine WC.ret ?_
    have f89 := hE.stp (S5.tr (S18.tr (S31.tr (S51.tr (S68.tr S83))))) rfl rfl
    refine DN.res (l := [.tmp 4]) Try.results134 (res_tmp rfl rfl) rfl ?_
    obtain rfl := Option.some.inj h
    exact ⟨(fun b => ren [(21, 2), (22, 3), (23, 4)] (K82 b)), a43_m0, u43_m0, rfl, (f89.map (ren [(21, 2), (22, 3), (23, 4)]) rfl rfl), (f86.map (ren [(21, 2), (22, 3), (23, 4)]) rfl rfl), (f87.map (ren [(21, 2), (22, 3), (23, 4)]) rfl rfl), (f88.map (ren [(21, 2), (22, 3), (23, 4)]) rfl rfl)⟩

/- loop.example/g00869/spec.l31Fits -/
theorem s_l31Fits_ok {w : World} {κ : Col} {p0 : Sig} {a1_2 : Option Addr} {u1_2 : Nat} {a1_3 : Option Addr} {u1_3 : Nat} {a1_4 : Option Addr} {u1_4 : Nat} {p1 : Circuit} (g1_2 : Rd (Rp.int .i64) κ w 0 a1_2 u1_2 p1.Next) (g1_3 : Rd Gate.rp κ w 0 a1_3 u1_3 p1.Gates) (g1_4 : Rd (Rp.int .i64) κ w 0 a1_4 u1_4 p1.Outs) {r : Bool} (h : s_l31Fits p0 p1 = some r) : Ret Try.prog 100 [.agg #[.int .i64 p0.In, .int .i64 p0.Out], .agg #[.int .i64 p1.Inputs, .int .i64 p1.Latches, .slice a1_2 p1.Next.length u1_2, .slice a1_3 p1.Gates.length u1_3, .slice a1_4 p1.Outs.length u1_4]] w (fun v w' => ∃ (κ' : Col), v = .bool r ∧ Ent κ w κ' w') := by
 unfold s_l31Fits at h
 refine Ret.enter Try.func100 rfl Try.ntmps100 rfl ?_
 dsimp only [envOf]
 have hE := Ent.refl κ w
 refine WC.seq ?_
 refine WC.rs [(0, 1), (1, 1), (2, 2)] rfl ?_
 refine WO.box (κ := κ) 2 rfl rfl rfl rfl rfl rfl rfl fun b2 w1 K2 S3 f4 => ⟨trivial, ?_⟩
 refine WO.box (κ := K2) 3 rfl rfl rfl rfl rfl rfl rfl fun b3 w5 K6 S7 f8 => ⟨trivial, ?_⟩
 refine WO.pn 1 rfl ?_
 refine WO.fin ?_
 refine DN.seq ?_
 refine WC.seq ?_
 refine WC.rs [(0, 1), (1, 1), (2, 2), (3, 2), (4, 1), (5, 2), (6, 1), (7, 2), (8, 2), (9, 2), (10, 2), (11, 1), (12, 2), (13, 2), (14, 1), (15, 2), (16, 2), (17, 2)] rfl ?_
 refine WO.k1 trivial rfl rfl rfl rfl (rn_la (cs := [.int .i64 p1.Inputs, .int .i64 p1.Latches, .slice a1_2 p1.Next.length u1_2, .slice a1_3 p1.Gates.length u1_3, .slice a1_4 p1.Outs.length u1_4]) Try.isAgg57 Try.sizeOf57 rfl rfl rfl (haE f8.cells)) ?_
 obtain ⟨x6, hx6, h⟩ := Option.bind_eq_some_iff.mp h
 have f9 := g1_2.stp (S3.tr S7) rfl rfl
 have f10 := g1_3.stp (S3.tr S7) rfl rfl
 have f11 := g1_4.stp (S3.tr S7) rfl rfl
 refine WO.call rfl rfl rfl rfl rfl rfl Try.call115 (s_CircuitOk_ok (κ := fun b => mp [] 0 (K6 b)) (p0 := p1) (Sl.map f9 (mp [] 0) rfl rfl) (Sl.map f10 (mp [] 0) rfl rfl) (Sl.map f11 (mp [] 0) rfl rfl) hx6) ?_
 rintro _ w12 ⟨k13, rfl, e14⟩
 obtain ⟨K15, S16, m17⟩ := Ent.mixed (l := []) (κ := K6) e14 4 rfl
 refine ⟨trivial, ?_⟩
 refine WO.pn 1 rfl ?_
 obtain ⟨p13, h, hK19⟩ := Option.bind_eq_some_iff.mp h
 refine WO.meet [(3, 2), (4, 1), (5, 2), (6, 1), (7, 2), (8, 2)] [(9, 2), (10, 2), (11, 1), (12, 2), (13, 2), (14, 1), (15, 2), (16, 2), (17, 2)] (fun L w' => L = [(2, .pointer (some ⟨b2, 0, none⟩)), (3, .pointer (some ⟨b3, 0, none⟩)), (4, .bool false), (13, .bool p13)] ∧ ∃ κ', Stp [] K15 w12 κ' w') trivial ?_ ?_
 ·
  revert h
  cases ht20 : x6 with
  | true =>
   intro h; replace h := cT h
   refine WO.k2 rfl rfl rfl rfl (rn_fieldAddr Try.runUnderlying57 rfl Try.sizeOf2 rfl rfl) ?_
   have f21 := f8.stp S16 rfl rfl
   refine WO.k1 trivial rfl rfl rfl rfl (rn_ld Try.isAgg2 rfl rfl (hvE (f21.ld 0 rfl rfl))) ?_
   refine WO.k2 rfl rfl rfl rfl (rn_fieldAddr Try.runUnderlying53 rfl Try.sizeOf2 rfl rfl) ?_
   have f22 := f4.stp (S7.tr S16) rfl rfl
   refine WO.k1 trivial rfl rfl rfl rfl (rn_ld Try.isAgg2 rfl rfl (hvE (f22.ld 0 rfl rfl))) ?_
   refine WO.pn 2 rfl ?_
   obtain rfl := Option.some.inj h
   exact WO.met _ trivial ⟨rfl, _, (Stp.refl _ _).wk rfl⟩ fun a ha => (ha.more (ha.more (ha.more (ha.more ha.nil rfl) rfl) rfl) rfl)
  | false =>
   intro h; replace h := cF h
   refine WO.pn 1 rfl ?_
   refine WO.ls rfl rfl rfl rfl ?_
   refine WO.pn 1 rfl ?_
   refine WO.ls rfl rfl rfl rfl ?_
   refine WO.pn 2 rfl ?_
   obtain rfl := Option.some.inj h
   exact WO.met _ trivial ⟨rfl, _, (Stp.refl _ _).wk rfl⟩ fun a ha => (ha.more (ha.more (ha.more (ha.more ha.nil rfl) rfl) rfl) rfl)
 rintro _ w23 _ ⟨rfl, K24, S25⟩
 have h := hK19
 refine WO.pn 1 rfl ?_
 obtain ⟨p21, h, hK26⟩ := Option.bind_eq_some_iff.mp h
 refine WO.meet [(10, 2), (11, 1), (12, 2), (13, 2), (14, 1), (15, 2), (16, 2)] [(17, 2)] (fun L w' => L = [(4, .bool false), (21, .bool p21)] ∧ ∃ κ', Stp [] K24 w23 κ' w') trivial ?_ ?_
 ·
  revert h
  cases ht27 : p13 with
  | true =>
   intro h; replace h := cT h
   refine WO.k2 rfl rfl rfl rfl (rn_fieldAddr Try.runUnderlying57 rfl Try.sizeOf22 rfl rfl) ?_
   have f28 := f8.stp (S16.tr S25) rfl rfl
   refine WO.k1 trivial rfl rfl rfl rfl (rn_ld Try.isAgg22 rfl rfl (hvE (f28.ld 4 rfl rfl))) ?_
   refine WO.k2 rfl rfl rfl rfl (rn_len Try.runUnderlying22 rfl rfl) ?_
   refine WO.k2 rfl rfl rfl rfl (rn_fieldAddr Try.runUnderlying53 rfl Try.sizeOf2 rfl rfl) ?_
   have f29 := f4.stp (S7.tr (S16.tr S25)) rfl rfl
   refine WO.k1 trivial rfl rfl rfl rfl (rn_ld Try.isAgg2 rfl rfl (hvE (f29.ld 1 rfl rfl))) ?_
   refine WO.pn 2 rfl ?_
   obtain rfl := Option.some.inj h
   exact WO.met _ trivial ⟨rfl, _, (Stp.refl _ _).wk rfl⟩ fun a ha => (ha.more (ha.more ha.nil rfl) rfl)
  | false =>
   intro h; replace h := cF h
   refine WO.pn 1 rfl ?_
   refine WO.ls rfl rfl rfl rfl ?_
   refine WO.pn 2 rfl ?_
   refine WO.ls rfl rfl rfl rfl ?_
   refine WO.pn 2 rfl ?_
   obtain rfl := Option.some.inj h
   exact WO.met _ trivial ⟨rfl, _, (Stp.refl _ _).wk rfl⟩ fun a ha => (ha.more (ha.more ha.nil rfl) rfl)
 rintro _ w30 _ ⟨rfl, K31, S32⟩
 have h := hK26
 refine WO.pn 1 rfl ?_
 refine WO.fin ?_
 refine DN.seq ?_
 refine WC.ret ?_
 have f33 := hE.stp (S3.tr (S7.tr (S16.tr (S25.tr S32)))) rfl rfl
 refine DN.res (l := [.tmp 4]) Try.results100 (res_tmp rfl rfl) rfl ?_
 obtain rfl := Option.some.inj h
 exact ⟨K31, rfl, f33⟩

end Go.Proofs.Ytfmkhnlnomkcfaa
