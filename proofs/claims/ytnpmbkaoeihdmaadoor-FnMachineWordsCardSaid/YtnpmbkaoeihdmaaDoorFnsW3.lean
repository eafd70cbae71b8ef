/- The walks, part 3. By program. -/
import Derived.Test.YtnpmbkaoeihdmaaDoorText
import Derived.Test.YtnpmbkaoeihdmaaDoorShelf
import Derived.Test.YtnpmbkaoeihdmaaDoorFnsW2
set_option linter.unusedVariables false
set_option linter.unusedSimpArgs false
namespace Go.Proofs.YtnpmbkaoeihdmaaDoor
open Go Go.Wk Go.Proofs
set_option maxRecDepth 100000
set_option maxHeartbeats 1000000

/- loop.example/g00869/impl.MachineText -/
theorem i_MachineText_ok {w : World} {κ : Col} {p0 : Sig} {a1_0 : Option Addr} {u1_0 : Nat} {a1_1 : Option Addr} {u1_1 : Nat} {p1 : Machine} (g1_0 : Rd (Rp.sl (Rp.int .i64)) κ w 0 a1_0 u1_0 p1.Next) (g1_1 : Rd (Rp.sl (Rp.int .i64)) κ w 0 a1_1 u1_1 p1.Out) (gGT : Tb Tryd.prog "internal/strconv.uint64pow10" .u64 Lib.pow10Tab κ w) {r : ByteArray} (h : i_MachineText p0 p1 = some r) : Ret Tryd.prog 19 [.agg #[.int .i64 p0.In, .int .i64 p0.Out], .agg #[.slice a1_0 p1.Next.length u1_0, .slice a1_1 p1.Out.length u1_1]] w (fun v w' => ∃ (κ' : Col), v = .string r ∧ Ent κ w κ' w') := by
 unfold i_MachineText at h
 refine Ret.enter Tryd.func19 rfl Tryd.ntmps19 rfl ?_
 dsimp only [envOf]
 have hE := Ent.refl κ w
 refine WC.seq ?_
 refine WC.rs [(0, 1), (1, 1), (2, 2)] rfl ?_
 refine WO.box (κ := κ) 2 rfl rfl rfl rfl rfl rfl rfl fun b2 w1 K2 S3 f4 => ⟨trivial, ?_⟩
 refine WO.box (κ := K2) 3 rfl rfl rfl rfl rfl rfl rfl fun b3 w5 K6 S7 f8 => ⟨trivial, ?_⟩
 refine WO.pn 1 rfl ?_
 refine WO.fin ?_
 refine DN.seq ?_
 refine WC.seq ?_
 refine WC.seq ?_
 refine WC.rs [(0, 1), (1, 1), (2, 2), (3, 2), (4, 1), (5, 1), (6, 1), (7, 2), (8, 2)] rfl ?_
 have f9 := f4.stp S7 rfl rfl
 refine WO.k1 trivial rfl rfl rfl rfl (rn_la (cs := [.int .i64 p0.In, .int .i64 p0.Out]) Tryd.isAgg40 Tryd.sizeOf40 rfl rfl rfl (haE f9.cells)) ?_
 obtain ⟨x12, hx12, h⟩ := Option.bind_eq_some_iff.mp h
 refine WO.call rfl rfl rfl rfl rfl rfl Tryd.call47 (i_isSig_ok (κ := fun b => mp [] 0 (K6 b)) (p0 := p0) hx12) ?_
 rintro _ w10 ⟨k11, rfl, e12⟩
 obtain ⟨K13, S14, m15⟩ := Ent.mixed (l := []) (κ := K6) e12 4 rfl
 refine ⟨trivial, ?_⟩
 refine WO.pn 2 rfl ?_
 obtain ⟨p19, h, hK17⟩ := Option.bind_eq_some_iff.mp h
 refine WO.meet [(4, 1), (5, 1), (6, 1), (7, 2), (8, 2)] [] (fun L w' => L = [(3, .pointer (some ⟨b3, 0, none⟩)), (19, .bool p19)] ∧ ∃ κ', Stp [] K13 w10 κ' w') trivial ?_ ?_
 ·
  revert h
  cases ht18 : (!x12) with
  | true =>
   intro h; replace h := cT h
   refine WO.ls rfl rfl rfl rfl ?_
   refine WO.ls rfl rfl rfl rfl ?_
   refine WO.ls rfl rfl rfl rfl ?_
   refine WO.pn 2 rfl ?_
   obtain rfl := Option.some.inj h
   exact WO.met _ trivial ⟨rfl, _, (Stp.refl _ _).wk rfl⟩ fun a ha => (ha.more (ha.more ha.nil rfl) rfl)
  | false =>
   intro h; replace h := cF h
   have f19 := f9.stp S14 rfl rfl
   refine WO.k1 trivial rfl rfl rfl rfl (rn_la (cs := [.int .i64 p0.In, .int .i64 p0.Out]) Tryd.isAgg40 Tryd.sizeOf40 rfl rfl rfl (haE f19.cells)) ?_
   have f20 := f8.stp S14 rfl rfl
   refine WO.k1 trivial rfl rfl rfl rfl (rn_la (cs := [.slice a1_0 p1.Next.length u1_0, .slice a1_1 p1.Out.length u1_1]) Tryd.isAgg42 Tryd.sizeOf42 rfl rfl rfl (haE f20.cells)) ?_
   obtain ⟨x17, hx17, h⟩ := Option.bind_eq_some_iff.mp h
   have f21 := g1_0.stp (S3.tr (S7.tr S14)) rfl rfl
   have f22 := g1_1.stp (S3.tr (S7.tr S14)) rfl rfl
   refine WO.call rfl rfl rfl rfl rfl rfl Tryd.call48 (i_isMachine_ok (κ := fun b => mp [] 0 (K13 b)) (p0 := p0) (p1 := p1) (Sl.map f21 (mp [] 0) rfl rfl) (Sl.map f22 (mp [] 0) rfl rfl) hx17) ?_
   rintro _ w23 ⟨k24, rfl, e25⟩
   obtain ⟨K26, S27, m28⟩ := Ent.mixed (l := []) (κ := K13) e25 6 rfl
   refine ⟨trivial, ?_⟩
   refine WO.pn 2 rfl ?_
   obtain rfl := Option.some.inj h
   exact WO.met _ trivial ⟨rfl, _, S27.wk rfl⟩ fun a ha => (ha.more (ha.more ha.nil rfl) rfl)
 rintro _ w30 _ ⟨rfl, K31, S32⟩
 have h := hK17
 refine WO.fin ?_
 refine DN.seq ?_
 revert h
 cases ht33 : p19 with
 | true =>
  intro h; replace h := cT h
  refine WC.ct rfl ?_
  refine WC.seq ?_
  refine WC.rs [(0, 2)] rfl ?_
  refine WO.pn 1 rfl ?_
  refine WO.fin ?_
  refine DN.seq ?_
  refine WC.ret ?_
  refine DN.retThen ?_
  have f34 := hE.stp (S3.tr (S7.tr (S14.tr S32))) rfl rfl
  refine DN.res (l := [.tmp 4]) Tryd.results19 (res_tmp rfl rfl) rfl ?_
  obtain rfl := Option.some.inj h
  exact ⟨K31, rfl, f34⟩
 | false =>
  intro h; replace h := cF h
  refine WC.cf rfl ?_
  refine WC.skip ?_
  refine DN.seq ?_
  refine WC.seq ?_
  refine WC.rs [(0, 2)] rfl ?_
  refine WO.pn 1 rfl ?_
  refine WO.fin ?_
  refine DN.seq ?_
  refine WC.seq ?_
  refine WC.seq ?_
  refine WC.rs [(0, 2), (1, 1), (2, 2), (3, 2)] rfl ?_
  refine WO.k2 rfl rfl rfl rfl (rn_fieldAddr Tryd.runUnderlying42 rfl Tryd.sizeOf35 rfl rfl) ?_
  have f35 := f8.stp (S14.tr S32) rfl rfl
  refine WO.k1 trivial rfl rfl rfl rfl (rn_ld Tryd.isAgg35 rfl rfl (hvE (f35.ld 0 rfl rfl))) ?_
  refine WO.k2 rfl rfl rfl rfl (rn_len Tryd.runUnderlying35 rfl rfl) ?_
  refine WO.pn 1 rfl ?_
  refine WO.fin ?_
  refine DN.seq ?_
  have hN36 : (p1.Next.length : Int) ≤ 9223372036854775807 := g1_0.len_le
  obtain ⟨q2, hq38, hK37⟩ := Option.bind_eq_some_iff.mp h
  clear h
  refine WC.meet (fun L w' => ∃ (κ' : Col) (s3 : ByteArray), L = [(5, .string s3)] ∧ Stp [6] K31 w30 κ' w' ∧ q2 = Sum.inr s3) ?_ ?_
  ·
   refine WC.block ?_
   refine WC.loop (fun k L w' => ∃ (κ' : Col) (v23 : Int) (s1 : ByteArray), L = [(3, .pointer (some ⟨b3, 0, none⟩)), (5, .string s1), (21, .slice a1_0 p1.Next.length u1_0), (22, .int .i64 (p1.Next.length : Int)), (23, .int .i64 v23)] ∧ Stp [6] K31 w30 κ' w' ∧ 0 ≤ v23 ∧ Int.toNat ((p1.Next.length : Int) - v23) = k ∧ cntM (i_MachineText_b0 p1) k v23 s1 = some q2) ⟨_, _, ⟨K31, 0, ((ByteArray.mk #[]) : ByteArray), rfl, (Stp.refl _ _).wk rfl, (by decide), (by simp), hq38⟩, fun a ha => (ha.more (ha.more (ha.more (ha.more (ha.more ha.nil rfl) rfl) rfl) rfl) rfl)⟩ ?_
   rintro k _ w42 ⟨K43, v23, s1, rfl, S44, hj36, hJ36, h⟩
   rcases k with _ | k
   ·
    have hk45 := h; obtain ⟨o36, h⟩ := ex_eq (Sum.inr (Sum.inl s1) : ByteArray ⊕ ((ByteArray) ⊕ (ByteArray)))
    have hc36 : decide (v23 < (p1.Next.length : Int)) = false := decide_eq_false (by omega)
    refine WC.seq ?_
    refine WC.rs [(0, 2)] rfl ?_
    refine WO.pn 1 rfl ?_
    refine WO.fin ?_
    refine DN.seq ?_
    refine WC.seq ?_
    refine WC.cf' rfl hc36 ?_
    refine WC.exit ?_
    refine DN.exitThen ?_
    refine DN.exitThen ?_
    obtain rfl := Option.some.inj h
    have h := hk45
    refine DN.hit ?_
    obtain rfl := Option.some.inj h
    exact DN.meet _ ⟨K43, (s1 : ByteArray), rfl, S44.wk rfl, rfl⟩ fun a ha => (ha.more ha.nil rfl)
   ·
    obtain ⟨o36, h, hk45⟩ := Option.bind_eq_some_iff.mp h; unfold i_MachineText_b0 at h
    have hc36 : decide (v23 < (p1.Next.length : Int)) = true := decide_eq_true (by omega)
    refine WC.seq ?_
    refine WC.rs [(0, 2)] rfl ?_
    refine WO.pn 1 rfl ?_
    refine WO.fin ?_
    refine DN.seq ?_
    refine WC.seq ?_
    refine WC.ct' rfl hc36 ?_
    refine WC.skip ?_
    refine DN.seq ?_
    refine WC.seq ?_
    refine WC.block ?_
    refine WC.seq ?_
    refine WC.rs [(0, 2), (1, 2), (2, 1), (3, 2), (4, 2)] rfl ?_
    refine WO.pn 1 rfl ?_
    obtain ⟨x26, hx26, h⟩ := Option.bind_eq_some_iff.mp h
    refine WO.k2 rfl rfl rfl rfl (rn_index g1_0 hx26 Tryd.runUnderlying35 Tryd.sizeOf60 rfl rfl rfl rfl) ?_
    have f46 := g1_0.stp (S3.tr (S7.tr (S14.tr (S32.tr S44)))) rfl rfl
    obtain ⟨ax26, ux26, f47, hl48⟩ := f46.gSl hx26
    refine WO.k1 trivial rfl rfl rfl rfl (rn_ld Tryd.isAgg60 rfl rfl (hvE hl48)) ?_
    refine WO.pn 2 rfl ?_
    refine WO.fin ?_
    refine DN.seq ?_
    refine WC.seq ?_
    refine WC.rs [(0, 1), (1, 2)] rfl ?_
    refine WO.bl0 (κ := K43) (E := Ep.str) 6 rfl rfl rfl rfl rfl Tryd.underlying57 Trydinfo9 rfl fun a28 u28 w49 K50 S51 f52 => ⟨trivial, ?_⟩
    refine WO.pn 1 rfl ?_
    refine WO.fin ?_
    refine DN.seq ?_
    refine WC.seq ?_
    refine WC.seq ?_
    refine WC.rs [(0, 2), (1, 2), (2, 2)] rfl ?_
    refine WO.pn 1 rfl ?_
    refine WO.k2 rfl rfl rfl rfl (rn_len Tryd.runUnderlying60 rfl rfl) ?_
    refine WO.pn 1 rfl ?_
    refine WO.fin ?_
    refine DN.seq ?_
    have hN53 : (x26.length : Int) ≤ 9223372036854775807 := f47.len_le
    obtain ⟨q5, hq55, hK54⟩ := Option.bind_eq_some_iff.mp h
    clear h
    refine WC.meet (fun L w' => ∃ (κ' : Col) (s6 : (List ByteArray)) (las6_0 : Option Addr) (lus6_0 : Nat), L = [(3, .pointer (some ⟨b3, 0, none⟩)), (5, .string s1), (8, .slice las6_0 s6.length lus6_0), (21, .slice a1_0 p1.Next.length u1_0), (22, .int .i64 (p1.Next.length : Int)), (23, .int .i64 v23)] ∧ Stp [6] K50 w49 κ' w' ∧ Oc Ep.str 9 κ' w' 6 las6_0 lus6_0 s6 ∧ q5 = Sum.inr s6) ?_ ?_
    ·
     refine WC.block ?_
     refine WC.loop (fun k L w' => ∃ (κ' : Col) (v31 : Int) (s4 : (List ByteArray)) (las4_0 : Option Addr) (lus4_0 : Nat), L = [(3, .pointer (some ⟨b3, 0, none⟩)), (5, .string s1), (6, .int .i64 v23), (8, .slice las4_0 s4.length lus4_0), (21, .slice a1_0 p1.Next.length u1_0), (22, .int .i64 (p1.Next.length : Int)), (23, .int .i64 v23), (29, .slice ax26 x26.length ux26), (30, .int .i64 (x26.length : Int)), (31, .int .i64 v31)] ∧ Stp [6] K50 w49 κ' w' ∧ Oc Ep.str 9 κ' w' 6 las4_0 lus4_0 s4 ∧ 0 ≤ v31 ∧ Int.toNat ((x26.length : Int) - v31) = k ∧ cntM (i_MachineText_b2 p1 v23 x26) k v31 s4 = some q5) ⟨_, _, ⟨K50, 0, (([] : List ByteArray) : (List ByteArray)), a28, u28, rfl, (Stp.refl _ _).wk rfl, f52, (by decide), (by simp), hq55⟩, fun a ha => (ha.more (ha.more (ha.more (ha.more (ha.more (ha.more (ha.more (ha.more (ha.more (ha.more ha.nil rfl) rfl) rfl) rfl) rfl) rfl) rfl) rfl) rfl) rfl)⟩ ?_
     rintro k _ w60 ⟨K61, v31, s4, las4_0, lus4_0, rfl, S62, f63, hj53, hJ53, h⟩
     rcases k with _ | k
     ·
      have hk64 := h; obtain ⟨o53, h⟩ := ex_eq (Sum.inr (Sum.inl s4) : ByteArray ⊕ (((List ByteArray)) ⊕ ((List ByteArray))))
      have hc53 : decide (v31 < (x26.length : Int)) = false := decide_eq_false (by omega)
      refine WC.seq ?_
      refine WC.rs [(0, 2)] rfl ?_
      refine WO.pn 1 rfl ?_
      refine WO.fin ?_
      refine DN.seq ?_
      refine WC.seq ?_
      refine WC.cf' rfl hc53 ?_
      refine WC.exit ?_
      refine DN.exitThen ?_
      refine DN.exitThen ?_
      obtain rfl := Option.some.inj h
      have h := hk64
      refine DN.hit ?_
      obtain rfl := Option.some.inj h
      exact DN.meet _ ⟨K61, (s4 : (List ByteArray)), las4_0, lus4_0, rfl, S62.wk rfl, f63, rfl⟩ fun a ha => (ha.more (ha.more (ha.more (ha.more (ha.more (ha.more ha.nil rfl) rfl) rfl) rfl) rfl) rfl)
     ·
      obtain ⟨o53, h, hk64⟩ := Option.bind_eq_some_iff.mp h; unfold i_MachineText_b2 at h
      have hc53 : decide (v31 < (x26.length : Int)) = true := decide_eq_true (by omega)
      refine WC.seq ?_
      refine WC.rs [(0, 2)] rfl ?_
      refine WO.pn 1 rfl ?_
      refine WO.fin ?_
      refine DN.seq ?_
      refine WC.seq ?_
      refine WC.ct' rfl hc53 ?_
      refine WC.skip ?_
      refine DN.seq ?_
      refine WC.seq ?_
      refine WC.block ?_
      refine WC.seq ?_
      refine WC.rs [(0, 2), (1, 2), (2, 1), (3, 2), (4, 2)] rfl ?_
      refine WO.pn 1 rfl ?_
      obtain ⟨x34, hx34, h⟩ := Option.bind_eq_some_iff.mp h
      refine WO.k2 rfl rfl rfl rfl (rn_index f47 hx34 Tryd.runUnderlying60 Tryd.sizeOf2 rfl rfl rfl rfl) ?_
      have f65 := f47.stp (S51.tr S62) rfl rfl
      refine WO.k1 trivial rfl rfl rfl rfl (rn_ld Tryd.isAgg2 rfl rfl (hvE (f65.gInt hx34))) ?_
      refine WO.pn 2 rfl ?_
      refine WO.fin ?_
      refine DN.seq ?_
      refine WC.rx (κ := K61) [0, 3] none [(0, 2), (1, 2), (4, 2), (6, 2), (9, 2), (5, 0), (7, 2), (8, 0), (10, 2), (11, 0), (2, 1), (3, 2), (12, 1), (13, 2), (14, 1), (15, 1), (16, 2)] [] (by kernel_rfl) (by kernel_rfl) fun w67 S66 => ?_
      refine WO.pn 2 rfl ?_
      refine WO.k2 rfl rfl rfl rfl (rn_fieldAddr Tryd.runUnderlying42 rfl Tryd.sizeOf35 rfl rfl) ?_
      refine WO.pn 2 rfl ?_
      have f68 := f35.stp (S44.tr (S51.tr (S62.tr S66))) rfl rfl
      refine WO.k0 rfl rfl rfl rfl (rn_ld Tryd.isAgg35 rfl rfl (hvC (f68.ld 1 rfl rfl) rfl)) ?_
      obtain ⟨x43, hx43, h⟩ := Option.bind_eq_some_iff.mp h
      refine WO.k2 rfl rfl rfl rfl (rn_index g1_1 hx43 Tryd.runUnderlying35 Tryd.sizeOf60 rfl rfl rfl rfl) ?_
      have f69 := g1_1.stp (S3.tr (S7.tr (S14.tr (S32.tr (S44.tr (S51.tr (S62.tr S66))))))) rfl rfl
      obtain ⟨ax43, ux43, f70, hl71⟩ := f69.gSl hx43
      refine WO.k0 rfl rfl rfl rfl (rn_ld Tryd.isAgg60 rfl rfl (hvC hl71 rfl)) ?_
      obtain ⟨x46, hx46, h⟩ := Option.bind_eq_some_iff.mp h
      refine WO.k2 rfl rfl rfl rfl (rn_index f70 hx46 Tryd.runUnderlying60 Tryd.sizeOf2 rfl rfl rfl rfl) ?_
      refine WO.k0 rfl rfl rfl rfl (rn_ld Tryd.isAgg2 rfl rfl (hvC (f70.gInt hx46) rfl)) ?_
      obtain ⟨x38, hx38, h⟩ := Option.bind_eq_some_iff.mp h
      have f72 := gGT.stp (S3.tr (S7.tr (S14.tr (S32.tr (S44.tr (S51.tr (S62.tr S66))))))) rfl rfl
      refine WO.call rfl rfl rfl rfl rfl rfl Tryd.call36 (i_decimal_ok (κ := fun b => mp [] 0 (K61 b)) (f72.map (mp [] 0) rfl rfl) hx38) ?_
      rintro _ w73 ⟨k74, rfl, e75⟩
      obtain ⟨K76, S77, m78⟩ := Ent.mixed (l := []) (κ := K61) e75 7 rfl
      refine ⟨(S77.cl rfl), ?_⟩
      obtain ⟨x39, hx39, h⟩ := Option.bind_eq_some_iff.mp h
      refine WO.k2 rfl rfl rfl rfl (rn_addS rfl rfl rfl hx39) ?_
      obtain ⟨x48, hx48, h⟩ := Option.bind_eq_some_iff.mp h
      have f80 := f72.stp S77 rfl rfl
      refine WO.call rfl rfl rfl rfl rfl rfl Tryd.call36 (i_decimal_ok (κ := fun b => mp [] 0 (K76 b)) (f80.map (mp [] 0) rfl rfl) hx48) ?_
      rintro _ w81 ⟨k82, rfl, e83⟩
      obtain ⟨K84, S85, m86⟩ := Ent.mixed (l := []) (κ := K76) e83 9 rfl
      refine ⟨((S77.tr S85).cl rfl), ?_⟩
      obtain ⟨x49, hx49, h⟩ := Option.bind_eq_some_iff.mp h
      refine WO.k2 rfl rfl rfl rfl (rn_addS rfl rfl rfl hx49) ?_
      refine WO.bl (κ := K84) (E := Ep.str) 11 [] (parts := [(0, .tmp 49)]) (cells := [.string x49]) (xs := ([x49] : List ByteArray)) rfl rfl rfl rfl rfl rfl Tryd.underlying57 Trydinfo9 rfl rfl rfl rfl rfl rfl rfl rfl rfl rfl ⟨[.string x49], [], Zl K84 w81 [], Zl K84 w81 [], rfl, Zl.sp (l1 := []) (l2 := []) rfl, Zl.sr (l1 := []) (l2 := []), rfl, rfl⟩ fun a50 u50 w88 K89 S90 f91 => ⟨((S77.tr (S85.tr S90)).cl rfl), ?_⟩
      obtain ⟨x51, hx51, h⟩ := Option.bind_eq_some_iff.mp h
      have f92 := f63.stp (S66.tr (S77.tr (S85.tr S90))) rfl rfl
      refine WO.app (κ := K89) (E := Ep.str) 6 [] rfl rfl rfl rfl rfl rfl rfl rfl rfl Tryd.underlying57 Trydinfo9 rfl rfl rfl rfl f92 (Sl.srcP pu_str f91.rdc) sy_false hx51 rfl fun a51 u51 w93 K94 S95 f96 => ⟨((S77.tr (S85.tr (S90.tr S95))).cl rfl), ?_⟩
      refine WO.pn 1 rfl ?_
      refine WO.nx ?_
      refine WO.fin ?_
      refine DN.block ?_
      refine DN.seq ?_
      refine WC.rs [(0, 2), (1, 2)] rfl ?_
      refine WO.pn 2 rfl ?_
      refine WO.fin ?_
      have hw53 : IntKind.wrap .i64 (v31 + 1) = v31 + 1 := wr1 hj53 (of_decide_eq_true hc53) hN53
      rw [hw53]
      have hc53 := of_decide_eq_true hc53
      obtain rfl := Option.some.inj h
      refine DN.round fun a ha => ?_
      exact ⟨k, _, Nat.lt_succ_self _, ⟨K94, v31 + 1, (x51 : (List ByteArray)), a51, u51, rfl, (S62.tr (S66.tr (S77.tr (S85.tr (S90.tr S95))))).wk rfl, f96, by omega, by omega, hk64⟩, (ha.more (ha.more (ha.more (ha.more (ha.more (ha.more (ha.more (ha.more (ha.more (ha.more ha.nil rfl) rfl) rfl) rfl) rfl) rfl) rfl) rfl) rfl) rfl)⟩
    rintro _ w56 ⟨K57, s6, las6_0, lus6_0, rfl, S58, f59, rfl⟩
    have h := hK54
    dsimp only [aft] at h
    refine DN.seq ?_
    refine WC.rs [(0, 2), (1, 2), (2, 1), (3, 2), (4, 2), (5, 2)] rfl ?_
    refine WO.pn 2 rfl ?_
    obtain ⟨x55, hx55, h⟩ := Option.bind_eq_some_iff.mp h
    refine WO.call rfl rfl rfl rfl rfl rfl Tryd.call49 (strings_Join_ok (κ := fun b => mp [] 0 (K57 b)) (Sl.map f59.rdc (mp [] 0) rfl rfl) hx55) ?_
    rintro _ w97 ⟨k98, rfl, e99⟩
    obtain ⟨K100, S101, m102⟩ := Ent.mixed (l := []) (κ := K57) e99 7 rfl
    refine ⟨trivial, ?_⟩
    obtain ⟨x56, hx56, h⟩ := Option.bind_eq_some_iff.mp h
    refine WO.k2 rfl rfl rfl rfl (rn_addS rfl rfl rfl hx56) ?_
    obtain ⟨x57, hx57, h⟩ := Option.bind_eq_some_iff.mp h
    refine WO.k2 rfl rfl rfl rfl (rn_addS rfl rfl rfl hx57) ?_
    refine WO.pn 1 rfl ?_
    refine WO.fin ?_
    refine DN.block ?_
    refine DN.seq ?_
    refine WC.rs [(0, 2), (1, 2)] rfl ?_
    refine WO.pn 2 rfl ?_
    refine WO.fin ?_
    have hw36 : IntKind.wrap .i64 (v23 + 1) = v23 + 1 := wr1 hj36 (of_decide_eq_true hc36) hN36
    rw [hw36]
    have hc36 := of_decide_eq_true hc36
    obtain rfl := Option.some.inj h
    refine DN.round fun a ha => ?_
    exact ⟨k, _, Nat.lt_succ_self _, ⟨K100, v23 + 1, (x57 : ByteArray), rfl, (S44.tr (S51.tr (S58.tr S101))).wk rfl, by omega, by omega, hk45⟩, (ha.more (ha.more (ha.more (ha.more (ha.more ha.nil rfl) rfl) rfl) rfl) rfl)⟩
  rintro _ w39 ⟨K40, s3, rfl, S41, rfl⟩
  have h := hK37
  dsimp only [aft] at h
  refine DN.seq ?_
  refine WC.seq ?_
  refine WC.rs [(0, 2), (1, 2)] rfl ?_
  refine WO.pn 2 rfl ?_
  refine WO.fin ?_
  refine DN.seq ?_
  refine WC.ret ?_
  have f104 := hE.stp (S3.tr (S7.tr (S14.tr (S32.tr S41)))) rfl rfl
  refine DN.res (l := [.tmp 4]) Tryd.results19 (res_tmp rfl rfl) rfl ?_
  obtain rfl := Option.some.inj h
  exact ⟨K40, rfl, f104⟩

/- loop.example/g00869/impl.TextMachine -/
theorem i_TextMachine_ok {w : World} {κ : Col} {p0 : Sig} {p1 : ByteArray} (gGM : Vm 1 κ w) {r : Machine × Bool} (h : i_TextMachine p0 p1 = some r) : Ret Tryd.prog 24 [.agg #[.int .i64 p0.In, .int .i64 p0.Out], .string p1] w (fun v w' => ∃ (κ' : Col) (ra0 : Option Addr) (ru0 : Nat) (ra1 : Option Addr) (ru1 : Nat), v = .tuple #[.agg #[.slice ra0 r.1.Next.length ru0, .slice ra1 r.1.Out.length ru1], .bool r.2] ∧ Ent κ w κ' w' ∧ Oc (Ep.own (Ep.int .i64) 2) 60 κ' w' 2 ra0 ru0 r.1.Next ∧ Oc (Ep.own (Ep.int .i64) 2) 60 κ' w' 3 ra1 ru1 r.1.Out) := by
 unfold i_TextMachine at h
 refine Ret.enter Tryd.func24 rfl Tryd.ntmps24 rfl ?_
 dsimp only [envOf]
 have hE := Ent.refl κ w
 refine WC.seq ?_
 refine WC.rs [(0, 1), (1, 1), (2, 2)] rfl ?_
 refine WO.box (κ := κ) 2 rfl rfl rfl rfl rfl rfl rfl fun b2 w1 K2 S3 f4 => ⟨trivial, ?_⟩
 refine WO.alloc (κ := K2) 3 rfl rfl rfl rfl rfl Tryd.zeroValue42 rfl fun b4 w5 K6 S7 f8 => ⟨trivial, ?_⟩
 refine WO.pn 1 rfl ?_
 refine WO.fin ?_
 refine DN.seq ?_
 refine WC.seq ?_
 refine WC.seq ?_
 refine WC.rs [(0, 1), (1, 1), (2, 2), (3, 2), (4, 2), (5, 2), (6, 2), (7, 2)] rfl ?_
 have f9 := f4.stp S7 rfl rfl
 refine WO.k1 trivial rfl rfl rfl rfl (rn_la (cs := [.int .i64 p0.In, .int .i64 p0.Out]) Tryd.isAgg40 Tryd.sizeOf40 rfl rfl rfl (haE f9.cells)) ?_
 obtain ⟨x23, hx23, h⟩ := Option.bind_eq_some_iff.mp h
 refine WO.call rfl rfl rfl rfl rfl rfl Tryd.call47 (i_isSig_ok (κ := fun b => mp [] 0 (K6 b)) (p0 := p0) hx23) ?_
 rintro _ w10 ⟨k11, rfl, e12⟩
 obtain ⟨K13, S14, m15⟩ := Ent.mixed (l := []) (κ := K6) e12 4 rfl
 refine ⟨trivial, ?_⟩
 refine WO.pn 2 rfl ?_
 obtain ⟨p29, h, hK17⟩ := Option.bind_eq_some_iff.mp h
 refine WO.meet [(4, 2), (5, 2), (6, 2), (7, 2)] [] (fun L w' => L = [(1, .string p1), (2, .pointer (some ⟨b2, 0, none⟩)), (4, .pointer (some ⟨b4, 0, none⟩)), (29, .bool p29)] ∧ ∃ κ', Stp [] K13 w10 κ' w') trivial ?_ ?_
 ·
  revert h
  cases ht18 : (!x23) with
  | true =>
   intro h; replace h := cT h
   refine WO.pn 4 rfl ?_
   obtain rfl := Option.some.inj h
   exact WO.met _ trivial ⟨rfl, _, (Stp.refl _ _).wk rfl⟩ fun a ha => (ha.more (ha.more (ha.more (ha.more ha.nil rfl) rfl) rfl) rfl)
  | false =>
   intro h; replace h := cF h
   refine WO.pn 1 rfl ?_
   refine WO.k2 rfl rfl rfl rfl (rn_lenS Tryd.runUnderlying9 rfl rfl) ?_
   refine WO.pn 2 rfl ?_
   obtain rfl := Option.some.inj h
   exact WO.met _ trivial ⟨rfl, _, (Stp.refl _ _).wk rfl⟩ fun a ha => (ha.more (ha.more (ha.more (ha.more ha.nil rfl) rfl) rfl) rfl)
 rintro _ w19 _ ⟨rfl, K20, S21⟩
 have h := hK17
 refine WO.fin ?_
 refine DN.seq ?_
 revert h
 cases ht22 : p29 with
 | true =>
  intro h; replace h := cT h
  refine WC.ct rfl ?_
  refine WC.seq ?_
  refine WC.rs [(0, 2), (1, 1), (2, 2)] rfl ?_
  refine WO.k2 rfl rfl rfl rfl (rn_build (parts := []) (cells := [.slice none 0 0, .slice none 0 0]) rfl rfl (by kernel_rfl)) ?_
  have f23 := f8.stp (S14.tr S21) rfl rfl
  refine WO.stB0 (κ := K20) 3 (vc := [.slice none 0 0, .slice none 0 0]) rfl rfl rfl rfl rfl rfl rfl Tryd.sizeOf42 rfl rfl f23 rfl fun w24 S25 f26 => ⟨trivial, ?_⟩
  refine WO.pn 1 rfl ?_
  refine WO.fin ?_
  refine DN.seq ?_
  refine WC.ret ?_
  refine DN.retThen ?_
  have f27 := hE.stp (S3.tr (S7.tr (S14.tr (S21.tr S25)))) rfl rfl
  refine DN.res (l := [.cell 4 42, .tmp 5]) Tryd.results24 (res_cellA rfl f26 Tryd.isAgg42 Tryd.sizeOf42 rfl (res_tmp rfl rfl)) rfl ?_
  obtain rfl := Option.some.inj h
  exact ⟨K20, none, 0, none, 0, rfl, f27, Ow.nil, Ow.nil⟩
 | false =>
  intro h; replace h := cF h
  refine WC.cf rfl ?_
  refine WC.skip ?_
  refine DN.seq ?_
  refine WC.seq ?_
  refine WC.rs [(0, 2), (1, 1), (2, 2), (3, 2), (4, 2), (5, 2), (6, 2)] rfl ?_
  refine WO.pn 1 rfl ?_
  obtain ⟨x33, hx33, h⟩ := Option.bind_eq_some_iff.mp h
  have f28 := gGM.stp (S3.tr (S7.tr (S14.tr S21))) rfl rfl
  refine WO.call rfl rfl rfl rfl rfl rfl Tryd.call55 (i_linesOf_ok (κ := fun b => mp [] 1 (K20 b)) (f28.map (mp [] 1) rfl rfl) hx33) ?_
  rintro _ w29 ⟨k30, a33_0, u33_0, rfl, e31, f32⟩
  obtain ⟨K33, S34, m35, z36⟩ := Ent.mixed0 (l := []) (κ := K20) e31 6 rfl
  refine ⟨trivial, ?_⟩
  have f37 := f32.mx z36
  refine WO.pn 5 rfl ?_
  refine WO.fin ?_
  refine DN.seq ?_
  refine WC.seq ?_
  refine WC.rs [(0, 2), (1, 1), (2, 1)] rfl ?_
  refine WO.k2 rfl rfl rfl rfl (rn_build (parts := []) (cells := [.slice none 0 0, .slice none 0 0]) rfl rfl (by kernel_rfl)) ?_
  refine WO.alloc (κ := K33) 9 rfl rfl rfl rfl rfl Tryd.zeroValue42 rfl fun b8 w38 K39 S40 f41 => ⟨trivial, ?_⟩
  refine WO.stB0 (κ := K39) 9 (vc := [.slice none 0 0, .slice none 0 0]) rfl rfl rfl rfl rfl rfl rfl Tryd.sizeOf42 rfl rfl f41 rfl fun w42 S43 f44 => ⟨trivial, ?_⟩
  refine WO.fin ?_
  refine DN.seq ?_
  refine WC.seq ?_
  refine WC.seq ?_
  refine WC.rs [(0, 2), (1, 2), (2, 2)] rfl ?_
  refine WO.pn 1 rfl ?_
  refine WO.k2 rfl rfl rfl rfl (rn_len Tryd.runUnderlying57 rfl rfl) ?_
  refine WO.pn 1 rfl ?_
  refine WO.fin ?_
  refine DN.seq ?_
  have hN45 : (x33.1.length : Int) ≤ 9223372036854775807 := f37.len_le
  obtain ⟨q2, hq47, hK46⟩ := Option.bind_eq_some_iff.mp h
  clear h
  refine WC.meet (fun L w' => ∃ (κ' : Col) (s3 : (List (List Int)) × (List (List Int))) (las3_0 : Option Addr) (lus3_0 : Nat) (las3_1 : Option Addr) (lus3_1 : Nat), L = [(2, .pointer (some ⟨b2, 0, none⟩)), (4, .pointer (some ⟨b4, 0, none⟩)), (7, .bool x33.2), (8, .pointer (some ⟨b8, 0, none⟩))] ∧ Stp [9, 10, 11, 12, 13, 17, 18] K39 w42 κ' w' ∧ Oc (Ep.own (Ep.int .i64) 2) 60 κ' w' 10 las3_0 lus3_0 s3.1 ∧ Oc (Ep.own (Ep.int .i64) 2) 60 κ' w' 11 las3_1 lus3_1 s3.2 ∧ Bc κ' w' 9 b8 42 [.slice las3_0 s3.1.length lus3_0, .slice las3_1 s3.2.length lus3_1] ∧ q2 = Sum.inr s3) ?_ ?_
  ·
   refine WC.block ?_
   refine WC.loop (fun k L w' => ∃ (κ' : Col) (v39 : Int) (s1 : (List (List Int)) × (List (List Int))) (las1_0 : Option Addr) (lus1_0 : Nat) (las1_1 : Option Addr) (lus1_1 : Nat), L = [(2, .pointer (some ⟨b2, 0, none⟩)), (4, .pointer (some ⟨b4, 0, none⟩)), (7, .bool x33.2), (8, .pointer (some ⟨b8, 0, none⟩)), (37, .slice a33_0 x33.1.length u33_0), (38, .int .i64 (x33.1.length : Int)), (39, .int .i64 v39)] ∧ Stp [9, 10, 11, 12, 13, 17, 18] K39 w42 κ' w' ∧ Oc (Ep.own (Ep.int .i64) 2) 60 κ' w' 10 las1_0 lus1_0 s1.1 ∧ Oc (Ep.own (Ep.int .i64) 2) 60 κ' w' 11 las1_1 lus1_1 s1.2 ∧ Bc κ' w' 9 b8 42 [.slice las1_0 s1.1.length lus1_0, .slice las1_1 s1.2.length lus1_1] ∧ 0 ≤ v39 ∧ Int.toNat ((x33.1.length : Int) - v39) = k ∧ cntM (i_TextMachine_b0 x33) k v39 s1 = some q2) ⟨_, _, ⟨K39, 0, ((([] : List (List Int)) : (List (List Int))), (([] : List (List Int)) : (List (List Int)))), none, 0, none, 0, rfl, (Stp.refl _ _).wk rfl, Ow.nil, Ow.nil, f44, (by decide), (by simp), hq47⟩, fun a ha => (ha.more (ha.more (ha.more (ha.more (ha.more (ha.more (ha.more ha.nil rfl) rfl) rfl) rfl) rfl) rfl) rfl)⟩ ?_
   rintro k _ w54 ⟨K55, v39, s1, las1_0, lus1_0, las1_1, lus1_1, rfl, S56, f57, f58, f59, hj45, hJ45, h⟩
   rcases k with _ | k
   ·
    have hk60 := h; obtain ⟨o45, h⟩ := ex_eq (Sum.inr (Sum.inl s1) : (Machine × Bool) ⊕ (((List (List Int)) × (List (List Int))) ⊕ ((List (List Int)) × (List (List Int)))))
    have hc45 : decide (v39 < (x33.1.length : Int)) = false := decide_eq_false (by omega)
    refine WC.seq ?_
    refine WC.rs [(0, 2)] rfl ?_
    refine WO.pn 1 rfl ?_
    refine WO.fin ?_
    refine DN.seq ?_
    refine WC.seq ?_
    refine WC.cf' rfl hc45 ?_
    refine WC.exit ?_
    refine DN.exitThen ?_
    refine DN.exitThen ?_
    obtain rfl := Option.some.inj h
    have h := hk60
    refine DN.hit ?_
    obtain rfl := Option.some.inj h
    exact DN.meet _ ⟨K55, ((s1.1 : (List (List Int))), (s1.2 : (List (List Int)))), las1_0, lus1_0, las1_1, lus1_1, rfl, S56.wk rfl, f57, f58, f59, rfl⟩ fun a ha => (ha.more (ha.more (ha.more (ha.more ha.nil rfl) rfl) rfl) rfl)
   ·
    obtain ⟨o45, h, hk60⟩ := Option.bind_eq_some_iff.mp h; unfold i_TextMachine_b0 at h
    have hc45 : decide (v39 < (x33.1.length : Int)) = true := decide_eq_true (by omega)
    refine WC.seq ?_
    refine WC.rs [(0, 2)] rfl ?_
    refine WO.pn 1 rfl ?_
    refine WO.fin ?_
    refine DN.seq ?_
    refine WC.seq ?_
    refine WC.ct' rfl hc45 ?_
    refine WC.skip ?_
    refine DN.seq ?_
    refine WC.seq ?_
    refine WC.block ?_
    refine WC.seq ?_
    refine WC.rs [(0, 2), (1, 1), (2, 2)] rfl ?_
    obtain ⟨x41, hx41, h⟩ := Option.bind_eq_some_iff.mp h
    refine WO.k2 rfl rfl rfl rfl (rn_index f37 hx41 Tryd.runUnderlying57 Tryd.sizeOf9 rfl rfl rfl rfl) ?_
    have f61 := f37.stp (S40.tr (S43.tr S56)) rfl rfl
    refine WO.k1 trivial rfl rfl rfl rfl (rn_ld Tryd.isAgg9 rfl rfl (hvE (f61.gStr hx41))) ?_
    refine WO.pn 1 rfl ?_
    refine WO.fin ?_
    refine DN.seq ?_
    refine WC.seq ?_
    refine WC.rs [(0, 1), (1, 1), (2, 2), (3, 2)] rfl ?_
    refine WO.bl0 (κ := K55) (E := (Ep.int .i64)) 12 rfl rfl rfl rfl rfl Tryd.underlying60 Trydinfo2 rfl fun a43 u43 w62 K63 S64 f65 => ⟨trivial, ?_⟩
    refine WO.bl0 (κ := K63) (E := (Ep.int .i64)) 13 rfl rfl rfl rfl rfl Tryd.underlying60 Trydinfo2 rfl fun a44 u44 w66 K67 S68 f69 => ⟨trivial, ?_⟩
    refine WO.pn 2 rfl ?_
    refine WO.fin ?_
    refine DN.seq ?_
    refine WC.seq ?_
    refine WC.seq ?_
    refine WC.rs [(0, 2), (1, 1), (2, 2), (3, 2)] rfl ?_
    refine WO.pn 1 rfl ?_
    obtain ⟨x46, hx46, h⟩ := Option.bind_eq_some_iff.mp h
    have f70 := f28.stp (S34.tr (S40.tr (S43.tr (S56.tr (S64.tr S68))))) rfl rfl
    refine WO.call rfl rfl rfl rfl rfl rfl Tryd.call40 (strings_Split_ok (κ := fun b => mp [] 0 (K67 b)) (f70.map (mp [] 0) rfl rfl) hx46) ?_
    rintro _ w71 ⟨k72, a46_0, u46_0, rfl, e73, f74⟩
    obtain ⟨K75, S76, m77⟩ := Ent.mixed (l := []) (κ := K67) e73 14 rfl
    refine ⟨trivial, ?_⟩
    have f79 := f74.mx no_str m77 rfl (rfl : 14 + 2 = 16)
    refine WO.k2 rfl rfl rfl rfl (rn_len Tryd.runUnderlying57 rfl rfl) ?_
    refine WO.pn 1 rfl ?_
    refine WO.fin ?_
    refine DN.seq ?_
    have hN80 : (x46.length : Int) ≤ 9223372036854775807 := f79.len_le
    obtain ⟨q5, hq82, hK81⟩ := Option.bind_eq_some_iff.mp h
    clear h
    refine WC.meet (fun L w' => ∃ (κ' : Col) (s6 : (List Int) × (List Int)) (las6_0 : Option Addr) (lus6_0 : Nat) (las6_1 : Option Addr) (lus6_1 : Nat), L = [(2, .pointer (some ⟨b2, 0, none⟩)), (4, .pointer (some ⟨b4, 0, none⟩)), (7, .bool x33.2), (8, .pointer (some ⟨b8, 0, none⟩)), (11, .slice las6_0 s6.1.length lus6_0), (12, .slice las6_1 s6.2.length lus6_1), (37, .slice a33_0 x33.1.length u33_0), (38, .int .i64 (x33.1.length : Int)), (39, .int .i64 v39)] ∧ Stp [12, 13] K75 w71 κ' w' ∧ Oc (Ep.int .i64) 2 κ' w' 12 las6_0 lus6_0 s6.1 ∧ Oc (Ep.int .i64) 2 κ' w' 13 las6_1 lus6_1 s6.2 ∧ q5 = Sum.inr s6) ?_ ?_
    ·
     refine WC.block ?_
     have f93 := f65.stp (S68.tr S76) rfl rfl
     have f94 := f69.stp S76 rfl rfl
     refine WC.loop (fun k L w' => ∃ (κ' : Col) (v48 : Int) (s4 : (List Int) × (List Int)) (las4_0 : Option Addr) (lus4_0 : Nat) (las4_1 : Option Addr) (lus4_1 : Nat), L = [(2, .pointer (some ⟨b2, 0, none⟩)), (4, .pointer (some ⟨b4, 0, none⟩)), (7, .bool x33.2), (8, .pointer (some ⟨b8, 0, none⟩)), (11, .slice las4_0 s4.1.length lus4_0), (12, .slice las4_1 s4.2.length lus4_1), (37, .slice a33_0 x33.1.length u33_0), (38, .int .i64 (x33.1.length : Int)), (39, .int .i64 v39), (46, .slice a46_0 x46.length u46_0), (47, .int .i64 (x46.length : Int)), (48, .int .i64 v48)] ∧ Stp [12, 13] K75 w71 κ' w' ∧ Oc (Ep.int .i64) 2 κ' w' 12 las4_0 lus4_0 s4.1 ∧ Oc (Ep.int .i64) 2 κ' w' 13 las4_1 lus4_1 s4.2 ∧ 0 ≤ v48 ∧ Int.toNat ((x46.length : Int) - v48) = k ∧ cntM (i_TextMachine_b2 x46) k v48 s4 = some q5) ⟨_, _, ⟨K75, 0, ((([] : List Int) : (List Int)), (([] : List Int) : (List Int))), a43, u43, a44, u44, rfl, (Stp.refl _ _).wk rfl, f93, f94, (by decide), (by simp), hq82⟩, fun a ha => (ha.more (ha.more (ha.more (ha.more (ha.more (ha.more (ha.more (ha.more (ha.more (ha.more (ha.more (ha.more ha.nil rfl) rfl) rfl) rfl) rfl) rfl) rfl) rfl) rfl) rfl) rfl) rfl)⟩ ?_
     rintro k _ w88 ⟨K89, v48, s4, las4_0, lus4_0, las4_1, lus4_1, rfl, S90, f91, f92, hj80, hJ80, h⟩
     rcases k with _ | k
     ·
      have hk95 := h; obtain ⟨o80, h⟩ := ex_eq (Sum.inr (Sum.inl s4) : (Machine × Bool) ⊕ (((List Int) × (List Int)) ⊕ ((List Int) × (List Int))))
      have hc80 : decide (v48 < (x46.length : Int)) = false := decide_eq_false (by omega)
      refine WC.seq ?_
      refine WC.rs [(0, 2)] rfl ?_
      refine WO.pn 1 rfl ?_
      refine WO.fin ?_
      refine DN.seq ?_
      refine WC.seq ?_
      refine WC.cf' rfl hc80 ?_
      refine WC.exit ?_
      refine DN.exitThen ?_
      refine DN.exitThen ?_
      obtain rfl := Option.some.inj h
      have h := hk95
      refine DN.hit ?_
      obtain rfl := Option.some.inj h
      exact DN.meet _ ⟨K89, ((s4.1 : (List Int)), (s4.2 : (List Int))), las4_0, lus4_0, las4_1, lus4_1, rfl, S90.wk rfl, f91, f92, rfl⟩ fun a ha => (ha.more (ha.more (ha.more (ha.more (ha.more (ha.more (ha.more (ha.more (ha.more ha.nil rfl) rfl) rfl) rfl) rfl) rfl) rfl) rfl) rfl)
     ·
      obtain ⟨o80, h, hk95⟩ := Option.bind_eq_some_iff.mp h; unfold i_TextMachine_b2 at h
      have hc80 : decide (v48 < (x46.length : Int)) = true := decide_eq_true (by omega)
      refine WC.seq ?_
      refine WC.rs [(0, 2)] rfl ?_
      refine WO.pn 1 rfl ?_
      refine WO.fin ?_
      refine DN.seq ?_
      refine WC.seq ?_
      refine WC.ct' rfl hc80 ?_
      refine WC.skip ?_
      refine DN.seq ?_
      refine WC.seq ?_
      refine WC.block ?_
      refine WC.seq ?_
      refine WC.rs [(0, 2), (1, 1), (2, 2)] rfl ?_
      obtain ⟨x50, hx50, h⟩ := Option.bind_eq_some_iff.mp h
      refine WO.k2 rfl rfl rfl rfl (rn_index f79.rdc hx50 Tryd.runUnderlying57 Tryd.sizeOf9 rfl rfl rfl rfl) ?_
      have f96 := f79.stp S90 rfl rfl
      refine WO.k1 trivial rfl rfl rfl rfl (rn_ld Tryd.isAgg9 rfl rfl (hvE (f96.rdc.gStr hx50))) ?_
      refine WO.pn 1 rfl ?_
      refine WO.fin ?_
      refine DN.seq ?_
      refine WC.seq ?_
      refine WC.rs [(0, 2), (1, 1), (2, 2), (3, 2), (4, 2), (5, 2), (6, 2), (7, 2), (8, 2)] rfl ?_
      refine WO.pn 1 rfl ?_
      obtain ⟨x54, hx54, h⟩ := Option.bind_eq_some_iff.mp h
      have f97 := f70.stp (S76.tr S90) rfl rfl
      refine WO.call rfl rfl rfl rfl rfl rfl Tryd.call56 (strings_Cut_ok (κ := fun b => mp [] 0 (K89 b)) (f97.map (mp [] 0) rfl rfl) hx54) ?_
      rintro _ w98 ⟨k99, rfl, e100⟩
      obtain ⟨K101, S102, m103⟩ := Ent.mixed (l := []) (κ := K89) e100 17 rfl
      refine ⟨trivial, ?_⟩
      refine WO.pn 7 rfl ?_
      refine WO.fin ?_
      refine DN.seq ?_
      refine WC.seq ?_
      refine WC.rs [(0, 2), (1, 1), (2, 2), (3, 2), (4, 2), (5, 2), (6, 2)] rfl ?_
      refine WO.pn 1 rfl ?_
      obtain ⟨x60, hx60, h⟩ := Option.bind_eq_some_iff.mp h
      refine WO.call rfl rfl rfl rfl rfl rfl Tryd.call42 (i_readNumber_ok (κ := fun b => mp [] 0 (K101 b)) hx60) ?_
      rintro _ w105 ⟨k106, rfl, e107⟩
      obtain ⟨K108, S109, m110⟩ := Ent.mixed (l := []) (κ := K101) e107 19 rfl
      refine ⟨trivial, ?_⟩
      refine WO.pn 5 rfl ?_
      refine WO.fin ?_
      refine DN.seq ?_
      refine WC.seq ?_
      refine WC.rs [(0, 2), (1, 1), (2, 2), (3, 2), (4, 2), (5, 2), (6, 2)] rfl ?_
      refine WO.pn 1 rfl ?_
      obtain ⟨x65, hx65, h⟩ := Option.bind_eq_some_iff.mp h
      refine WO.call rfl rfl rfl rfl rfl rfl Tryd.call42 (i_readNumber_ok (κ := fun b => mp [] 0 (K108 b)) hx65) ?_
      rintro _ w112 ⟨k113, rfl, e114⟩
      obtain ⟨K115, S116, m117⟩ := Ent.mixed (l := []) (κ := K108) e114 21 rfl
      refine ⟨trivial, ?_⟩
      refine WO.pn 5 rfl ?_
      refine WO.fin ?_
      refine DN.seq ?_
      refine WC.seq ?_
      refine WC.seq ?_
      refine WC.rs [(0, 2), (1, 2), (2, 2), (3, 2), (4, 2), (5, 2), (6, 2), (7, 2), (8, 2), (9, 2)] rfl ?_
      refine WO.pn 3 rfl ?_
      obtain ⟨p73, h, hK119⟩ := Option.bind_eq_some_iff.mp h
      refine WO.meet [(3, 2), (4, 2), (5, 2)] [(6, 2), (7, 2), (8, 2), (9, 2)] (fun L w' => L = [(2, .pointer (some ⟨b2, 0, none⟩)), (4, .pointer (some ⟨b4, 0, none⟩)), (7, .bool x33.2), (8, .pointer (some ⟨b8, 0, none⟩)), (11, .slice las4_0 s4.1.length lus4_0), (12, .slice las4_1 s4.2.length lus4_1), (18, .int .i64 x60.1), (20, .int .i64 x65.1), (21, .bool x65.2), (37, .slice a33_0 x33.1.length u33_0), (38, .int .i64 (x33.1.length : Int)), (39, .int .i64 v39), (46, .slice a46_0 x46.length u46_0), (47, .int .i64 (x46.length : Int)), (48, .int .i64 v48), (73, .bool p73)] ∧ ∃ κ', Stp [] K115 w112 κ' w') trivial ?_ ?_
      ·
       revert h
       cases ht120 : (!x54.2.2) with
       | true =>
        intro h; replace h := cT h
        refine WO.pn 3 rfl ?_
        obtain rfl := Option.some.inj h
        exact WO.met _ trivial ⟨rfl, _, (Stp.refl _ _).wk rfl⟩ fun a ha => (ha.more (ha.more (ha.more (ha.more (ha.more (ha.more (ha.more (ha.more (ha.more (ha.more (ha.more (ha.more (ha.more (ha.more (ha.more (ha.more ha.nil rfl) rfl) rfl) rfl) rfl) rfl) rfl) rfl) rfl) rfl) rfl) rfl) rfl) rfl) rfl) rfl)
       | false =>
        intro h; replace h := cF h
        refine WO.pn 3 rfl ?_
        obtain rfl := Option.some.inj h
        exact WO.met _ trivial ⟨rfl, _, (Stp.refl _ _).wk rfl⟩ fun a ha => (ha.more (ha.more (ha.more (ha.more (ha.more (ha.more (ha.more (ha.more (ha.more (ha.more (ha.more (ha.more (ha.more (ha.more (ha.more (ha.more ha.nil rfl) rfl) rfl) rfl) rfl) rfl) rfl) rfl) rfl) rfl) rfl) rfl) rfl) rfl) rfl) rfl)
      rintro _ w121 _ ⟨rfl, K122, S123⟩
      have h := hK119
      refine WO.pn 1 rfl ?_
      obtain ⟨p77, h, hK124⟩ := Option.bind_eq_some_iff.mp h
      refine WO.meet [(7, 2), (8, 2), (9, 2)] [] (fun L w' => L = [(2, .pointer (some ⟨b2, 0, none⟩)), (4, .pointer (some ⟨b4, 0, none⟩)), (7, .bool x33.2), (8, .pointer (some ⟨b8, 0, none⟩)), (11, .slice las4_0 s4.1.length lus4_0), (12, .slice las4_1 s4.2.length lus4_1), (18, .int .i64 x60.1), (20, .int .i64 x65.1), (37, .slice a33_0 x33.1.length u33_0), (38, .int .i64 (x33.1.length : Int)), (39, .int .i64 v39), (46, .slice a46_0 x46.length u46_0), (47, .int .i64 (x46.length : Int)), (48, .int .i64 v48), (77, .bool p77)] ∧ ∃ κ', Stp [] K122 w121 κ' w') trivial ?_ ?_
      ·
       revert h
       cases ht125 : p73 with
       | true =>
        intro h; replace h := cT h
        refine WO.pn 3 rfl ?_
        obtain rfl := Option.some.inj h
        exact WO.met _ trivial ⟨rfl, _, (Stp.refl _ _).wk rfl⟩ fun a ha => (ha.more (ha.more (ha.more (ha.more (ha.more (ha.more (ha.more (ha.more (ha.more (ha.more (ha.more (ha.more (ha.more (ha.more (ha.more ha.nil rfl) rfl) rfl) rfl) rfl) rfl) rfl) rfl) rfl) rfl) rfl) rfl) rfl) rfl) rfl)
       | false =>
        intro h; replace h := cF h
        refine WO.pn 3 rfl ?_
        obtain rfl := Option.some.inj h
        exact WO.met _ trivial ⟨rfl, _, (Stp.refl _ _).wk rfl⟩ fun a ha => (ha.more (ha.more (ha.more (ha.more (ha.more (ha.more (ha.more (ha.more (ha.more (ha.more (ha.more (ha.more (ha.more (ha.more (ha.more ha.nil rfl) rfl) rfl) rfl) rfl) rfl) rfl) rfl) rfl) rfl) rfl) rfl) rfl) rfl) rfl)
      rintro _ w126 _ ⟨rfl, K127, S128⟩
      have h := hK124
      refine WO.fin ?_
      refine DN.seq ?_
      revert h
      cases ht129 : p77 with
      | true =>
       intro h; replace h := cT h
       refine WC.ct rfl ?_
       refine WC.seq ?_
       refine WC.rs [(0, 2), (1, 1), (2, 2)] rfl ?_
       refine WO.k2 rfl rfl rfl rfl (rn_build (parts := []) (cells := [.slice none 0 0, .slice none 0 0]) rfl rfl (by kernel_rfl)) ?_
       have f130 := f8.stp (S14.tr (S21.tr (S34.tr (S40.tr (S43.tr (S56.tr (S64.tr (S68.tr (S76.tr (S90.tr (S102.tr (S109.tr (S116.tr (S123.tr S128)))))))))))))) rfl rfl
       refine WO.stB0 (κ := K127) 3 (vc := [.slice none 0 0, .slice none 0 0]) rfl rfl rfl rfl rfl rfl rfl Tryd.sizeOf42 rfl rfl f130 rfl fun w131 S132 f133 => ⟨trivial, ?_⟩
       refine WO.pn 1 rfl ?_
       refine WO.fin ?_
       refine DN.seq ?_
       refine WC.ret ?_
       refine DN.retThen ?_
       refine DN.retBlock ?_
       refine DN.retThen ?_
       refine DN.retThen ?_
       obtain rfl := Option.some.inj h
       obtain rfl := Option.some.inj hk95
       have h := hK81
       dsimp only [aft] at h
       refine DN.retBlock ?_
       refine DN.retMeet ?_
       refine DN.retThen ?_
       refine DN.retBlock ?_
       refine DN.retThen ?_
       refine DN.retThen ?_
       obtain rfl := Option.some.inj h
       obtain rfl := Option.some.inj hk60
       have h := hK46
       dsimp only [aft] at h
       refine DN.retBlock ?_
       refine DN.retMeet ?_
       refine DN.retThen ?_
       have f134 := hE.stp (S3.tr (S7.tr (S14.tr (S21.tr (S34.tr (S40.tr (S43.tr (S56.tr (S64.tr (S68.tr (S76.tr (S90.tr (S102.tr (S109.tr (S116.tr (S123.tr (S128.tr S132))))))))))))))))) rfl rfl
       refine DN.res (l := [.cell 4 42, .tmp 5]) Tryd.results24 (res_cellA rfl f133 Tryd.isAgg42 Tryd.sizeOf42 rfl (res_tmp rfl rfl)) rfl ?_
       obtain rfl := Option.some.inj h
       exact ⟨K127, none, 0, none, 0, rfl, f134, Ow.nil, Ow.nil⟩
      | false =>
       intro h; replace h := cF h
       refine WC.cf rfl ?_
       refine WC.skip ?_
       refine DN.seq ?_
       refine WC.rs [(0, 2), (1, 2), (2, 1), (3, 1), (4, 2), (5, 2), (6, 1), (7, 1), (8, 2), (9, 2)] rfl ?_
       refine WO.pn 2 rfl ?_
       refine WO.bl (κ := K127) (E := (Ep.int .i64)) 23 [] (parts := [(0, .tmp 80)]) (cells := [.int .i64 x60.1]) (xs := ([x60.1] : List Int)) rfl rfl rfl rfl rfl rfl Tryd.underlying60 Trydinfo2 rfl rfl rfl rfl rfl rfl rfl rfl rfl rfl ⟨[.int .i64 x60.1], [], Zl K127 w126 [], Zl K127 w126 [], rfl, Zl.sp (l1 := []) (l2 := []) rfl, Zl.sr (l1 := []) (l2 := []), rfl, rfl⟩ fun a81 u81 w135 K136 S137 f138 => ⟨trivial, ?_⟩
       obtain ⟨x82, hx82, h⟩ := Option.bind_eq_some_iff.mp h
       have f139 := f91.stp (S102.tr (S109.tr (S116.tr (S123.tr (S128.tr S137))))) rfl rfl
       refine WO.app (κ := K136) (E := (Ep.int .i64)) 12 [] rfl rfl rfl rfl rfl rfl rfl rfl rfl Tryd.underlying60 Trydinfo2 rfl rfl rfl rfl f139 (Sl.srcP (pu_int _) f138.rdc) sy_false hx82 rfl fun a82 u82 w140 K141 S142 f143 => ⟨trivial, ?_⟩
       refine WO.pn 2 rfl ?_
       refine WO.bl (κ := K141) (E := (Ep.int .i64)) 24 [] (parts := [(0, .tmp 84)]) (cells := [.int .i64 x65.1]) (xs := ([x65.1] : List Int)) rfl rfl rfl rfl rfl rfl Tryd.underlying60 Trydinfo2 rfl rfl rfl rfl rfl rfl rfl rfl rfl rfl ⟨[.int .i64 x65.1], [], Zl K141 w140 [], Zl K141 w140 [], rfl, Zl.sp (l1 := []) (l2 := []) rfl, Zl.sr (l1 := []) (l2 := []), rfl, rfl⟩ fun a85 u85 w144 K145 S146 f147 => ⟨trivial, ?_⟩
       obtain ⟨x86, hx86, h⟩ := Option.bind_eq_some_iff.mp h
       have f148 := f92.stp (S102.tr (S109.tr (S116.tr (S123.tr (S128.tr (S137.tr (S142.tr S146))))))) rfl rfl
       refine WO.app (κ := K145) (E := (Ep.int .i64)) 13 [] rfl rfl rfl rfl rfl rfl rfl rfl rfl Tryd.underlying60 Trydinfo2 rfl rfl rfl rfl f148 (Sl.srcP (pu_int _) f147.rdc) sy_false hx86 rfl fun a86 u86 w149 K150 S151 f152 => ⟨trivial, ?_⟩
       refine WO.pn 2 rfl ?_
       refine WO.fin ?_
       refine DN.block ?_
       refine DN.seq ?_
       refine WC.rs [(0, 2), (1, 2)] rfl ?_
       refine WO.pn 2 rfl ?_
       refine WO.fin ?_
       have hw80 : IntKind.wrap .i64 (v48 + 1) = v48 + 1 := wr1 hj80 (of_decide_eq_true hc80) hN80
       rw [hw80]
       have hc80 := of_decide_eq_true hc80
       have f153 := f143.stp (S146.tr S151) rfl rfl
       obtain rfl := Option.some.inj h
       refine DN.round fun a ha => ?_
       exact ⟨k, _, Nat.lt_succ_self _, ⟨K150, v48 + 1, ((x82 : (List Int)), (x86 : (List Int))), a82, u82, a86, u86, rfl, (S90.tr (S102.tr (S109.tr (S116.tr (S123.tr (S128.tr (S137.tr (S142.tr (S146.tr S151))))))))).wk rfl, f153, f152, by omega, by omega, hk95⟩, (ha.more (ha.more (ha.more (ha.more (ha.more (ha.more (ha.more (ha.more (ha.more (ha.more (ha.more (ha.more ha.nil rfl) rfl) rfl) rfl) rfl) rfl) rfl) rfl) rfl) rfl) rfl) rfl)⟩
    rintro _ w83 ⟨K84, s6, las6_0, lus6_0, las6_1, lus6_1, rfl, S85, f86, f87, rfl⟩
    have h := hK81
    dsimp only [aft] at h
    refine DN.seq ?_
    obtain ⟨x92, hx92, h⟩ := Option.bind_eq_some_iff.mp h
    obtain ⟨x97, hx97, h⟩ := Option.bind_eq_some_iff.mp h
    refine WC.meet (fun L w' => ∃ (κ' : Col) (lar157_0 : Option Addr) (lur157_0 : Nat) (lar157_1 : Option Addr) (lur157_1 : Nat), L = [(2, .pointer (some ⟨b2, 0, none⟩)), (4, .pointer (some ⟨b4, 0, none⟩)), (7, .bool x33.2), (8, .pointer (some ⟨b8, 0, none⟩)), (37, .slice a33_0 x33.1.length u33_0), (38, .int .i64 (x33.1.length : Int)), (39, .int .i64 v39)] ∧ Stp [9, 10, 11, 12, 13, 17, 18] K84 w83 κ' w' ∧ Oc (Ep.own (Ep.int .i64) 2) 60 κ' w' 17 lar157_0 lur157_0 x92 ∧ Oc (Ep.own (Ep.int .i64) 2) 60 κ' w' 18 lar157_1 lur157_1 x97 ∧ Bc κ' w' 9 b8 42 [.slice lar157_0 x92.length lur157_0, .slice lar157_1 x97.length lur157_1]) ?_ ?_
    ·
     refine WC.rxt (κ := K84) [9] (some 11) (by kernel_rfl) fun w161 S162 => ?_
     refine WA.seg (fuel := 8) [(0, 2), (2, 2), (5, 2), (7, 2), (1, 0), (6, 0)] (by kernel_rfl) (by kernel_rfl) rfl ?_
     refine WO.k2 rfl rfl rfl rfl (rn_fieldAddr Tryd.runUnderlying42 rfl Tryd.sizeOf35 rfl rfl) ?_
     refine WO.pn 1 rfl ?_
     refine WO.k2 rfl rfl rfl rfl (rn_fieldAddr Tryd.runUnderlying42 rfl Tryd.sizeOf35 rfl rfl) ?_
     refine WO.pn 1 rfl ?_
     have f163 := f59.stp (S64.tr (S68.tr (S76.tr (S85.tr S162)))) rfl rfl
     refine WO.k0 rfl rfl rfl rfl (rn_ld Tryd.isAgg35 rfl rfl (hvC (f163.ld 0 rfl rfl) rfl)) ?_
     refine WO.k0 rfl rfl rfl rfl (rn_ld Tryd.isAgg35 rfl rfl (hvC (f163.ld 1 rfl rfl) rfl)) ?_
     refine WO.wa ?_
     refine WA.fork2 (fuel := 7) 3 8 (by kernel_rfl) rfl ?_ ?_
     ·
      have f164 := f86.stp S162 rfl rfl
      refine WO.bl (κ := K84) (E := (Ep.own (Ep.int .i64) 2)) 17 [12] (parts := [(0, .tmp 90)]) (cells := [.slice las6_0 s6.1.length lus6_0]) (xs := ([s6.1] : List (List Int))) rfl rfl rfl rfl rfl rfl Tryd.underlying35 Trydinfo60 rfl rfl rfl rfl rfl rfl rfl rfl rfl rfl ⟨[.slice las6_0 s6.1.length lus6_0], [], Zl K84 w161 [12], Zl K84 w161 [], rfl, Zl.sp (l1 := [12]) (l2 := []) rfl, Zl.sr (l1 := [12]) (l2 := []), ⟨_, _, rfl, f164⟩, rfl⟩ fun a91 u91 w165 K166 S167 f168 => ⟨(S167.cl rfl), ?_⟩
      refine WO.wa ?_
      refine WA.fork2 (fuel := 6) 4 8 (by kernel_rfl) rfl ?_ ?_
      ·
       have f169 := f57.stp (S64.tr (S68.tr (S76.tr (S85.tr (S162.tr S167))))) rfl rfl
       refine WO.app (κ := K166) (E := (Ep.own (Ep.int .i64) 2)) 10 [17] rfl rfl rfl rfl rfl rfl rfl rfl rfl Tryd.underlying35 Trydinfo60 rfl rfl rfl rfl f169 f168.src (sy_one rfl) hx92 rfl fun a92 u92 w170 K171 S172 f173 => ⟨((S167.tr S172).cl rfl), ?_⟩
       refine WO.wa ?_
       refine WA.seg (fuel := 3) [(10, 2), (8, 1), (9, 1)] (by kernel_rfl) (by kernel_rfl) rfl ?_
       refine WO.k2 rfl rfl rfl rfl (rn_fieldAddr Tryd.runUnderlying42 rfl Tryd.sizeOf35 rfl rfl) ?_
       have f174 := f87.stp (S162.tr (S167.tr S172)) rfl rfl
       refine WO.bl (κ := K171) (E := (Ep.own (Ep.int .i64) 2)) 18 [13] (parts := [(0, .tmp 95)]) (cells := [.slice las6_1 s6.2.length lus6_1]) (xs := ([s6.2] : List (List Int))) rfl rfl rfl rfl rfl rfl Tryd.underlying35 Trydinfo60 rfl rfl rfl rfl rfl rfl rfl rfl rfl rfl ⟨[.slice las6_1 s6.2.length lus6_1], [], Zl K171 w170 [13], Zl K171 w170 [], rfl, Zl.sp (l1 := [13]) (l2 := []) rfl, Zl.sr (l1 := [13]) (l2 := []), ⟨_, _, rfl, f174⟩, rfl⟩ fun a96 u96 w175 K176 S177 f178 => ⟨((S167.tr (S172.tr S177)).cl rfl), ?_⟩
       have f179 := f58.stp (S64.tr (S68.tr (S76.tr (S85.tr (S162.tr (S167.tr (S172.tr S177))))))) rfl rfl
       refine WO.app (κ := K176) (E := (Ep.own (Ep.int .i64) 2)) 11 [18] rfl rfl rfl rfl rfl rfl rfl rfl rfl Tryd.underlying35 Trydinfo60 rfl rfl rfl rfl f179 f178.src (sy_one rfl) hx97 rfl fun a97 u97 w180 K181 S182 f183 => ⟨((S167.tr (S172.tr (S177.tr S182))).cl rfl), ?_⟩
       refine WO.wa ?_
       refine WA.brk (fuel := 2) 11 (by kernel_rfl) rfl (by kernel_rfl) ?_
       have f184 := f163.stp (S167.tr (S172.tr (S177.tr S182))) rfl rfl
       refine WO.stB (κ := K181) 9 (off := 0) (vc := [.slice a92 x92.length u92]) (cs' := [.slice a92 x92.length u92, .slice las1_1 s1.2.length lus1_1]) rfl rfl rfl rfl rfl rfl rfl Tryd.sizeOf35 rfl rfl f184 rfl rfl fun w185 S186 f187 => ⟨trivial, ?_⟩
       refine WO.wa ?_
       refine WA.seg (fuel := 0) [(12, 2), (13, 1)] (by kernel_rfl) (by kernel_rfl) rfl ?_
       refine WO.k2 rfl rfl rfl rfl (rn_fieldAddr Tryd.runUnderlying42 rfl Tryd.sizeOf35 rfl rfl) ?_
       refine WO.stB (κ := K181) 9 (off := 1) (vc := [.slice a97 x97.length u97]) (cs' := [.slice a92 x92.length u92, .slice a97 x97.length u97]) rfl rfl rfl rfl rfl rfl rfl Tryd.sizeOf35 rfl rfl f187 rfl rfl fun w188 S189 f190 => ⟨trivial, ?_⟩
       refine WO.wa ?_
       refine WA.last [] (by kernel_rfl) (by kernel_rfl) rfl ?_
       refine WO.fin ?_
       have f191 := f173.stp (S177.tr (S182.tr (S186.tr S189))) rfl rfl
       have f192 := f183.stp (S186.tr S189) rfl rfl
       exact DN.meet _ ⟨(fun b => ren [(10, 17), (11, 18)] (K181 b)), a92, u92, a97, u97, rfl, (Stp.ren ((S162.tr (S167.tr (S172.tr (S177.tr (S182.tr (S186.tr S189)))))).wk rfl) [(10, 17), (11, 18)] rfl), (f191.map (ren [(10, 17), (11, 18)]) rfl rfl), (f192.map (ren [(10, 17), (11, 18)]) rfl rfl), (f190.map (ren [(10, 17), (11, 18)]) rfl rfl)⟩ fun a ha => (ha.more (ha.more (ha.more (ha.more (ha.more (ha.more (ha.more ha.nil rfl) rfl) rfl) rfl) rfl) rfl) rfl)
      ·
       have f193 := f87.stp (S162.tr S167) rfl rfl
       refine WO.bl (κ := K166) (E := (Ep.own (Ep.int .i64) 2)) 18 [13] (parts := [(0, .tmp 95)]) (cells := [.slice las6_1 s6.2.length lus6_1]) (xs := ([s6.2] : List (List Int))) rfl rfl rfl rfl rfl rfl Tryd.underlying35 Trydinfo60 rfl rfl rfl rfl rfl rfl rfl rfl rfl rfl ⟨[.slice las6_1 s6.2.length lus6_1], [], Zl K166 w165 [13], Zl K166 w165 [], rfl, Zl.sp (l1 := [13]) (l2 := []) rfl, Zl.sr (l1 := [13]) (l2 := []), ⟨_, _, rfl, f193⟩, rfl⟩ fun a96 u96 w194 K195 S196 f197 => ⟨((S167.tr S196).cl rfl), ?_⟩
       refine WO.wa ?_
       refine WA.seg (fuel := 3) [(4, 1), (10, 2), (9, 1)] (by kernel_rfl) (by kernel_rfl) rfl ?_
       have f198 := f168.stp S196 rfl rfl
       have f199 := f57.stp (S64.tr (S68.tr (S76.tr (S85.tr (S162.tr (S167.tr S196)))))) rfl rfl
       refine WO.app (κ := K195) (E := (Ep.own (Ep.int .i64) 2)) 10 [17] rfl rfl rfl rfl rfl rfl rfl rfl rfl Tryd.underlying35 Trydinfo60 rfl rfl rfl rfl f199 f198.src (sy_one rfl) hx92 rfl fun a92 u92 w200 K201 S202 f203 => ⟨((S167.tr (S196.tr S202)).cl rfl), ?_⟩
       refine WO.k2 rfl rfl rfl rfl (rn_fieldAddr Tryd.runUnderlying42 rfl Tryd.sizeOf35 rfl rfl) ?_
       have f204 := f197.stp S202 rfl rfl
       have f205 := f58.stp (S64.tr (S68.tr (S76.tr (S85.tr (S162.tr (S167.tr (S196.tr S202))))))) rfl rfl
       refine WO.app (κ := K201) (E := (Ep.own (Ep.int .i64) 2)) 11 [18] rfl rfl rfl rfl rfl rfl rfl rfl rfl Tryd.underlying35 Trydinfo60 rfl rfl rfl rfl f205 f204.src (sy_one rfl) hx97 rfl fun a97 u97 w206 K207 S208 f209 => ⟨((S167.tr (S196.tr (S202.tr S208))).cl rfl), ?_⟩
       refine WO.wa ?_
       refine WA.brk (fuel := 2) 11 (by kernel_rfl) rfl (by kernel_rfl) ?_
       have f210 := f163.stp (S167.tr (S196.tr (S202.tr S208))) rfl rfl
       refine WO.stB (κ := K207) 9 (off := 0) (vc := [.slice a92 x92.length u92]) (cs' := [.slice a92 x92.length u92, .slice las1_1 s1.2.length lus1_1]) rfl rfl rfl rfl rfl rfl rfl Tryd.sizeOf35 rfl rfl f210 rfl rfl fun w211 S212 f213 => ⟨trivial, ?_⟩
       refine WO.wa ?_
       refine WA.seg (fuel := 0) [(12, 2), (13, 1)] (by kernel_rfl) (by kernel_rfl) rfl ?_
       refine WO.k2 rfl rfl rfl rfl (rn_fieldAddr Tryd.runUnderlying42 rfl Tryd.sizeOf35 rfl rfl) ?_
       refine WO.stB (κ := K207) 9 (off := 1) (vc := [.slice a97 x97.length u97]) (cs' := [.slice a92 x92.length u92, .slice a97 x97.length u97]) rfl rfl rfl rfl rfl rfl rfl Tryd.sizeOf35 rfl rfl f213 rfl rfl fun w214 S215 f216 => ⟨trivial, ?_⟩
       refine WO.wa ?_
       refine WA.last [] (by kernel_rfl) (by kernel_rfl) rfl ?_
       refine WO.fin ?_
       have f217 := f203.stp (S208.tr (S212.tr S215)) rfl rfl
       have f218 := f209.stp (S212.tr S215) rfl rfl
       exact DN.meet _ ⟨(fun b => ren [(10, 17), (11, 18)] (K207 b)), a92, u92, a97, u97, rfl, (Stp.ren ((S162.tr (S167.tr (S196.tr (S202.tr (S208.tr (S212.tr S215)))))).wk rfl) [(10, 17), (11, 18)] rfl), (f217.map (ren [(10, 17), (11, 18)]) rfl rfl), (f218.map (ren [(10, 17), (11, 18)]) rfl rfl), (f216.map (ren [(10, 17), (11, 18)]) rfl rfl)⟩ fun a ha => (ha.more (ha.more (ha.more (ha.more (ha.more (ha.more (ha.more ha.nil rfl) rfl) rfl) rfl) rfl) rfl) rfl)
     ·
      have f219 := f87.stp S162 rfl rfl
      refine WO.bl (κ := K84) (E := (Ep.own (Ep.int .i64) 2)) 17 [13] (parts := [(0, .tmp 95)]) (cells := [.slice las6_1 s6.2.length lus6_1]) (xs := ([s6.2] : List (List Int))) rfl rfl rfl rfl rfl rfl Tryd.underlying35 Trydinfo60 rfl rfl rfl rfl rfl rfl rfl rfl rfl rfl ⟨[.slice las6_1 s6.2.length lus6_1], [], Zl K84 w161 [13], Zl K84 w161 [], rfl, Zl.sp (l1 := [13]) (l2 := []) rfl, Zl.sr (l1 := [13]) (l2 := []), ⟨_, _, rfl, f219⟩, rfl⟩ fun a96 u96 w220 K221 S222 f223 => ⟨(S222.cl rfl), ?_⟩
      refine WO.wa ?_
      refine WA.seg (fuel := 3) [(3, 1), (4, 1), (10, 2), (9, 1)] (by kernel_rfl) (by kernel_rfl) rfl ?_
      have f224 := f86.stp (S162.tr S222) rfl rfl
      refine WO.bl (κ := K221) (E := (Ep.own (Ep.int .i64) 2)) 18 [12] (parts := [(0, .tmp 90)]) (cells := [.slice las6_0 s6.1.length lus6_0]) (xs := ([s6.1] : List (List Int))) rfl rfl rfl rfl rfl rfl Tryd.underlying35 Trydinfo60 rfl rfl rfl rfl rfl rfl rfl rfl rfl rfl ⟨[.slice las6_0 s6.1.length lus6_0], [], Zl K221 w220 [12], Zl K221 w220 [], rfl, Zl.sp (l1 := [12]) (l2 := []) rfl, Zl.sr (l1 := [12]) (l2 := []), ⟨_, _, rfl, f224⟩, rfl⟩ fun a91 u91 w225 K226 S227 f228 => ⟨((S222.tr S227).cl rfl), ?_⟩
      have f229 := f57.stp (S64.tr (S68.tr (S76.tr (S85.tr (S162.tr (S222.tr S227)))))) rfl rfl
      refine WO.app (κ := K226) (E := (Ep.own (Ep.int .i64) 2)) 10 [18] rfl rfl rfl rfl rfl rfl rfl rfl rfl Tryd.underlying35 Trydinfo60 rfl rfl rfl rfl f229 f228.src (sy_one rfl) hx92 rfl fun a92 u92 w230 K231 S232 f233 => ⟨((S222.tr (S227.tr S232)).cl rfl), ?_⟩
      refine WO.k2 rfl rfl rfl rfl (rn_fieldAddr Tryd.runUnderlying42 rfl Tryd.sizeOf35 rfl rfl) ?_
      have f234 := f223.stp (S227.tr S232) rfl rfl
      have f235 := f58.stp (S64.tr (S68.tr (S76.tr (S85.tr (S162.tr (S222.tr (S227.tr S232))))))) rfl rfl
      refine WO.app (κ := K231) (E := (Ep.own (Ep.int .i64) 2)) 11 [17] rfl rfl rfl rfl rfl rfl rfl rfl rfl Tryd.underlying35 Trydinfo60 rfl rfl rfl rfl f235 f234.src (sy_one rfl) hx97 rfl fun a97 u97 w236 K237 S238 f239 => ⟨((S222.tr (S227.tr (S232.tr S238))).cl rfl), ?_⟩
      refine WO.wa ?_
      refine WA.brk (fuel := 2) 11 (by kernel_rfl) rfl (by kernel_rfl) ?_
      have f240 := f163.stp (S222.tr (S227.tr (S232.tr S238))) rfl rfl
      refine WO.stB (κ := K237) 9 (off := 0) (vc := [.slice a92 x92.length u92]) (cs' := [.slice a92 x92.length u92, .slice las1_1 s1.2.length lus1_1]) rfl rfl rfl rfl rfl rfl rfl Tryd.sizeOf35 rfl rfl f240 rfl rfl fun w241 S242 f243 => ⟨trivial, ?_⟩
      refine WO.wa ?_
      refine WA.seg (fuel := 0) [(12, 2), (13, 1)] (by kernel_rfl) (by kernel_rfl) rfl ?_
      refine WO.k2 rfl rfl rfl rfl (rn_fieldAddr Tryd.runUnderlying42 rfl Tryd.sizeOf35 rfl rfl) ?_
      refine WO.stB (κ := K237) 9 (off := 1) (vc := [.slice a97 x97.length u97]) (cs' := [.slice a92 x92.length u92, .slice a97 x97.length u97]) rfl rfl rfl rfl rfl rfl rfl Tryd.sizeOf35 rfl rfl f243 rfl rfl fun w244 S245 f246 => ⟨trivial, ?_⟩
      refine WO.wa ?_
      refine WA.last [] (by kernel_rfl) (by kernel_rfl) rfl ?_
      refine WO.fin ?_
      have f247 := f233.stp (S238.tr (S242.tr S245)) rfl rfl
      have f248 := f239.stp (S242.tr S245) rfl rfl
      exact DN.meet _ ⟨(fun b => ren [(10, 17), (11, 18)] (K237 b)), a92, u92, a97, u97, rfl, (Stp.ren ((S162.tr (S222.tr (S227.tr (S232.tr (S238.tr (S242.tr S245)))))).wk rfl) [(10, 17), (11, 18)] rfl), (f247.map (ren [(10, 17), (11, 18)]) rfl rfl), (f248.map (ren [(10, 17), (11, 18)]) rfl rfl), (f246.map (ren [(10, 17), (11, 18)]) rfl rfl)⟩ fun a ha => (ha.more (ha.more (ha.more (ha.more (ha.more (ha.more (ha.more ha.nil rfl) rfl) rfl) rfl) rfl) rfl) rfl)
    rintro _ w154 ⟨K155, lar157_0, lur157_0, lar157_1, lur157_1, rfl, S156, f158, f159, f160⟩
    refine DN.block ?_
    refine DN.seq ?_
    refine WC.rs [(0, 2), (1, 2)] rfl ?_
    refine WO.pn 2 rfl ?_
    refine WO.fin ?_
    have hw45 : IntKind.wrap .i64 (v39 + 1) = v39 + 1 := wr1 hj45 (of_decide_eq_true hc45) hN45
    rw [hw45]
    have hc45 := of_decide_eq_true hc45
    obtain rfl := Option.some.inj h
    refine DN.round fun a ha => ?_
    exact ⟨k, _, Nat.lt_succ_self _, ⟨(fun b => ren [(17, 10), (18, 11)] (K155 b)), v39 + 1, ((x92 : (List (List Int))), (x97 : (List (List Int)))), lar157_0, lur157_0, lar157_1, lur157_1, rfl, (Stp.ren ((S56.tr (S64.tr (S68.tr (S76.tr (S85.tr S156))))).wk rfl) [(17, 10), (18, 11)] rfl), (f158.map (ren [(17, 10), (18, 11)]) rfl rfl), (f159.map (ren [(17, 10), (18, 11)]) rfl rfl), (f160.map (ren [(17, 10), (18, 11)]) rfl rfl), by omega, by omega, hk60⟩, (ha.more (ha.more (ha.more (ha.more (ha.more (ha.more (ha.more ha.nil rfl) rfl) rfl) rfl) rfl) rfl) rfl)⟩
  rintro _ w48 ⟨K49, s3, las3_0, lus3_0, las3_1, lus3_1, rfl, S50, f51, f52, f53, rfl⟩
  have h := hK46
  dsimp only [aft] at h
  refine DN.seq ?_
  refine WC.seq ?_
  refine WC.seq ?_
  refine WC.rs [(0, 2), (1, 2), (2, 2), (3, 1), (4, 1), (5, 1), (6, 2), (7, 2)] rfl ?_
  refine WO.pn 3 rfl ?_
  obtain ⟨p108, h, hK249⟩ := Option.bind_eq_some_iff.mp h
  refine WO.meet [(3, 1), (4, 1), (5, 1), (6, 2), (7, 2)] [] (fun L w' => L = [(4, .pointer (some ⟨b4, 0, none⟩)), (8, .pointer (some ⟨b8, 0, none⟩)), (108, .bool p108)] ∧ ∃ κ', Stp [] K49 w48 κ' w') trivial ?_ ?_
  ·
   revert h
   cases ht250 : (!x33.2) with
   | true =>
    intro h; replace h := cT h
    refine WO.ls rfl rfl rfl rfl ?_
    refine WO.ls rfl rfl rfl rfl ?_
    refine WO.ls rfl rfl rfl rfl ?_
    refine WO.pn 2 rfl ?_
    obtain rfl := Option.some.inj h
    exact WO.met _ trivial ⟨rfl, _, (Stp.refl _ _).wk rfl⟩ fun a ha => (ha.more (ha.more (ha.more ha.nil rfl) rfl) rfl)
   | false =>
    intro h; replace h := cF h
    have f251 := f9.stp (S14.tr (S21.tr (S34.tr (S40.tr (S43.tr S50))))) rfl rfl
    refine WO.k1 trivial rfl rfl rfl rfl (rn_la (cs := [.int .i64 p0.In, .int .i64 p0.Out]) Tryd.isAgg40 Tryd.sizeOf40 rfl rfl rfl (haE f251.cells)) ?_
    refine WO.k1 trivial rfl rfl rfl rfl (rn_la (cs := [.slice las3_0 s3.1.length lus3_0, .slice las3_1 s3.2.length lus3_1]) Tryd.isAgg42 Tryd.sizeOf42 rfl rfl rfl (haE f53.cells)) ?_
    obtain ⟨x106, hx106, h⟩ := Option.bind_eq_some_iff.mp h
    refine WO.call rfl rfl rfl rfl rfl rfl Tryd.call48 (i_isMachine_ok (κ := fun b => mp [] 0 (K49 b)) (p0 := p0) (p1 := (⟨s3.1, s3.2⟩ : Machine)) (Sl.map f51.rdc (mp [] 0) rfl rfl) (Sl.map f52.rdc (mp [] 0) rfl rfl) hx106) ?_
    rintro _ w252 ⟨k253, rfl, e254⟩
    obtain ⟨K255, S256, m257⟩ := Ent.mixed (l := []) (κ := K49) e254 12 rfl
    refine ⟨trivial, ?_⟩
    refine WO.pn 2 rfl ?_
    obtain rfl := Option.some.inj h
    exact WO.met _ trivial ⟨rfl, _, S256.wk rfl⟩ fun a ha => (ha.more (ha.more (ha.more ha.nil rfl) rfl) rfl)
  rintro _ w259 _ ⟨rfl, K260, S261⟩
  have h := hK249
  refine WO.fin ?_
  refine DN.seq ?_
  revert h
  cases ht262 : p108 with
  | true =>
   intro h; replace h := cT h
   refine WC.ct rfl ?_
   refine WC.seq ?_
   refine WC.rs [(0, 2), (1, 1), (2, 2)] rfl ?_
   refine WO.k2 rfl rfl rfl rfl (rn_build (parts := []) (cells := [.slice none 0 0, .slice none 0 0]) rfl rfl (by kernel_rfl)) ?_
   have f263 := f8.stp (S14.tr (S21.tr (S34.tr (S40.tr (S43.tr (S50.tr S261)))))) rfl rfl
   refine WO.stB0 (κ := K260) 3 (vc := [.slice none 0 0, .slice none 0 0]) rfl rfl rfl rfl rfl rfl rfl Tryd.sizeOf42 rfl rfl f263 rfl fun w264 S265 f266 => ⟨trivial, ?_⟩
   refine WO.pn 1 rfl ?_
   refine WO.fin ?_
   refine DN.seq ?_
   refine WC.ret ?_
   refine DN.retThen ?_
   have f267 := hE.stp (S3.tr (S7.tr (S14.tr (S21.tr (S34.tr (S40.tr (S43.tr (S50.tr (S261.tr S265))))))))) rfl rfl
   refine DN.res (l := [.cell 4 42, .tmp 5]) Tryd.results24 (res_cellA rfl f266 Tryd.isAgg42 Tryd.sizeOf42 rfl (res_tmp rfl rfl)) rfl ?_
   obtain rfl := Option.some.inj h
   exact ⟨K260, none, 0, none, 0, rfl, f267, Ow.nil, Ow.nil⟩
  | false =>
   intro h; replace h := cF h
   refine WC.cf rfl ?_
   refine WC.skip ?_
   refine DN.seq ?_
   refine WC.seq ?_
   refine WC.rs [(0, 1), (1, 1), (2, 2)] rfl ?_
   have f268 := f53.stp S261 rfl rfl
   refine WO.k1 trivial rfl rfl rfl rfl (rn_la (cs := [.slice las3_0 s3.1.length lus3_0, .slice las3_1 s3.2.length lus3_1]) Tryd.isAgg42 Tryd.sizeOf42 rfl rfl rfl (haE f268.cells)) ?_
   have f269 := f8.stp (S14.tr (S21.tr (S34.tr (S40.tr (S43.tr (S50.tr S261)))))) rfl rfl
   refine WO.stB0 (κ := K260) 3 (vc := [.slice las3_0 s3.1.length lus3_0, .slice las3_1 s3.2.length lus3_1]) rfl rfl rfl rfl rfl rfl rfl Tryd.sizeOf42 rfl rfl f269 rfl fun w270 S271 f272 => ⟨trivial, ?_⟩
   refine WO.pn 1 rfl ?_
   refine WO.fin ?_
   refine DN.seq ?_
   refine WC.ret ?_
   have f273 := hE.stp (S3.tr (S7.tr (S14.tr (S21.tr (S34.tr (S40.tr (S43.tr (S50.tr (S261.tr S271))))))))) rfl rfl
   have f274 := f51.stp (S261.tr S271) rfl rfl
   have f275 := f52.stp (S261.tr S271) rfl rfl
   refine DN.res (l := [.cell 4 42, .tmp 5]) Tryd.results24 (res_cellA rfl f272 Tryd.isAgg42 Tryd.sizeOf42 rfl (res_tmp rfl rfl)) rfl ?_
   obtain rfl := Option.some.inj h
   exact ⟨(fun b => ren [(10, 2), (11, 3)] (K260 b)), las3_0, lus3_0, las3_1, lus3_1, rfl, (f273.map (ren [(10, 2), (11, 3)]) rfl rfl), (f274.map (ren [(10, 2), (11, 3)]) rfl rfl), (f275.map (ren [(10, 2), (11, 3)]) rfl rfl)⟩

/- loop.example/g00869/laws.FnMachineWords -/
theorem l_FnMachineWords_ok {w : World} {κ : Col} {a0 : Option Addr} {u0 : Nat} {p0 : (List Int)} (g0 : Rd (Rp.int .u8) κ w 0 a0 u0 p0) (gGM : Vm 1 κ w) (gGT : Tb Tryd.prog "internal/strconv.uint64pow10" .u64 Lib.pow10Tab κ w) {r : Bool} (h : l_FnMachineWords p0 = some r) : Ret Tryd.prog 8 [.slice a0 p0.length u0] w (fun v w' => ∃ (κ' : Col), v = .bool r ∧ Ent κ w κ' w') := by
 unfold l_FnMachineWords at h
 refine Ret.enter Tryd.func8 rfl Tryd.ntmps8 rfl ?_
 dsimp only [envOf]
 have hE := Ent.refl κ w
 refine WC.seq ?_
 refine WC.rs [(0, 2)] rfl ?_
 refine WO.pn 1 rfl ?_
 refine WO.fin ?_
 refine DN.seq ?_
 refine WC.seq ?_
 refine WC.seq ?_
 refine WC.rs [(0, 2), (1, 1)] rfl ?_
 refine WO.pn 1 rfl ?_
 obtain ⟨x13, hx13, h⟩ := Option.bind_eq_some_iff.mp h
 refine WO.call rfl rfl rfl rfl rfl rfl Tryd.call9 (l_big_ok (κ := fun b => mp [] 0 (κ b)) (Sl.map g0 (mp [] 0) rfl rfl) hx13) ?_
 rintro _ w1 ⟨k2, rfl, e3⟩
 obtain ⟨K4, S5, m6⟩ := Ent.mixed (l := []) (κ := κ) e3 2 rfl
 refine ⟨trivial, ?_⟩
 refine WO.fin ?_
 refine DN.seq ?_
 revert h
 cases ht8 : x13 with
 | true =>
  intro h; replace h := cT h
  refine WC.ct rfl ?_
  refine WC.seq ?_
  refine WC.rs [(0, 2)] rfl ?_
  refine WO.pn 1 rfl ?_
  refine WO.fin ?_
  refine DN.seq ?_
  refine WC.ret ?_
  refine DN.retThen ?_
  have f9 := hE.stp S5 rfl rfl
  refine DN.res (l := [.tmp 2]) Tryd.results8 (res_tmp rfl rfl) rfl ?_
  obtain rfl := Option.some.inj h
  exact ⟨K4, rfl, f9⟩
 | false =>
  intro h; replace h := cF h
  refine WC.cf rfl ?_
  refine WC.skip ?_
  refine DN.seq ?_
  refine WC.seq ?_
  refine WC.rs [(0, 2), (1, 1), (2, 2)] rfl ?_
  refine WO.pn 1 rfl ?_
  obtain ⟨x15, hx15, h⟩ := Option.bind_eq_some_iff.mp h
  have f10 := g0.stp S5 rfl rfl
  refine WO.call rfl rfl rfl rfl rfl rfl Tryd.call27 (l_roll_ok (κ := fun b => mp [] 1 (K4 b)) (Sl.map f10 (mp [] 1) rfl rfl) hx15) ?_
  rintro _ w11 ⟨k12, a15_0, u15_0, b15, rfl, e13, f14, f15⟩
  obtain ⟨K16, S17, m18, z19⟩ := Ent.mixed0 (l := []) (κ := K4) e13 4 rfl
  refine ⟨trivial, ?_⟩
  have f20 := f14.mx z19
  have f21 := f15.mx m18 rfl (rfl : 4 + 3 = 7)
  refine WO.pn 1 rfl ?_
  refine WO.fin ?_
  refine DN.seq ?_
  refine WC.seq ?_
  refine WC.rs [(0, 2), (1, 1), (2, 2), (3, 2), (4, 1), (5, 2), (6, 2), (7, 1), (8, 1)] rfl ?_
  refine WO.pn 1 rfl ?_
  obtain ⟨x17, hx17, h⟩ := Option.bind_eq_some_iff.mp h
  refine WO.call rfl rfl rfl rfl rfl rfl Tryd.call28 (l_dice_below_ok (κ := fun b => mp [(7, 2)] 0 (K16 b)) (p0 := x15) (Sl.map f20 (mp [(7, 2)] 0) rfl rfl) (f21.map (mp [(7, 2)] 0) rfl rfl) hx17) ?_
  rintro _ w22 ⟨k23, rfl, e24, f25⟩
  obtain ⟨K26, S27, m28⟩ := Ent.mixed (l := [(7, 2)]) (κ := K16) e24 8 rfl
  refine ⟨trivial, ?_⟩
  have f30 := f25.mx m28 rfl (rfl : 8 + 2 = 10)
  refine WO.pn 2 rfl ?_
  obtain ⟨x20, hx20, h⟩ := Option.bind_eq_some_iff.mp h
  have f31 := f20.stp S27 rfl rfl
  refine WO.call rfl rfl rfl rfl rfl rfl Tryd.call28 (l_dice_below_ok (κ := fun b => mp [(10, 2)] 0 (K26 b)) (p0 := (⟨x15.b, x17.2.1, x17.2.2⟩ : dice)) (Sl.map f31 (mp [(10, 2)] 0) rfl rfl) (f30.map (mp [(10, 2)] 0) rfl rfl) hx20) ?_
  rintro _ w32 ⟨k33, rfl, e34, f35⟩
  obtain ⟨K36, S37, m38⟩ := Ent.mixed (l := [(10, 2)]) (κ := K26) e34 11 rfl
  refine ⟨trivial, ?_⟩
  have f40 := f35.mx m38 rfl (rfl : 11 + 2 = 13)
  refine WO.pn 1 rfl ?_
  refine WO.k2 rfl rfl rfl rfl (rn_build (parts := [(0, .tmp 18), (1, .tmp 21)]) (cells := [.int .i64 (IntKind.i64.wrap (1 + x17.1)), .int .i64 (IntKind.i64.wrap (1 + x20.1))]) rfl rfl (by kernel_rfl)) ?_
  refine WO.alloc (κ := K36) 14 rfl rfl rfl rfl rfl Tryd.zeroValue40 rfl fun b4 w41 K42 S43 f44 => ⟨trivial, ?_⟩
  refine WO.stB0 (κ := K42) 14 (vc := [.int .i64 (IntKind.i64.wrap (1 + x17.1)), .int .i64 (IntKind.i64.wrap (1 + x20.1))]) rfl rfl rfl rfl rfl rfl rfl Tryd.sizeOf40 rfl rfl f44 rfl fun w45 S46 f47 => ⟨trivial, ?_⟩
  refine WO.fin ?_
  refine DN.seq ?_
  refine WC.seq ?_
  refine WC.rs [(0, 2), (1, 1), (2, 1), (3, 1), (4, 1)] rfl ?_
  refine WO.pn 1 rfl ?_
  refine WO.k1 trivial rfl rfl rfl rfl (rn_la (cs := [.int .i64 (IntKind.i64.wrap (1 + x17.1)), .int .i64 (IntKind.i64.wrap (1 + x20.1))]) Tryd.isAgg40 Tryd.sizeOf40 rfl rfl rfl (haE f47.cells)) ?_
  obtain ⟨x25, hx25, h⟩ := Option.bind_eq_some_iff.mp h
  have f48 := f31.stp (S37.tr (S43.tr S46)) rfl rfl
  have f49 := f40.stp (S43.tr S46) rfl rfl
  refine WO.call rfl rfl rfl rfl rfl rfl Tryd.call29 (l_w9Machine_ok (κ := fun b => mp [(13, 2)] 0 (K42 b)) (p1 := (⟨(IntKind.i64.wrap (1 + x17.1)), (IntKind.i64.wrap (1 + x20.1))⟩ : Sig)) (p0 := (⟨x15.b, x20.2.1, x20.2.2⟩ : dice)) (Sl.map f48 (mp [(13, 2)] 0) rfl rfl) (f49.map (mp [(13, 2)] 0) rfl rfl) hx25) ?_
  rintro _ w50 ⟨k51, a25_0, u25_0, a25_1, u25_1, rfl, e52, f53, f54, f55⟩
  obtain ⟨K56, S57, m58⟩ := Ent.mixed (l := [(13, 2)]) (κ := K42) e52 15 rfl
  refine ⟨trivial, ?_⟩
  have f60 := f53.mx (no_own (no_int _) _) m58 rfl (rfl : 15 + 3 = 18)
  have f61 := f54.mx (no_own (no_int _) _) m58 rfl (rfl : 15 + 4 = 19)
  have f62 := f55.mx m58 rfl (rfl : 15 + 2 = 17)
  refine WO.alloc (κ := K56) 20 rfl rfl rfl rfl rfl Tryd.zeroValue42 rfl fun b5 w63 K64 S65 f66 => ⟨trivial, ?_⟩
  refine WO.stB0 (κ := K64) 20 (vc := [.slice a25_0 x25.1.Next.length u25_0, .slice a25_1 x25.1.Out.length u25_1]) rfl rfl rfl rfl rfl rfl rfl Tryd.sizeOf42 rfl rfl f66 rfl fun w67 S68 f69 => ⟨trivial, ?_⟩
  refine WO.fin ?_
  refine DN.seq ?_
  refine WC.seq ?_
  refine WC.rs [(0, 1), (1, 1), (2, 1), (3, 2)] rfl ?_
  have f70 := f47.stp (S57.tr (S65.tr S68)) rfl rfl
  refine WO.k1 trivial rfl rfl rfl rfl (rn_la (cs := [.int .i64 (IntKind.i64.wrap (1 + x17.1)), .int .i64 (IntKind.i64.wrap (1 + x20.1))]) Tryd.isAgg40 Tryd.sizeOf40 rfl rfl rfl (haE f70.cells)) ?_
  refine WO.k1 trivial rfl rfl rfl rfl (rn_la (cs := [.slice a25_0 x25.1.Next.length u25_0, .slice a25_1 x25.1.Out.length u25_1]) Tryd.isAgg42 Tryd.sizeOf42 rfl rfl rfl (haE f69.cells)) ?_
  obtain ⟨x28, hx28, h⟩ := Option.bind_eq_some_iff.mp h
  have f71 := f60.stp (S65.tr S68) rfl rfl
  have f72 := f61.stp (S65.tr S68) rfl rfl
  have f73 := gGT.stp (S5.tr (S17.tr (S27.tr (S37.tr (S43.tr (S46.tr (S57.tr (S65.tr S68)))))))) rfl rfl
  refine WO.call rfl rfl rfl rfl rfl rfl Tryd.call19 (i_MachineText_ok (κ := fun b => mp [] 0 (K64 b)) (p0 := (⟨(IntKind.i64.wrap (1 + x17.1)), (IntKind.i64.wrap (1 + x20.1))⟩ : Sig)) (p1 := x25.1) (Sl.map f71.rdc (mp [] 0) rfl rfl) (Sl.map f72.rdc (mp [] 0) rfl rfl) (f73.map (mp [] 0) rfl rfl) hx28) ?_
  rintro _ w74 ⟨k75, rfl, e76⟩
  obtain ⟨K77, S78, m79⟩ := Ent.mixed (l := []) (κ := K64) e76 21 rfl
  refine ⟨trivial, ?_⟩
  refine WO.pn 1 rfl ?_
  refine WO.fin ?_
  refine DN.seq ?_
  refine WC.seq ?_
  refine WC.rs [(0, 1), (1, 2), (2, 1), (3, 2), (4, 2), (5, 2), (6, 1), (7, 1), (8, 2)] rfl ?_
  have f81 := f70.stp S78 rfl rfl
  refine WO.k1 trivial rfl rfl rfl rfl (rn_la (cs := [.int .i64 (IntKind.i64.wrap (1 + x17.1)), .int .i64 (IntKind.i64.wrap (1 + x20.1))]) Tryd.isAgg40 Tryd.sizeOf40 rfl rfl rfl (haE f81.cells)) ?_
  refine WO.pn 1 rfl ?_
  obtain ⟨x32, hx32, h⟩ := Option.bind_eq_some_iff.mp h
  have f82 := gGM.stp (S5.tr (S17.tr (S27.tr (S37.tr (S43.tr (S46.tr (S57.tr (S65.tr (S68.tr S78))))))))) rfl rfl
  refine WO.call rfl rfl rfl rfl rfl rfl Tryd.call24 (i_TextMachine_ok (κ := fun b => mp [] 0 (K77 b)) (p0 := (⟨(IntKind.i64.wrap (1 + x17.1)), (IntKind.i64.wrap (1 + x20.1))⟩ : Sig)) (f82.map (mp [] 0) rfl rfl) hx32) ?_
  rintro _ w83 ⟨k84, a32_0, u32_0, a32_1, u32_1, rfl, e85, f86, f87⟩
  obtain ⟨K88, S89, m90⟩ := Ent.mixed (l := []) (κ := K77) e85 23 rfl
  refine ⟨trivial, ?_⟩
  have f92 := f86.mx (no_own (no_int _) _) m90 rfl (rfl : 23 + 2 = 25)
  have f93 := f87.mx (no_own (no_int _) _) m90 rfl (rfl : 23 + 3 = 26)
  refine WO.pn 3 rfl ?_
  refine WO.alloc (κ := K88) 27 rfl rfl rfl rfl rfl Tryd.zeroValue42 rfl fun b7 w94 K95 S96 f97 => ⟨trivial, ?_⟩
  refine WO.stB0 (κ := K95) 27 (vc := [.slice a32_0 x32.1.Next.length u32_0, .slice a32_1 x32.1.Out.length u32_1]) rfl rfl rfl rfl rfl rfl rfl Tryd.sizeOf42 rfl rfl f97 rfl fun w98 S99 f100 => ⟨trivial, ?_⟩
  refine WO.pn 1 rfl ?_
  refine WO.fin ?_
  refine DN.seq ?_
  refine WC.seq ?_
  refine WC.seq ?_
  refine WC.rx (κ := K95) [20, 27] none [(0, 2), (1, 2), (2, 2), (3, 2), (6, 2), (4, 0), (5, 2), (7, 0), (8, 2), (9, 2), (10, 2), (11, 2), (12, 2), (15, 2), (13, 0), (14, 2), (16, 0), (17, 2), (18, 2), (19, 2), (20, 2), (21, 2), (24, 2), (25, 0), (26, 2), (22, 1), (23, 2), (27, 2), (28, 2)] [] (by kernel_rfl) (by kernel_rfl) fun w102 S101 => ?_
  refine WO.pn 3 rfl ?_
  obtain ⟨p45, h, hK103⟩ := Option.bind_eq_some_iff.mp h
  refine WO.meet [(3, 2), (6, 2), (4, 0), (5, 2), (7, 0), (8, 2), (9, 2), (10, 2)] [(11, 2), (12, 2), (15, 2), (13, 0), (14, 2), (16, 0), (17, 2), (18, 2), (19, 2), (20, 2), (21, 2), (24, 2), (25, 0), (26, 2), (22, 1), (23, 2), (27, 2), (28, 2)] (fun L w' => L = [(4, .pointer (some ⟨b4, 0, none⟩)), (5, .pointer (some ⟨b5, 0, none⟩)), (6, .string x28), (7, .pointer (some ⟨b7, 0, none⟩)), (45, .bool p45)] ∧ ∃ κ', Stp [] K95 w102 κ' w') (Cl.refl _ _ _) ?_ ?_
  ·
   revert h
   cases ht104 : (!x32.2) with
   | true =>
    intro h; replace h := cT h
    refine WO.pn 2 rfl ?_
    refine WO.qs rfl rfl rfl rfl ?_
    refine WO.pn 1 rfl ?_
    refine WO.qs rfl rfl rfl rfl ?_
    refine WO.pn 3 rfl ?_
    obtain rfl := Option.some.inj h
    exact WO.met _ (Cl.refl _ _ _) ⟨rfl, _, (Stp.refl _ _).wk rfl⟩ fun a ha => (ha.more (ha.more (ha.more (ha.more (ha.more ha.nil rfl) rfl) rfl) rfl) rfl)
   | false =>
    intro h; replace h := cF h
    refine WO.k2 rfl rfl rfl rfl (rn_fieldAddr Tryd.runUnderlying42 rfl Tryd.sizeOf35 rfl rfl) ?_
    refine WO.k2 rfl rfl rfl rfl (rn_fieldAddr Tryd.runUnderlying42 rfl Tryd.sizeOf35 rfl rfl) ?_
    have f105 := f100.stp S101 rfl rfl
    refine WO.k0 rfl rfl rfl rfl (rn_ld Tryd.isAgg35 rfl rfl (hvC (f105.ld 0 rfl rfl) rfl)) ?_
    refine WO.k2 rfl rfl rfl rfl (rn_len Tryd.runUnderlying35 rfl rfl) ?_
    have f106 := f69.stp (S78.tr (S89.tr (S96.tr (S99.tr S101)))) rfl rfl
    refine WO.k0 rfl rfl rfl rfl (rn_ld Tryd.isAgg35 rfl rfl (hvC (f106.ld 0 rfl rfl) rfl)) ?_
    refine WO.k2 rfl rfl rfl rfl (rn_len Tryd.runUnderlying35 rfl rfl) ?_
    refine WO.pn 2 rfl ?_
    obtain rfl := Option.some.inj h
    exact WO.met _ (Cl.refl _ _ _) ⟨rfl, _, (Stp.refl _ _).wk rfl⟩ fun a ha => (ha.more (ha.more (ha.more (ha.more (ha.more ha.nil rfl) rfl) rfl) rfl) rfl)
  rintro _ w107 _ ⟨rfl, K108, S109⟩
  have h := hK103
  refine WO.pn 1 rfl ?_
  obtain ⟨p54, h, hK110⟩ := Option.bind_eq_some_iff.mp h
  refine WO.meet [(12, 2), (15, 2), (13, 0), (14, 2), (16, 0), (17, 2), (18, 2), (19, 2)] [(20, 2), (21, 2), (24, 2), (25, 0), (26, 2), (22, 1), (23, 2), (27, 2), (28, 2)] (fun L w' => L = [(4, .pointer (some ⟨b4, 0, none⟩)), (5, .pointer (some ⟨b5, 0, none⟩)), (6, .string x28), (7, .pointer (some ⟨b7, 0, none⟩)), (54, .bool p54)] ∧ ∃ κ', Stp [] K108 w107 κ' w') (S109.cl rfl) ?_ ?_
  ·
   revert h
   cases ht111 : p45 with
   | true =>
    intro h; replace h := cT h
    refine WO.pn 2 rfl ?_
    refine WO.qs rfl rfl rfl rfl ?_
    refine WO.pn 1 rfl ?_
    refine WO.qs rfl rfl rfl rfl ?_
    refine WO.pn 3 rfl ?_
    obtain rfl := Option.some.inj h
    exact WO.met _ (S109.cl rfl) ⟨rfl, _, (Stp.refl _ _).wk rfl⟩ fun a ha => (ha.more (ha.more (ha.more (ha.more (ha.more ha.nil rfl) rfl) rfl) rfl) rfl)
   | false =>
    intro h; replace h := cF h
    refine WO.k2 rfl rfl rfl rfl (rn_fieldAddr Tryd.runUnderlying42 rfl Tryd.sizeOf35 rfl rfl) ?_
    refine WO.k2 rfl rfl rfl rfl (rn_fieldAddr Tryd.runUnderlying42 rfl Tryd.sizeOf35 rfl rfl) ?_
    have f112 := f100.stp S101 rfl rfl
    refine WO.k0 rfl rfl rfl rfl (rn_ld Tryd.isAgg35 rfl rfl (hvC (f112.ld 1 rfl rfl) rfl)) ?_
    refine WO.k2 rfl rfl rfl rfl (rn_len Tryd.runUnderlying35 rfl rfl) ?_
    have f113 := f69.stp (S78.tr (S89.tr (S96.tr (S99.tr S101)))) rfl rfl
    refine WO.k0 rfl rfl rfl rfl (rn_ld Tryd.isAgg35 rfl rfl (hvC (f113.ld 1 rfl rfl) rfl)) ?_
    refine WO.k2 rfl rfl rfl rfl (rn_len Tryd.runUnderlying35 rfl rfl) ?_
    refine WO.pn 2 rfl ?_
    obtain rfl := Option.some.inj h
    exact WO.met _ (S109.cl rfl) ⟨rfl, _, (Stp.refl _ _).wk rfl⟩ fun a ha => (ha.more (ha.more (ha.more (ha.more (ha.more ha.nil rfl) rfl) rfl) rfl) rfl)
  rintro _ w114 _ ⟨rfl, K115, S116⟩
  have h := hK110
  refine WO.pn 1 rfl ?_
  obtain ⟨p63, h, hK117⟩ := Option.bind_eq_some_iff.mp h
  refine WO.meet [(21, 2), (24, 2), (25, 0), (26, 2), (22, 1), (23, 2), (27, 2), (28, 2)] [] (fun L w' => L = [(4, .pointer (some ⟨b4, 0, none⟩)), (5, .pointer (some ⟨b5, 0, none⟩)), (6, .string x28), (7, .pointer (some ⟨b7, 0, none⟩)), (63, .bool p63)] ∧ ∃ κ', Stp [] K115 w114 κ' w') ((S109.tr S116).cl rfl) ?_ ?_
  ·
   revert h
   cases ht118 : p54 with
   | true =>
    intro h; replace h := cT h
    refine WO.pn 2 rfl ?_
    refine WO.qs rfl rfl rfl rfl ?_
    refine WO.pn 1 rfl ?_
    refine WO.ls rfl rfl rfl rfl ?_
    refine WO.pn 3 rfl ?_
    obtain rfl := Option.some.inj h
    exact WO.met _ ((S109.tr S116).cl rfl) ⟨rfl, _, (Stp.refl _ _).wk rfl⟩ fun a ha => (ha.more (ha.more (ha.more (ha.more (ha.more ha.nil rfl) rfl) rfl) rfl) rfl)
   | false =>
    intro h; replace h := cF h
    refine WO.pn 1 rfl ?_
    refine WO.k2 rfl rfl rfl rfl (rn_fieldAddr Tryd.runUnderlying42 rfl Tryd.sizeOf35 rfl rfl) ?_
    have f119 := f69.stp (S78.tr (S89.tr (S96.tr (S99.tr S101)))) rfl rfl
    refine WO.k0 rfl rfl rfl rfl (rn_ld Tryd.isAgg35 rfl rfl (hvC (f119.ld 0 rfl rfl) rfl)) ?_
    refine WO.k2 rfl rfl rfl rfl (rn_len Tryd.runUnderlying35 rfl rfl) ?_
    obtain ⟨x57, hx57, h⟩ := Option.bind_eq_some_iff.mp h
    refine WO.call rfl rfl rfl rfl rfl rfl Tryd.call30 (l_lines_ok (κ := fun b => mp [] 0 (K115 b)) hx57) ?_
    rintro _ w120 ⟨k121, a57_0, u57_0, rfl, e122, f123⟩
    obtain ⟨K124, S125, m126⟩ := Ent.mixed (l := []) (κ := K115) e122 28 rfl
    refine ⟨((S109.tr (S116.tr S125)).cl rfl), ?_⟩
    have f128 := f123.mx no_str m126 rfl (rfl : 28 + 2 = 30)
    refine WO.k2 rfl rfl rfl rfl (rn_len Tryd.runUnderlying57 rfl rfl) ?_
    refine WO.pn 2 rfl ?_
    obtain rfl := Option.some.inj h
    exact WO.met _ ((S109.tr (S116.tr S125)).cl rfl) ⟨rfl, _, S125.wk rfl⟩ fun a ha => (ha.more (ha.more (ha.more (ha.more (ha.more ha.nil rfl) rfl) rfl) rfl) rfl)
  rintro _ w129 _ ⟨rfl, K130, S131⟩
  have h := hK117
  refine WO.nx ?_
  refine WO.fin ?_
  refine DN.seq ?_
  revert h
  cases ht132 : p63 with
  | true =>
   intro h; replace h := cT h
   refine WC.ct rfl ?_
   refine WC.seq ?_
   refine WC.rs [(0, 2)] rfl ?_
   refine WO.pn 1 rfl ?_
   refine WO.fin ?_
   refine DN.seq ?_
   refine WC.ret ?_
   refine DN.retThen ?_
   have f133 := hE.stp (S5.tr (S17.tr (S27.tr (S37.tr (S43.tr (S46.tr (S57.tr (S65.tr (S68.tr (S78.tr (S89.tr (S96.tr (S99.tr (S101.tr (S109.tr (S116.tr S131)))))))))))))))) rfl rfl
   refine DN.res (l := [.tmp 2]) Tryd.results8 (res_tmp rfl rfl) rfl ?_
   obtain rfl := Option.some.inj h
   exact ⟨K130, rfl, f133⟩
  | false =>
   intro h; replace h := cF h
   refine WC.cf rfl ?_
   refine WC.skip ?_
   refine DN.seq ?_
   refine WC.seq ?_
   refine WC.seq ?_
   refine WC.rs [(0, 2)] rfl ?_
   refine WO.pn 1 rfl ?_
   refine WO.fin ?_
   refine DN.seq ?_
   have hN134 : (x25.1.Next.length : Int) ≤ 9223372036854775807 := f71.len_le
   obtain ⟨q2, hq136, hK135⟩ := Option.bind_eq_some_iff.mp h
   clear h
   refine WC.meet (fun L w' => ∃ (κ' : Col), L = [(4, .pointer (some ⟨b4, 0, none⟩)), (6, .string x28)] ∧ Stp [] K130 w129 κ' w' ∧ q2 = Sum.inr ()) ?_ ?_
   ·
    refine WC.block ?_
    refine WC.loop (fun k L w' => ∃ (κ' : Col) (v9 : Int), L = [(4, .pointer (some ⟨b4, 0, none⟩)), (5, .pointer (some ⟨b5, 0, none⟩)), (6, .string x28), (7, .pointer (some ⟨b7, 0, none⟩)), (9, .int .i64 v9)] ∧ Stp [] K130 w129 κ' w' ∧ 0 ≤ v9 ∧ Int.toNat ((x25.1.Next.length : Int) - v9) = k ∧ cntM (l_FnMachineWords_b0 x25 x32) k v9 () = some q2) ⟨_, _, ⟨K130, 0, rfl, (Stp.refl _ _).wk rfl, (by decide), (by simp), hq136⟩, fun a ha => (ha.more (ha.more (ha.more (ha.more (ha.more ha.nil rfl) rfl) rfl) rfl) rfl)⟩ ?_
    rintro k _ w140 ⟨K141, v9, rfl, S142, hj134, hJ134, h⟩
    rcases k with _ | k
    ·
     have hk143 := h; obtain ⟨o134, h⟩ := ex_eq (Sum.inr (Sum.inl ()) : Bool ⊕ ((Unit) ⊕ (Unit)))
     have hc134 : decide (v9 < (x25.1.Next.length : Int)) = false := decide_eq_false (by omega)
     refine WC.seq ?_
     refine WC.seq ?_
     refine WC.rs [(0, 2), (1, 2), (2, 1), (3, 2), (4, 2)] rfl ?_
     refine WO.pn 1 rfl ?_
     refine WO.k2 rfl rfl rfl rfl (rn_fieldAddr Tryd.runUnderlying42 rfl Tryd.sizeOf35 rfl rfl) ?_
     have f144 := f69.stp (S78.tr (S89.tr (S96.tr (S99.tr (S101.tr (S109.tr (S116.tr (S131.tr S142)))))))) rfl rfl
     refine WO.k1 trivial rfl rfl rfl rfl (rn_ld Tryd.isAgg35 rfl rfl (hvE (f144.ld 0 rfl rfl))) ?_
     refine WO.k2 rfl rfl rfl rfl (rn_len Tryd.runUnderlying35 rfl rfl) ?_
     refine WO.pn 1 rfl ?_
     refine WO.fin ?_
     refine DN.seq ?_
     refine WC.cf' rfl hc134 ?_
     refine WC.exit ?_
     refine DN.exitThen ?_
     refine DN.exitThen ?_
     obtain rfl := Option.some.inj h
     have h := hk143
     refine DN.hit ?_
     obtain rfl := Option.some.inj h
     exact DN.meet _ ⟨K141, rfl, S142.wk rfl, rfl⟩ fun a ha => (ha.more (ha.more ha.nil rfl) rfl)
    ·
     obtain ⟨o134, h, hk143⟩ := Option.bind_eq_some_iff.mp h; unfold l_FnMachineWords_b0 at h
     have hc134 : decide (v9 < (x25.1.Next.length : Int)) = true := decide_eq_true (by omega)
     refine WC.seq ?_
     refine WC.seq ?_
     refine WC.rs [(0, 2), (1, 2), (2, 1), (3, 2), (4, 2)] rfl ?_
     refine WO.pn 1 rfl ?_
     refine WO.k2 rfl rfl rfl rfl (rn_fieldAddr Tryd.runUnderlying42 rfl Tryd.sizeOf35 rfl rfl) ?_
     have f145 := f69.stp (S78.tr (S89.tr (S96.tr (S99.tr (S101.tr (S109.tr (S116.tr (S131.tr S142)))))))) rfl rfl
     refine WO.k1 trivial rfl rfl rfl rfl (rn_ld Tryd.isAgg35 rfl rfl (hvE (f145.ld 0 rfl rfl))) ?_
     refine WO.k2 rfl rfl rfl rfl (rn_len Tryd.runUnderlying35 rfl rfl) ?_
     refine WO.pn 1 rfl ?_
     refine WO.fin ?_
     refine DN.seq ?_
     refine WC.ct' rfl hc134 ?_
     refine WC.skip ?_
     refine DN.seq ?_
     refine WC.seq ?_
     refine WC.block ?_
     refine WC.seq ?_
     refine WC.rx (κ := K141) [0, 18, 19, 20, 25, 26, 27] none [(0, 2), (2, 2), (5, 2), (7, 2), (1, 0), (3, 2), (4, 0), (6, 0), (8, 2), (9, 0), (10, 1), (11, 2), (12, 2), (13, 2), (15, 2), (18, 2), (20, 2), (14, 0), (16, 2), (17, 0), (19, 0), (21, 2), (22, 0), (23, 1), (24, 2), (25, 2)] [] (by kernel_rfl) (by kernel_rfl) fun w147 S146 => ?_
     refine WO.k2 rfl rfl rfl rfl (rn_fieldAddr Tryd.runUnderlying42 rfl Tryd.sizeOf35 rfl rfl) ?_
     refine WO.pn 1 rfl ?_
     refine WO.k2 rfl rfl rfl rfl (rn_fieldAddr Tryd.runUnderlying42 rfl Tryd.sizeOf35 rfl rfl) ?_
     refine WO.pn 1 rfl ?_
     have f148 := f100.stp (S101.tr (S109.tr (S116.tr (S131.tr (S142.tr S146))))) rfl rfl
     refine WO.k0 rfl rfl rfl rfl (rn_ld Tryd.isAgg35 rfl rfl (hvC (f148.ld 0 rfl rfl) rfl)) ?_
     obtain ⟨x74, hx74, h⟩ := Option.bind_eq_some_iff.mp h
     refine WO.k2 rfl rfl rfl rfl (rn_index f92.rdc hx74 Tryd.runUnderlying35 Tryd.sizeOf60 rfl rfl rfl rfl) ?_
     have f149 := f92.stp (S96.tr (S99.tr (S101.tr (S109.tr (S116.tr (S131.tr (S142.tr S146))))))) rfl rfl
     obtain ⟨ax74, ux74, f150, hl151⟩ := f149.rdc.gSl hx74
     refine WO.k0 rfl rfl rfl rfl (rn_ld Tryd.isAgg60 rfl rfl (hvC hl151 rfl)) ?_
     have f152 := f145.stp S146 rfl rfl
     refine WO.k0 rfl rfl rfl rfl (rn_ld Tryd.isAgg35 rfl rfl (hvC (f152.ld 0 rfl rfl) rfl)) ?_
     obtain ⟨x79, hx79, h⟩ := Option.bind_eq_some_iff.mp h
     refine WO.k2 rfl rfl rfl rfl (rn_index f71.rdc hx79 Tryd.runUnderlying35 Tryd.sizeOf60 rfl rfl rfl rfl) ?_
     have f153 := f71.stp (S78.tr (S89.tr (S96.tr (S99.tr (S101.tr (S109.tr (S116.tr (S131.tr (S142.tr S146))))))))) rfl rfl
     obtain ⟨ax79, ux79, f154, hl155⟩ := f153.rdc.gSl hx79
     refine WO.k0 rfl rfl rfl rfl (rn_ld Tryd.isAgg60 rfl rfl (hvC hl155 rfl)) ?_
     obtain ⟨x81, hx81, h⟩ := Option.bind_eq_some_iff.mp h
     refine WO.call rfl rfl rfl rfl rfl rfl Tryd.call31 (l_likeInts_ok (κ := fun b => mp [] 0 (K141 b)) (Sl.map f150 (mp [] 0) rfl rfl) (Sl.map f154 (mp [] 0) rfl rfl) hx81) ?_
     rintro _ w156 ⟨k157, rfl, e158⟩
     obtain ⟨K159, S160, m161⟩ := Ent.mixed (l := []) (κ := K141) e158 28 rfl
     refine ⟨(S160.cl rfl), ?_⟩
     refine WO.pn 2 rfl ?_
     obtain ⟨p96, h, hK163⟩ := Option.bind_eq_some_iff.mp h
     refine WO.meet [(13, 2), (15, 2), (18, 2), (20, 2), (14, 0), (16, 2), (17, 0), (19, 0), (21, 2), (22, 0), (23, 1), (24, 2), (25, 2)] [] (fun L w' => L = [(4, .pointer (some ⟨b4, 0, none⟩)), (5, .pointer (some ⟨b5, 0, none⟩)), (6, .string x28), (7, .pointer (some ⟨b7, 0, none⟩)), (9, .int .i64 v9), (96, .bool p96)] ∧ ∃ κ', Stp [] K159 w156 κ' w') (S160.cl rfl) ?_ ?_
     ·
      revert h
      cases ht164 : (!x81) with
      | true =>
       intro h; replace h := cT h
       refine WO.pn 4 rfl ?_
       refine WO.qs rfl rfl rfl rfl ?_
       refine WO.pn 1 rfl ?_
       refine WO.qs rfl rfl rfl rfl ?_
       refine WO.qs rfl rfl rfl rfl ?_
       refine WO.pn 1 rfl ?_
       refine WO.qs rfl rfl rfl rfl ?_
       refine WO.ls rfl rfl rfl rfl ?_
       refine WO.pn 2 rfl ?_
       obtain rfl := Option.some.inj h
       exact WO.met _ (S160.cl rfl) ⟨rfl, _, (Stp.refl _ _).wk rfl⟩ fun a ha => (ha.more (ha.more (ha.more (ha.more (ha.more (ha.more ha.nil rfl) rfl) rfl) rfl) rfl) rfl)
      | false =>
       intro h; replace h := cF h
       refine WO.k2 rfl rfl rfl rfl (rn_fieldAddr Tryd.runUnderlying42 rfl Tryd.sizeOf35 rfl rfl) ?_
       refine WO.pn 1 rfl ?_
       refine WO.k2 rfl rfl rfl rfl (rn_fieldAddr Tryd.runUnderlying42 rfl Tryd.sizeOf35 rfl rfl) ?_
       refine WO.pn 1 rfl ?_
       refine WO.k0 rfl rfl rfl rfl (rn_ld Tryd.isAgg35 rfl rfl (hvC (f148.ld 1 rfl rfl) rfl)) ?_
       obtain ⟨x87, hx87, h⟩ := Option.bind_eq_some_iff.mp h
       refine WO.k2 rfl rfl rfl rfl (rn_index f93.rdc hx87 Tryd.runUnderlying35 Tryd.sizeOf60 rfl rfl rfl rfl) ?_
       have f165 := f93.stp (S96.tr (S99.tr (S101.tr (S109.tr (S116.tr (S131.tr (S142.tr S146))))))) rfl rfl
       obtain ⟨ax87, ux87, f166, hl167⟩ := f165.rdc.gSl hx87
       refine WO.k0 rfl rfl rfl rfl (rn_ld Tryd.isAgg60 rfl rfl (hvC hl167 rfl)) ?_
       refine WO.k0 rfl rfl rfl rfl (rn_ld Tryd.isAgg35 rfl rfl (hvC (f152.ld 1 rfl rfl) rfl)) ?_
       obtain ⟨x92, hx92, h⟩ := Option.bind_eq_some_iff.mp h
       refine WO.k2 rfl rfl rfl rfl (rn_index f72.rdc hx92 Tryd.runUnderlying35 Tryd.sizeOf60 rfl rfl rfl rfl) ?_
       have f168 := f72.stp (S78.tr (S89.tr (S96.tr (S99.tr (S101.tr (S109.tr (S116.tr (S131.tr (S142.tr S146))))))))) rfl rfl
       obtain ⟨ax92, ux92, f169, hl170⟩ := f168.rdc.gSl hx92
       refine WO.k0 rfl rfl rfl rfl (rn_ld Tryd.isAgg60 rfl rfl (hvC hl170 rfl)) ?_
       obtain ⟨x94, hx94, h⟩ := Option.bind_eq_some_iff.mp h
       have f171 := f166.stp S160 rfl rfl
       have f172 := f169.stp S160 rfl rfl
       refine WO.call rfl rfl rfl rfl rfl rfl Tryd.call31 (l_likeInts_ok (κ := fun b => mp [] 0 (K159 b)) (Sl.map f171 (mp [] 0) rfl rfl) (Sl.map f172 (mp [] 0) rfl rfl) hx94) ?_
       rintro _ w173 ⟨k174, rfl, e175⟩
       obtain ⟨K176, S177, m178⟩ := Ent.mixed (l := []) (κ := K159) e175 30 rfl
       refine ⟨((S160.tr S177).cl rfl), ?_⟩
       refine WO.pn 2 rfl ?_
       obtain rfl := Option.some.inj h
       exact WO.met _ ((S160.tr S177).cl rfl) ⟨rfl, _, S177.wk rfl⟩ fun a ha => (ha.more (ha.more (ha.more (ha.more (ha.more (ha.more ha.nil rfl) rfl) rfl) rfl) rfl) rfl)
     rintro _ w180 _ ⟨rfl, K181, S182⟩
     have h := hK163
     refine WO.nx ?_
     refine WO.fin ?_
     refine DN.seq ?_
     revert h
     cases ht183 : p96 with
     | true =>
      intro h; replace h := cT h
      refine WC.ct rfl ?_
      refine WC.seq ?_
      refine WC.rs [(0, 2)] rfl ?_
      refine WO.pn 1 rfl ?_
      refine WO.fin ?_
      refine DN.seq ?_
      refine WC.ret ?_
      refine DN.retBlock ?_
      refine DN.retThen ?_
      refine DN.retThen ?_
      obtain rfl := Option.some.inj h
      obtain rfl := Option.some.inj hk143
      have h := hK135
      dsimp only [aft] at h
      refine DN.retBlock ?_
      refine DN.retMeet ?_
      refine DN.retThen ?_
      have f184 := hE.stp (S5.tr (S17.tr (S27.tr (S37.tr (S43.tr (S46.tr (S57.tr (S65.tr (S68.tr (S78.tr (S89.tr (S96.tr (S99.tr (S101.tr (S109.tr (S116.tr (S131.tr (S142.tr (S146.tr (S160.tr S182)))))))))))))))))))) rfl rfl
      refine DN.res (l := [.tmp 2]) Tryd.results8 (res_tmp rfl rfl) rfl ?_
      obtain rfl := Option.some.inj h
      exact ⟨K181, rfl, f184⟩
     | false =>
      intro h; replace h := cF h
      refine WC.cf rfl ?_
      refine WC.skip ?_
      refine DN.block ?_
      refine DN.seq ?_
      refine WC.rs [(0, 2), (1, 2), (2, 2)] rfl ?_
      refine WO.pn 3 rfl ?_
      refine WO.fin ?_
      have hw134 : IntKind.wrap .i64 (v9 + 1) = v9 + 1 := wr1 hj134 (of_decide_eq_true hc134) hN134
      rw [hw134]
      have hc134 := of_decide_eq_true hc134
      obtain rfl := Option.some.inj h
      refine DN.round fun a ha => ?_
      exact ⟨k, _, Nat.lt_succ_self _, ⟨K181, v9 + 1, rfl, (S142.tr (S146.tr (S160.tr S182))).wk rfl, by omega, by omega, hk143⟩, (ha.more (ha.more (ha.more (ha.more (ha.more ha.nil rfl) rfl) rfl) rfl) rfl)⟩
   rintro _ w137 ⟨K138, rfl, S139, rfl⟩
   have h := hK135
   dsimp only [aft] at h
   refine DN.seq ?_
   refine WC.seq ?_
   refine WC.rs [(0, 1), (1, 2), (2, 2), (3, 1), (4, 2), (5, 2), (6, 2), (7, 1), (8, 1), (9, 2)] rfl ?_
   have f185 := f81.stp (S89.tr (S96.tr (S99.tr (S101.tr (S109.tr (S116.tr (S131.tr S139))))))) rfl rfl
   refine WO.k1 trivial rfl rfl rfl rfl (rn_la (cs := [.int .i64 (IntKind.i64.wrap (1 + x17.1)), .int .i64 (IntKind.i64.wrap (1 + x20.1))]) Tryd.isAgg40 Tryd.sizeOf40 rfl rfl rfl (haE f185.cells)) ?_
   refine WO.pn 1 rfl ?_
   obtain ⟨x100, hx100, h⟩ := Option.bind_eq_some_iff.mp h
   refine WO.k2 rfl rfl rfl rfl (rn_addS rfl rfl rfl hx100) ?_
   obtain ⟨x101, hx101, h⟩ := Option.bind_eq_some_iff.mp h
   have f186 := f82.stp (S89.tr (S96.tr (S99.tr (S101.tr (S109.tr (S116.tr (S131.tr S139))))))) rfl rfl
   refine WO.call rfl rfl rfl rfl rfl rfl Tryd.call24 (i_TextMachine_ok (κ := fun b => mp [] 0 (K138 b)) (p0 := (⟨(IntKind.i64.wrap (1 + x17.1)), (IntKind.i64.wrap (1 + x20.1))⟩ : Sig)) (f186.map (mp [] 0) rfl rfl) hx101) ?_
   rintro _ w187 ⟨k188, a101_0, u101_0, a101_1, u101_1, rfl, e189, f190, f191⟩
   obtain ⟨K192, S193, m194⟩ := Ent.mixed (l := []) (κ := K138) e189 28 rfl
   refine ⟨trivial, ?_⟩
   have f196 := f190.mx (no_own (no_int _) _) m194 rfl (rfl : 28 + 2 = 30)
   have f197 := f191.mx (no_own (no_int _) _) m194 rfl (rfl : 28 + 3 = 31)
   refine WO.pn 3 rfl ?_
   refine WO.alloc (κ := K192) 32 rfl rfl rfl rfl rfl Tryd.zeroValue42 rfl fun b10 w198 K199 S200 f201 => ⟨trivial, ?_⟩
   refine WO.stB0 (κ := K199) 32 (vc := [.slice a101_0 x101.1.Next.length u101_0, .slice a101_1 x101.1.Out.length u101_1]) rfl rfl rfl rfl rfl rfl rfl Tryd.sizeOf42 rfl rfl f201 rfl fun w202 S203 f204 => ⟨trivial, ?_⟩
   refine WO.pn 1 rfl ?_
   refine WO.fin ?_
   refine DN.seq ?_
   refine WC.seq ?_
   refine WC.rs [(0, 2), (1, 2), (2, 2)] rfl ?_
   refine WO.pn 3 rfl ?_
   refine WO.fin ?_
   refine DN.seq ?_
   refine WC.ret ?_
   have f205 := hE.stp (S5.tr (S17.tr (S27.tr (S37.tr (S43.tr (S46.tr (S57.tr (S65.tr (S68.tr (S78.tr (S89.tr (S96.tr (S99.tr (S101.tr (S109.tr (S116.tr (S131.tr (S139.tr (S193.tr (S200.tr S203)))))))))))))))))))) rfl rfl
   refine DN.res (l := [.tmp 2]) Tryd.results8 (res_tmp rfl rfl) rfl ?_
   obtain rfl := Option.some.inj h
   exact ⟨K199, rfl, f205⟩

end Go.Proofs.YtnpmbkaoeihdmaaDoor
