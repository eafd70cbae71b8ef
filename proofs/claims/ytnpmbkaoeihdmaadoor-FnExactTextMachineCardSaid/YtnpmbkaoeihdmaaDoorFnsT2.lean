/- The walks, part 2. By program. -/
import Derived.Test.YtnpmbkaoeihdmaaDoorText
import Derived.Test.YtnpmbkaoeihdmaaDoorShelf
import Derived.Test.YtnpmbkaoeihdmaaDoorFnsT1
set_option linter.unusedVariables false
set_option linter.unusedSimpArgs false
namespace Go.Proofs.YtnpmbkaoeihdmaaDoor
open Go Go.Wk Go.Proofs
set_option maxRecDepth 100000
set_option maxHeartbeats 1000000

/- loop.example/g00869/spec.TextMachine -/
theorem s_TextMachine_ok {w : World} {κ : Col} {p0 : Sig} {p1 : ByteArray}  {r : Machine × Bool} (h : s_TextMachine p0 p1 = some r) : Ret Tryd.prog 23 [.agg #[.int .i64 p0.In, .int .i64 p0.Out], .string p1] w (fun v w' => ∃ (κ' : Col) (ra0 : Option Addr) (ru0 : Nat) (ra1 : Option Addr) (ru1 : Nat), v = .tuple #[.agg #[.slice ra0 r.1.Next.length ru0, .slice ra1 r.1.Out.length ru1], .bool r.2] ∧ Ent κ w κ' w' ∧ Oc (Ep.own (Ep.int .i64) 2) 60 κ' w' 2 ra0 ru0 r.1.Next ∧ Oc (Ep.own (Ep.int .i64) 2) 60 κ' w' 3 ra1 ru1 r.1.Out) := by
 unfold s_TextMachine at h
 refine Ret.enter Tryd.func23 rfl Tryd.ntmps23 rfl ?_
 dsimp only [envOf]
 have hE := Ent.refl κ w
 refine WC.seq ?_
 refine WC.rs [(0, 1), (1, 1), (2, 2)] rfl ?_
 refine WO.box (κ := κ) 2 rfl rfl rfl rfl rfl rfl rfl fun b2 w1 K2 S3 f4 => ⟨trivial, ?_⟩
 refine WO.alloc (κ := K2) 3 rfl rfl rfl rfl rfl Tryd.zeroValue42 rfl fun b4 w5 K6 S7 f8 => ⟨trivial, ?_⟩
 refine WO.pn 1 rfl ?_
 refine WO.fin ?_
 refine DN.seq ?_
 refine WC.seq ?_
 refine WC.seq ?_
 refine WC.rs [(0, 2), (1, 2), (2, 2)] rfl ?_
 refine WO.pn 1 rfl ?_
 refine WO.k2 rfl rfl rfl rfl (rn_lenS Tryd.runUnderlying9 rfl rfl) ?_
 refine WO.pn 1 rfl ?_
 refine WO.fin ?_
 refine DN.seq ?_
 revert h
 cases ht9 : decide (20000 < (p1.size : Int)) with
 | true =>
  intro h; replace h := cT h
  refine WC.ct rfl ?_
  refine WC.seq ?_
  refine WC.rs [(0, 2), (1, 1), (2, 2)] rfl ?_
  refine WO.k2 rfl rfl rfl rfl (rn_build (parts := []) (cells := [.slice none 0 0, .slice none 0 0]) rfl rfl (by kernel_rfl)) ?_
  refine WO.stB0 (κ := K6) 3 (vc := [.slice none 0 0, .slice none 0 0]) rfl rfl rfl rfl rfl rfl rfl Tryd.sizeOf42 rfl rfl f8 rfl fun w10 S11 f12 => ⟨trivial, ?_⟩
  refine WO.pn 1 rfl ?_
  refine WO.fin ?_
  refine DN.seq ?_
  refine WC.ret ?_
  refine DN.retThen ?_
  have f13 := hE.stp (S3.tr (S7.tr S11)) rfl rfl
  refine DN.res (l := [.cell 4 42, .tmp 5]) Tryd.results23 (res_cellA rfl f12 Tryd.isAgg42 Tryd.sizeOf42 rfl (res_tmp rfl rfl)) rfl ?_
  obtain rfl := Option.some.inj h
  exact ⟨K6, none, 0, none, 0, rfl, f13, Ow.nil, Ow.nil⟩
 | false =>
  intro h; replace h := cF h
  refine WC.cf rfl ?_
  refine WC.skip ?_
  refine DN.seq ?_
  refine WC.seq ?_
  refine WC.rs [(0, 2), (1, 1), (2, 2), (3, 2), (4, 2), (5, 2), (6, 2)] rfl ?_
  refine WO.pn 1 rfl ?_
  obtain ⟨x18, hx18, h⟩ := Option.bind_eq_some_iff.mp h
  refine WO.call rfl rfl rfl rfl rfl rfl Tryd.call53 (s_l13Lines_ok (κ := fun b => mp [] 1 (K6 b)) hx18) ?_
  rintro _ w14 ⟨k15, a18_0, u18_0, rfl, e16, f17⟩
  obtain ⟨K18, S19, m20, z21⟩ := Ent.mixed0 (l := []) (κ := K6) e16 4 rfl
  refine ⟨trivial, ?_⟩
  have f22 := f17.mx z21
  refine WO.pn 5 rfl ?_
  refine WO.fin ?_
  refine DN.seq ?_
  refine WC.seq ?_
  refine WC.rs [(0, 2), (1, 1), (2, 1)] rfl ?_
  refine WO.k2 rfl rfl rfl rfl (rn_build (parts := []) (cells := [.slice none 0 0, .slice none 0 0]) rfl rfl (by kernel_rfl)) ?_
  refine WO.alloc (κ := K18) 7 rfl rfl rfl rfl rfl Tryd.zeroValue42 rfl fun b8 w23 K24 S25 f26 => ⟨trivial, ?_⟩
  refine WO.stB0 (κ := K24) 7 (vc := [.slice none 0 0, .slice none 0 0]) rfl rfl rfl rfl rfl rfl rfl Tryd.sizeOf42 rfl rfl f26 rfl fun w27 S28 f29 => ⟨trivial, ?_⟩
  refine WO.fin ?_
  refine DN.seq ?_
  refine WC.seq ?_
  refine WC.seq ?_
  refine WC.rs [(0, 2)] rfl ?_
  refine WO.pn 1 rfl ?_
  refine WO.fin ?_
  refine DN.seq ?_
  have hN30 : (x18.1.length : Int) ≤ 9223372036854775807 := f22.len_le
  obtain ⟨q2, hq32, hK31⟩ := Option.bind_eq_some_iff.mp h
  clear h
  refine WC.meet (fun L w' => ∃ (κ' : Col) (s3 : (List (List Int)) × (List (List Int))) (las3_0 : Option Addr) (lus3_0 : Nat) (las3_1 : Option Addr) (lus3_1 : Nat), L = [(2, .pointer (some ⟨b2, 0, none⟩)), (4, .pointer (some ⟨b4, 0, none⟩)), (7, .bool x18.2), (8, .pointer (some ⟨b8, 0, none⟩))] ∧ Stp [7, 8, 9, 10, 11, 14, 15, 16] K24 w27 κ' w' ∧ Oc (Ep.own (Ep.int .i64) 2) 60 κ' w' 8 las3_0 lus3_0 s3.1 ∧ Oc (Ep.own (Ep.int .i64) 2) 60 κ' w' 9 las3_1 lus3_1 s3.2 ∧ Bc κ' w' 7 b8 42 [.slice las3_0 s3.1.length lus3_0, .slice las3_1 s3.2.length lus3_1] ∧ q2 = Sum.inr s3) ?_ ?_
  ·
   refine WC.block ?_
   refine WC.loop (fun k L w' => ∃ (κ' : Col) (v9 : Int) (s1 : (List (List Int)) × (List (List Int))) (las1_0 : Option Addr) (lus1_0 : Nat) (las1_1 : Option Addr) (lus1_1 : Nat), L = [(2, .pointer (some ⟨b2, 0, none⟩)), (4, .pointer (some ⟨b4, 0, none⟩)), (6, .slice a18_0 x18.1.length u18_0), (7, .bool x18.2), (8, .pointer (some ⟨b8, 0, none⟩)), (9, .int .i64 v9)] ∧ Stp [7, 8, 9, 10, 11, 14, 15, 16] K24 w27 κ' w' ∧ Oc (Ep.own (Ep.int .i64) 2) 60 κ' w' 8 las1_0 lus1_0 s1.1 ∧ Oc (Ep.own (Ep.int .i64) 2) 60 κ' w' 9 las1_1 lus1_1 s1.2 ∧ Bc κ' w' 7 b8 42 [.slice las1_0 s1.1.length lus1_0, .slice las1_1 s1.2.length lus1_1] ∧ 0 ≤ v9 ∧ Int.toNat ((x18.1.length : Int) - v9) = k ∧ cntM (s_TextMachine_b0 x18) k v9 s1 = some q2) ⟨_, _, ⟨K24, 0, ((([] : List (List Int)) : (List (List Int))), (([] : List (List Int)) : (List (List Int)))), none, 0, none, 0, rfl, (Stp.refl _ _).wk rfl, Ow.nil, Ow.nil, f29, (by decide), (by simp), hq32⟩, fun a ha => (ha.more (ha.more (ha.more (ha.more (ha.more (ha.more ha.nil rfl) rfl) rfl) rfl) rfl) rfl)⟩ ?_
   rintro k _ w39 ⟨K40, v9, s1, las1_0, lus1_0, las1_1, lus1_1, rfl, S41, f42, f43, f44, hj30, hJ30, h⟩
   rcases k with _ | k
   ·
    have hk45 := h; obtain ⟨o30, h⟩ := ex_eq (Sum.inr (Sum.inl s1) : (Machine × Bool) ⊕ (((List (List Int)) × (List (List Int))) ⊕ ((List (List Int)) × (List (List Int)))))
    have hc30 : decide (v9 < (x18.1.length : Int)) = false := decide_eq_false (by omega)
    refine WC.seq ?_
    refine WC.seq ?_
    refine WC.rs [(0, 2), (1, 2), (2, 2), (3, 2)] rfl ?_
    refine WO.pn 2 rfl ?_
    refine WO.k2 rfl rfl rfl rfl (rn_len Tryd.runUnderlying57 rfl rfl) ?_
    refine WO.pn 1 rfl ?_
    refine WO.fin ?_
    refine DN.seq ?_
    refine WC.cf' rfl hc30 ?_
    refine WC.exit ?_
    refine DN.exitThen ?_
    refine DN.exitThen ?_
    obtain rfl := Option.some.inj h
    have h := hk45
    refine DN.hit ?_
    obtain rfl := Option.some.inj h
    exact DN.meet _ ⟨K40, ((s1.1 : (List (List Int))), (s1.2 : (List (List Int)))), las1_0, lus1_0, las1_1, lus1_1, rfl, S41.wk rfl, f42, f43, f44, rfl⟩ fun a ha => (ha.more (ha.more (ha.more (ha.more ha.nil rfl) rfl) rfl) rfl)
   ·
    obtain ⟨o30, h, hk45⟩ := Option.bind_eq_some_iff.mp h; unfold s_TextMachine_b0 at h
    have hc30 : decide (v9 < (x18.1.length : Int)) = true := decide_eq_true (by omega)
    refine WC.seq ?_
    refine WC.seq ?_
    refine WC.rs [(0, 2), (1, 2), (2, 2), (3, 2)] rfl ?_
    refine WO.pn 2 rfl ?_
    refine WO.k2 rfl rfl rfl rfl (rn_len Tryd.runUnderlying57 rfl rfl) ?_
    refine WO.pn 1 rfl ?_
    refine WO.fin ?_
    refine DN.seq ?_
    refine WC.ct' rfl hc30 ?_
    refine WC.skip ?_
    refine DN.seq ?_
    refine WC.seq ?_
    refine WC.block ?_
    refine WC.seq ?_
    obtain ⟨x32, hx32, h⟩ := Option.bind_eq_some_iff.mp h
    obtain ⟨x34, hx34, h⟩ := Option.bind_eq_some_iff.mp h
    refine WC.meet (fun L w' => ∃ (κ' : Col) (b10 : Nat) (lar49_0 : Option Addr) (lur49_0 : Nat) (lar49_1 : Option Addr) (lur49_1 : Nat), L = [(2, .pointer (some ⟨b2, 0, none⟩)), (4, .pointer (some ⟨b4, 0, none⟩)), (6, .slice a18_0 x18.1.length u18_0), (7, .bool x18.2), (8, .pointer (some ⟨b8, 0, none⟩)), (9, .int .i64 v9), (10, .pointer (some ⟨b10, 0, none⟩)), (11, .bool x34.2)] ∧ Stp [8, 9, 10, 14, 15, 16] K40 w39 κ' w' ∧ Oc (Ep.own (Ep.int .i64) 2) 60 κ' w' 10 lar49_0 lur49_0 x34.1.Next ∧ Oc (Ep.own (Ep.int .i64) 2) 60 κ' w' 11 lar49_1 lur49_1 x34.1.Out ∧ Bc κ' w' 12 b10 42 [.slice lar49_0 x34.1.Next.length lur49_0, .slice lar49_1 x34.1.Out.length lur49_1]) ?_ ?_
    ·
     refine WC.rxt (κ := K40) [0, 7] none (by kernel_rfl) fun w53 S54 => ?_
     refine WA.seg (fuel := 7) [(1, 2), (2, 2), (3, 2), (0, 0), (4, 0)] (by kernel_rfl) (by kernel_rfl) rfl ?_
     refine WO.pn 2 rfl ?_
     refine WO.k2 rfl rfl rfl rfl (rn_index f22 hx32 Tryd.runUnderlying57 Tryd.sizeOf9 rfl rfl rfl rfl) ?_
     have f55 := f44.stp S54 rfl rfl
     refine WO.k0 rfl rfl rfl rfl (rn_la (cs := [.slice las1_0 s1.1.length lus1_0, .slice las1_1 s1.2.length lus1_1]) Tryd.isAgg42 Tryd.sizeOf42 rfl rfl rfl (haC f55.cells rfl)) ?_
     have f56 := f22.stp (S25.tr (S28.tr (S41.tr S54))) rfl rfl
     refine WO.k0 rfl rfl rfl rfl (rn_ld Tryd.isAgg9 rfl rfl (hvC (f56.gStr hx32) rfl)) ?_
     refine WO.wa ?_
     refine WA.fork2 (fuel := 6) 5 9 (by kernel_rfl) rfl ?_ ?_
     ·
      have f57 := f42.stp S54 rfl rfl
      have f58 := f43.stp S54 rfl rfl
      refine WO.call rfl rfl rfl rfl rfl rfl Tryd.call54 (s_l29State_ok (κ := fun b => mp [(8, 2), (9, 3)] 0 (K40 b)) (p0 := (⟨s1.1, s1.2⟩ : Machine)) (f57.map (mp [(8, 2), (9, 3)] 0) rfl rfl) (f58.map (mp [(8, 2), (9, 3)] 0) rfl rfl) hx34) ?_
      rintro _ w59 ⟨k60, a34_0, u34_0, a34_1, u34_1, rfl, e61, f62, f63⟩
      obtain ⟨K64, S65, m66⟩ := Ent.mixed (l := [(8, 2), (9, 3)]) (κ := K40) e61 10 rfl
      refine ⟨(S65.cl rfl), ?_⟩
      have f68 := f62.mx (no_own (no_int _) _) m66 rfl (rfl : 10 + 4 = 14)
      have f69 := f63.mx (no_own (no_int _) _) m66 rfl (rfl : 10 + 5 = 15)
      refine WO.wa ?_
      refine WA.seg (fuel := 0) [(6, 2), (7, 2), (8, 2), (9, 1), (10, 1), (11, 2)] (by kernel_rfl) (by kernel_rfl) rfl ?_
      refine WO.pn 3 rfl ?_
      refine WO.alloc (κ := K64) 16 rfl rfl rfl rfl rfl Tryd.zeroValue42 rfl fun b10 w70 K71 S72 f73 => ⟨((S65.tr S72).cl rfl), ?_⟩
      refine WO.stB0 (κ := K71) 16 (vc := [.slice a34_0 x34.1.Next.length u34_0, .slice a34_1 x34.1.Out.length u34_1]) rfl rfl rfl rfl rfl rfl rfl Tryd.sizeOf42 rfl rfl f73 rfl fun w74 S75 f76 => ⟨((S65.tr (S72.tr S75)).cl rfl), ?_⟩
      refine WO.pn 1 rfl ?_
      refine WO.wa ?_
      refine WA.last [] (by kernel_rfl) (by kernel_rfl) rfl ?_
      refine WO.fin ?_
      have f77 := f68.stp (S72.tr S75) rfl rfl
      have f78 := f69.stp (S72.tr S75) rfl rfl
      exact DN.meet _ ⟨(fun b => ren [(14, 10), (15, 11), (16, 12)] (K71 b)), b10, a34_0, u34_0, a34_1, u34_1, rfl, (Stp.ren ((S54.tr (S65.tr (S72.tr S75))).wk rfl) [(14, 10), (15, 11), (16, 12)] rfl), (f77.map (ren [(14, 10), (15, 11), (16, 12)]) rfl rfl), (f78.map (ren [(14, 10), (15, 11), (16, 12)]) rfl rfl), (f76.map (ren [(14, 10), (15, 11), (16, 12)]) rfl rfl)⟩ fun a ha => (ha.more (ha.more (ha.more (ha.more (ha.more (ha.more (ha.more (ha.more ha.nil rfl) rfl) rfl) rfl) rfl) rfl) rfl) rfl)
     ·
      refine WO.alloc (κ := K40) 10 rfl rfl rfl rfl rfl Tryd.zeroValue42 rfl fun b10 w79 K80 S81 f82 => ⟨(S81.cl rfl), ?_⟩
      refine WO.wa ?_
      refine WA.seg (fuel := 0) [(5, 1), (6, 2), (7, 2), (8, 2), (10, 1), (11, 2)] (by kernel_rfl) (by kernel_rfl) rfl ?_
      have f83 := f42.stp (S54.tr S81) rfl rfl
      have f84 := f43.stp (S54.tr S81) rfl rfl
      refine WO.call rfl rfl rfl rfl rfl rfl Tryd.call54 (s_l29State_ok (κ := fun b => mp [(8, 2), (9, 3)] 0 (K80 b)) (p0 := (⟨s1.1, s1.2⟩ : Machine)) (f83.map (mp [(8, 2), (9, 3)] 0) rfl rfl) (f84.map (mp [(8, 2), (9, 3)] 0) rfl rfl) hx34) ?_
      rintro _ w85 ⟨k86, a34_0, u34_0, a34_1, u34_1, rfl, e87, f88, f89⟩
      obtain ⟨K90, S91, m92⟩ := Ent.mixed (l := [(8, 2), (9, 3)]) (κ := K80) e87 11 rfl
      refine ⟨((S81.tr S91).cl rfl), ?_⟩
      have f94 := f88.mx (no_own (no_int _) _) m92 rfl (rfl : 11 + 4 = 15)
      have f95 := f89.mx (no_own (no_int _) _) m92 rfl (rfl : 11 + 5 = 16)
      refine WO.pn 3 rfl ?_
      have f96 := f82.stp S91 rfl rfl
      refine WO.stB0 (κ := K90) 10 (vc := [.slice a34_0 x34.1.Next.length u34_0, .slice a34_1 x34.1.Out.length u34_1]) rfl rfl rfl rfl rfl rfl rfl Tryd.sizeOf42 rfl rfl f96 rfl fun w97 S98 f99 => ⟨((S81.tr (S91.tr S98)).cl rfl), ?_⟩
      refine WO.pn 1 rfl ?_
      refine WO.wa ?_
      refine WA.last [] (by kernel_rfl) (by kernel_rfl) rfl ?_
      refine WO.fin ?_
      have f100 := f94.stp S98 rfl rfl
      have f101 := f95.stp S98 rfl rfl
      exact DN.meet _ ⟨(fun b => ren [(15, 10), (16, 11), (10, 12)] (K90 b)), b10, a34_0, u34_0, a34_1, u34_1, rfl, (Stp.ren ((S54.tr (S81.tr (S91.tr S98))).wk rfl) [(15, 10), (16, 11), (10, 12)] rfl), (f100.map (ren [(15, 10), (16, 11), (10, 12)]) rfl rfl), (f101.map (ren [(15, 10), (16, 11), (10, 12)]) rfl rfl), (f99.map (ren [(15, 10), (16, 11), (10, 12)]) rfl rfl)⟩ fun a ha => (ha.more (ha.more (ha.more (ha.more (ha.more (ha.more (ha.more (ha.more ha.nil rfl) rfl) rfl) rfl) rfl) rfl) rfl) rfl)
    rintro _ w46 ⟨K47, b10, lar49_0, lur49_0, lar49_1, lur49_1, rfl, S48, f50, f51, f52⟩
    refine DN.seq ?_
    refine WC.seq ?_
    refine WC.seq ?_
    refine WC.rs [(0, 2), (1, 2)] rfl ?_
    refine WO.pn 2 rfl ?_
    refine WO.fin ?_
    refine DN.seq ?_
    revert h
    cases ht102 : (!x34.2) with
    | true =>
     intro h; replace h := cT h
     refine WC.ct rfl ?_
     refine WC.seq ?_
     refine WC.rs [(0, 2), (1, 1), (2, 2)] rfl ?_
     refine WO.k2 rfl rfl rfl rfl (rn_build (parts := []) (cells := [.slice none 0 0, .slice none 0 0]) rfl rfl (by kernel_rfl)) ?_
     have f103 := f8.stp (S19.tr (S25.tr (S28.tr (S41.tr S48)))) rfl rfl
     refine WO.stB0 (κ := K47) 3 (vc := [.slice none 0 0, .slice none 0 0]) rfl rfl rfl rfl rfl rfl rfl Tryd.sizeOf42 rfl rfl f103 rfl fun w104 S105 f106 => ⟨trivial, ?_⟩
     refine WO.pn 1 rfl ?_
     refine WO.fin ?_
     refine DN.seq ?_
     refine WC.ret ?_
     refine DN.retThen ?_
     refine DN.retBlock ?_
     refine DN.retThen ?_
     refine DN.retThen ?_
     obtain rfl := Option.some.inj h
     obtain rfl := Option.some.inj hk45
     have h := hK31
     dsimp only [aft] at h
     refine DN.retBlock ?_
     refine DN.retMeet ?_
     refine DN.retThen ?_
     have f107 := hE.stp (S3.tr (S7.tr (S19.tr (S25.tr (S28.tr (S41.tr (S48.tr S105))))))) rfl rfl
     refine DN.res (l := [.cell 4 42, .tmp 5]) Tryd.results23 (res_cellA rfl f106 Tryd.isAgg42 Tryd.sizeOf42 rfl (res_tmp rfl rfl)) rfl ?_
     obtain rfl := Option.some.inj h
     exact ⟨K47, none, 0, none, 0, rfl, f107, Ow.nil, Ow.nil⟩
    | false =>
     intro h; replace h := cF h
     refine WC.cf rfl ?_
     refine WC.skip ?_
     refine DN.seq ?_
     refine WC.rs [(0, 1), (1, 1)] rfl ?_
     refine WO.k1 trivial rfl rfl rfl rfl (rn_la (cs := [.slice lar49_0 x34.1.Next.length lur49_0, .slice lar49_1 x34.1.Out.length lur49_1]) Tryd.isAgg42 Tryd.sizeOf42 rfl rfl rfl (haE f52.cells)) ?_
     have f108 := f44.stp S48 rfl rfl
     refine WO.stB0 (κ := K47) 7 (vc := [.slice lar49_0 x34.1.Next.length lur49_0, .slice lar49_1 x34.1.Out.length lur49_1]) rfl rfl rfl rfl rfl rfl rfl Tryd.sizeOf42 rfl rfl f108 rfl fun w109 S110 f111 => ⟨trivial, ?_⟩
     refine WO.fin ?_
     refine DN.block ?_
     refine DN.seq ?_
     refine WC.rs [(0, 2), (1, 2), (2, 2)] rfl ?_
     refine WO.pn 3 rfl ?_
     refine WO.fin ?_
     have hw30 : IntKind.wrap .i64 (v9 + 1) = v9 + 1 := wr1 hj30 (of_decide_eq_true hc30) hN30
     rw [hw30]
     have hc30 := of_decide_eq_true hc30
     have f112 := f50.stp S110 rfl rfl
     have f113 := f51.stp S110 rfl rfl
     obtain rfl := Option.some.inj h
     refine DN.round fun a ha => ?_
     exact ⟨k, _, Nat.lt_succ_self _, ⟨(fun b => ren [(10, 8), (11, 9)] (K47 b)), v9 + 1, ((x34.1.Next : (List (List Int))), (x34.1.Out : (List (List Int)))), lar49_0, lur49_0, lar49_1, lur49_1, rfl, (Stp.ren ((S41.tr (S48.tr S110)).wk rfl) [(10, 8), (11, 9)] rfl), (f112.map (ren [(10, 8), (11, 9)]) rfl rfl), (f113.map (ren [(10, 8), (11, 9)]) rfl rfl), (f111.map (ren [(10, 8), (11, 9)]) rfl rfl), by omega, by omega, hk45⟩, (ha.more (ha.more (ha.more (ha.more (ha.more (ha.more ha.nil rfl) rfl) rfl) rfl) rfl) rfl)⟩
  rintro _ w33 ⟨K34, s3, las3_0, lus3_0, las3_1, lus3_1, rfl, S35, f36, f37, f38, rfl⟩
  have h := hK31
  dsimp only [aft] at h
  refine DN.seq ?_
  refine WC.seq ?_
  refine WC.seq ?_
  refine WC.rs [(0, 2), (1, 2), (2, 1), (3, 1), (4, 1), (5, 2), (6, 2)] rfl ?_
  refine WO.pn 2 rfl ?_
  obtain ⟨p47, h, hK114⟩ := Option.bind_eq_some_iff.mp h
  refine WO.meet [(2, 1), (3, 1), (4, 1), (5, 2), (6, 2)] [] (fun L w' => L = [(4, .pointer (some ⟨b4, 0, none⟩)), (8, .pointer (some ⟨b8, 0, none⟩)), (47, .bool p47)] ∧ ∃ κ', Stp [] K34 w33 κ' w') trivial ?_ ?_
  ·
   revert h
   cases ht115 : x18.2 with
   | true =>
    intro h; replace h := cT h
    refine WO.ls rfl rfl rfl rfl ?_
    refine WO.ls rfl rfl rfl rfl ?_
    refine WO.ls rfl rfl rfl rfl ?_
    refine WO.pn 2 rfl ?_
    obtain rfl := Option.some.inj h
    exact WO.met _ trivial ⟨rfl, _, (Stp.refl _ _).wk rfl⟩ fun a ha => (ha.more (ha.more (ha.more ha.nil rfl) rfl) rfl)
   | false =>
    intro h; replace h := cF h
    have f116 := f4.stp (S7.tr (S19.tr (S25.tr (S28.tr S35)))) rfl rfl
    refine WO.k1 trivial rfl rfl rfl rfl (rn_la (cs := [.int .i64 p0.In, .int .i64 p0.Out]) Tryd.isAgg40 Tryd.sizeOf40 rfl rfl rfl (haE f116.cells)) ?_
    refine WO.k1 trivial rfl rfl rfl rfl (rn_la (cs := [.slice las3_0 s3.1.length lus3_0, .slice las3_1 s3.2.length lus3_1]) Tryd.isAgg42 Tryd.sizeOf42 rfl rfl rfl (haE f38.cells)) ?_
    obtain ⟨x45, hx45, h⟩ := Option.bind_eq_some_iff.mp h
    refine WO.call rfl rfl rfl rfl rfl rfl Tryd.call44 (s_MachineOk_ok (κ := fun b => mp [] 0 (K34 b)) (p0 := p0) (p1 := (⟨s3.1, s3.2⟩ : Machine)) (Sl.map f36.rdc (mp [] 0) rfl rfl) (Sl.map f37.rdc (mp [] 0) rfl rfl) hx45) ?_
    rintro _ w117 ⟨k118, rfl, e119⟩
    obtain ⟨K120, S121, m122⟩ := Ent.mixed (l := []) (κ := K34) e119 10 rfl
    refine ⟨trivial, ?_⟩
    refine WO.pn 2 rfl ?_
    obtain rfl := Option.some.inj h
    exact WO.met _ trivial ⟨rfl, _, S121.wk rfl⟩ fun a ha => (ha.more (ha.more (ha.more ha.nil rfl) rfl) rfl)
  rintro _ w124 _ ⟨rfl, K125, S126⟩
  have h := hK114
  refine WO.fin ?_
  refine DN.seq ?_
  revert h
  cases ht127 : p47 with
  | true =>
   intro h; replace h := cT h
   refine WC.ct rfl ?_
   refine WC.seq ?_
   refine WC.rs [(0, 2), (1, 1), (2, 2)] rfl ?_
   refine WO.k2 rfl rfl rfl rfl (rn_build (parts := []) (cells := [.slice none 0 0, .slice none 0 0]) rfl rfl (by kernel_rfl)) ?_
   have f128 := f8.stp (S19.tr (S25.tr (S28.tr (S35.tr S126)))) rfl rfl
   refine WO.stB0 (κ := K125) 3 (vc := [.slice none 0 0, .slice none 0 0]) rfl rfl rfl rfl rfl rfl rfl Tryd.sizeOf42 rfl rfl f128 rfl fun w129 S130 f131 => ⟨trivial, ?_⟩
   refine WO.pn 1 rfl ?_
   refine WO.fin ?_
   refine DN.seq ?_
   refine WC.ret ?_
   refine DN.retThen ?_
   have f132 := hE.stp (S3.tr (S7.tr (S19.tr (S25.tr (S28.tr (S35.tr (S126.tr S130))))))) rfl rfl
   refine DN.res (l := [.cell 4 42, .tmp 5]) Tryd.results23 (res_cellA rfl f131 Tryd.isAgg42 Tryd.sizeOf42 rfl (res_tmp rfl rfl)) rfl ?_
   obtain rfl := Option.some.inj h
   exact ⟨K125, none, 0, none, 0, rfl, f132, Ow.nil, Ow.nil⟩
  | false =>
   intro h; replace h := cF h
   refine WC.cf rfl ?_
   refine WC.skip ?_
   refine DN.seq ?_
   refine WC.seq ?_
   refine WC.rs [(0, 1), (1, 1), (2, 2)] rfl ?_
   have f133 := f38.stp S126 rfl rfl
   refine WO.k1 trivial rfl rfl rfl rfl (rn_la (cs := [.slice las3_0 s3.1.length lus3_0, .slice las3_1 s3.2.length lus3_1]) Tryd.isAgg42 Tryd.sizeOf42 rfl rfl rfl (haE f133.cells)) ?_
   have f134 := f8.stp (S19.tr (S25.tr (S28.tr (S35.tr S126)))) rfl rfl
   refine WO.stB0 (κ := K125) 3 (vc := [.slice las3_0 s3.1.length lus3_0, .slice las3_1 s3.2.length lus3_1]) rfl rfl rfl rfl rfl rfl rfl Tryd.sizeOf42 rfl rfl f134 rfl fun w135 S136 f137 => ⟨trivial, ?_⟩
   refine WO.pn 1 rfl ?_
   refine WO.fin ?_
   refine DN.seq ?_
   refine WC.ret ?_
   have f138 := hE.stp (S3.tr (S7.tr (S19.tr (S25.tr (S28.tr (S35.tr (S126.tr S136))))))) rfl rfl
   have f139 := f36.stp (S126.tr S136) rfl rfl
   have f140 := f37.stp (S126.tr S136) rfl rfl
   refine DN.res (l := [.cell 4 42, .tmp 5]) Tryd.results23 (res_cellA rfl f137 Tryd.isAgg42 Tryd.sizeOf42 rfl (res_tmp rfl rfl)) rfl ?_
   obtain rfl := Option.some.inj h
   exact ⟨(fun b => ren [(8, 2), (9, 3)] (K125 b)), las3_0, lus3_0, las3_1, lus3_1, rfl, (f138.map (ren [(8, 2), (9, 3)]) rfl rfl), (f139.map (ren [(8, 2), (9, 3)]) rfl rfl), (f140.map (ren [(8, 2), (9, 3)]) rfl rfl)⟩

/- loop.example/g00869/impl.areLetters -/
theorem i_areLetters_ok {w : World} {κ : Col} {a0 : Option Addr} {u0 : Nat} {p0 : (List Int)} {p1 : Int} (g0 : Rd (Rp.int .i64) κ w 0 a0 u0 p0) {r : Bool} (h : i_areLetters p0 p1 = some r) : Ret Tryd.prog 71 [.slice a0 p0.length u0, .int .i64 p1] w (fun v w' => ∃ (κ' : Col), v = .bool r ∧ Ent κ w κ' w') := by
 unfold i_areLetters at h
 refine Ret.enter Tryd.func71 rfl Tryd.ntmps71 rfl ?_
 dsimp only [envOf]
 have hE := Ent.refl κ w
 refine WC.seq ?_
 refine WC.rs [(0, 1), (1, 2)] rfl ?_
 refine WO.box (κ := κ) 2 rfl rfl rfl rfl rfl rfl rfl fun b3 w1 K2 S3 f4 => ⟨trivial, ?_⟩
 refine WO.pn 1 rfl ?_
 refine WO.fin ?_
 refine DN.seq ?_
 refine WC.seq ?_
 refine WC.rs [(0, 2), (1, 2), (2, 1), (3, 2), (4, 2)] rfl ?_
 refine WO.pn 1 rfl ?_
 refine WO.k2 rfl rfl rfl rfl (rn_makeFunc (first := []) (captured := [.tmp 3]) rfl rfl rfl ⟨_, rfl⟩) ?_
 obtain ⟨x7, hx7, h⟩ := Option.bind_eq_some_iff.mp h
 have f5 := g0.stp S3 rfl rfl
 refine WO.call rfl rfl rfl rfl rfl rfl Tryd.call87 (slices_ContainsFunc_I_int64__i_areLetters_1_ok (κ := fun b => mp [] 0 (K2 b)) (Sl.map f5 (mp [] 0) rfl rfl) (f4.map (mp [] 0) rfl rfl) hx7) ?_
 rintro _ w6 ⟨k7, rfl, e8⟩
 obtain ⟨K9, S10, m11⟩ := Ent.mixed (l := []) (κ := K2) e8 3 rfl
 refine ⟨trivial, ?_⟩
 refine WO.pn 2 rfl ?_
 refine WO.fin ?_
 refine DN.seq ?_
 refine WC.ret ?_
 have f13 := hE.stp (S3.tr S10) rfl rfl
 refine DN.res (l := [.tmp 4]) Tryd.results71 (res_tmp rfl rfl) rfl ?_
 obtain rfl := Option.some.inj h
 exact ⟨K9, rfl, f13⟩

/- loop.example/g00869/impl.isMachine -/
theorem i_isMachine_ok {w : World} {κ : Col} {p0 : Sig} {a1_0 : Option Addr} {u1_0 : Nat} {a1_1 : Option Addr} {u1_1 : Nat} {p1 : Machine} (g1_0 : Rd (Rp.sl (Rp.int .i64)) κ w 0 a1_0 u1_0 p1.Next) (g1_1 : Rd (Rp.sl (Rp.int .i64)) κ w 0 a1_1 u1_1 p1.Out) {r : Bool} (h : i_isMachine p0 p1 = some r) : Ret Tryd.prog 48 [.agg #[.int .i64 p0.In, .int .i64 p0.Out], .agg #[.slice a1_0 p1.Next.length u1_0, .slice a1_1 p1.Out.length u1_1]] w (fun v w' => ∃ (κ' : Col), v = .bool r ∧ Ent κ w κ' w') := by
 unfold i_isMachine at h
 refine Ret.enter Tryd.func48 rfl Tryd.ntmps48 rfl ?_
 dsimp only [envOf]
 have hE := Ent.refl κ w
 refine WC.seq ?_
 refine WC.rs [(0, 1), (1, 1), (2, 2)] rfl ?_
 refine WO.box (κ := κ) 2 rfl rfl rfl rfl rfl rfl rfl fun b2 w1 K2 S3 f4 => ⟨trivial, ?_⟩
 refine WO.box (κ := K2) 3 rfl rfl rfl rfl rfl rfl rfl fun b3 w5 K6 S7 f8 => ⟨trivial, ?_⟩
 refine WO.pn 1 rfl ?_
 refine WO.fin ?_
 refine DN.seq ?_
 refine WC.seq ?_
 refine WC.rs [(0, 2), (1, 1), (2, 2), (3, 2)] rfl ?_
 refine WO.k2 rfl rfl rfl rfl (rn_fieldAddr Tryd.runUnderlying42 rfl Tryd.sizeOf35 rfl rfl) ?_
 refine WO.k1 trivial rfl rfl rfl rfl (rn_ld Tryd.isAgg35 rfl rfl (hvE (f8.ld 0 rfl rfl))) ?_
 refine WO.k2 rfl rfl rfl rfl (rn_len Tryd.runUnderlying35 rfl rfl) ?_
 refine WO.pn 1 rfl ?_
 refine WO.fin ?_
 refine DN.seq ?_
 refine WC.seq ?_
 refine WC.seq ?_
 refine WC.rs [(0, 2), (1, 2), (2, 2), (3, 2), (4, 2), (5, 2), (6, 2), (7, 2), (8, 1), (9, 2), (10, 2), (11, 1), (12, 2), (13, 2), (14, 2)] rfl ?_
 refine WO.pn 3 rfl ?_
 obtain ⟨p16, h, hK9⟩ := Option.bind_eq_some_iff.mp h
 refine WO.meet [(3, 2), (4, 2), (5, 2)] [(6, 2), (7, 2), (8, 1), (9, 2), (10, 2), (11, 1), (12, 2), (13, 2), (14, 2)] (fun L w' => L = [(2, .pointer (some ⟨b2, 0, none⟩)), (3, .pointer (some ⟨b3, 0, none⟩)), (5, .int .i64 (p1.Next.length : Int)), (16, .bool p16)] ∧ ∃ κ', Stp [] K6 w5 κ' w') trivial ?_ ?_
 ·
  revert h
  cases ht10 : decide ((p1.Next.length : Int) < 1) with
  | true =>
   intro h; replace h := cT h
   refine WO.pn 3 rfl ?_
   obtain rfl := Option.some.inj h
   exact WO.met _ trivial ⟨rfl, _, (Stp.refl _ _).wk rfl⟩ fun a ha => (ha.more (ha.more (ha.more (ha.more ha.nil rfl) rfl) rfl) rfl)
  | false =>
   intro h; replace h := cF h
   refine WO.pn 3 rfl ?_
   obtain rfl := Option.some.inj h
   exact WO.met _ trivial ⟨rfl, _, (Stp.refl _ _).wk rfl⟩ fun a ha => (ha.more (ha.more (ha.more (ha.more ha.nil rfl) rfl) rfl) rfl)
 rintro _ w11 _ ⟨rfl, K12, S13⟩
 have h := hK9
 refine WO.pn 1 rfl ?_
 obtain ⟨p25, h, hK14⟩ := Option.bind_eq_some_iff.mp h
 refine WO.meet [(7, 2), (8, 1), (9, 2), (10, 2), (11, 1), (12, 2), (13, 2), (14, 2)] [] (fun L w' => L = [(2, .pointer (some ⟨b2, 0, none⟩)), (3, .pointer (some ⟨b3, 0, none⟩)), (5, .int .i64 (p1.Next.length : Int)), (25, .bool p25)] ∧ ∃ κ', Stp [] K12 w11 κ' w') trivial ?_ ?_
 ·
  revert h
  cases ht15 : p16 with
  | true =>
   intro h; replace h := cT h
   refine WO.pn 1 rfl ?_
   refine WO.ls rfl rfl rfl rfl ?_
   refine WO.pn 2 rfl ?_
   refine WO.ls rfl rfl rfl rfl ?_
   refine WO.pn 3 rfl ?_
   obtain rfl := Option.some.inj h
   exact WO.met _ trivial ⟨rfl, _, (Stp.refl _ _).wk rfl⟩ fun a ha => (ha.more (ha.more (ha.more (ha.more ha.nil rfl) rfl) rfl) rfl)
  | false =>
   intro h; replace h := cF h
   refine WO.k2 rfl rfl rfl rfl (rn_fieldAddr Tryd.runUnderlying42 rfl Tryd.sizeOf35 rfl rfl) ?_
   have f16 := f8.stp S13 rfl rfl
   refine WO.k1 trivial rfl rfl rfl rfl (rn_ld Tryd.isAgg35 rfl rfl (hvE (f16.ld 1 rfl rfl))) ?_
   refine WO.k2 rfl rfl rfl rfl (rn_len Tryd.runUnderlying35 rfl rfl) ?_
   refine WO.k2 rfl rfl rfl rfl (rn_fieldAddr Tryd.runUnderlying42 rfl Tryd.sizeOf35 rfl rfl) ?_
   refine WO.k1 trivial rfl rfl rfl rfl (rn_ld Tryd.isAgg35 rfl rfl (hvE (f16.ld 0 rfl rfl))) ?_
   refine WO.k2 rfl rfl rfl rfl (rn_len Tryd.runUnderlying35 rfl rfl) ?_
   refine WO.pn 2 rfl ?_
   obtain rfl := Option.some.inj h
   exact WO.met _ trivial ⟨rfl, _, (Stp.refl _ _).wk rfl⟩ fun a ha => (ha.more (ha.more (ha.more (ha.more ha.nil rfl) rfl) rfl) rfl)
 rintro _ w17 _ ⟨rfl, K18, S19⟩
 have h := hK14
 refine WO.fin ?_
 refine DN.seq ?_
 revert h
 cases ht20 : p25 with
 | true =>
  intro h; replace h := cT h
  refine WC.ct rfl ?_
  refine WC.seq ?_
  refine WC.rs [(0, 2)] rfl ?_
  refine WO.pn 1 rfl ?_
  refine WO.fin ?_
  refine DN.seq ?_
  refine WC.ret ?_
  refine DN.retThen ?_
  have f21 := hE.stp (S3.tr (S7.tr (S13.tr S19))) rfl rfl
  refine DN.res (l := [.tmp 4]) Tryd.results48 (res_tmp rfl rfl) rfl ?_
  obtain rfl := Option.some.inj h
  exact ⟨K18, rfl, f21⟩
 | false =>
  intro h; replace h := cF h
  refine WC.cf rfl ?_
  refine WC.skip ?_
  refine DN.seq ?_
  refine WC.seq ?_
  refine WC.seq ?_
  refine WC.rs [(0, 2), (1, 1), (2, 2), (3, 2)] rfl ?_
  refine WO.k2 rfl rfl rfl rfl (rn_fieldAddr Tryd.runUnderlying42 rfl Tryd.sizeOf35 rfl rfl) ?_
  have f22 := f8.stp (S13.tr S19) rfl rfl
  refine WO.k1 trivial rfl rfl rfl rfl (rn_ld Tryd.isAgg35 rfl rfl (hvE (f22.ld 0 rfl rfl))) ?_
  refine WO.k2 rfl rfl rfl rfl (rn_len Tryd.runUnderlying35 rfl rfl) ?_
  refine WO.pn 1 rfl ?_
  refine WO.fin ?_
  refine DN.seq ?_
  have hN23 : (p1.Next.length : Int) ≤ 9223372036854775807 := g1_0.len_le
  obtain ⟨q2, hq25, hK24⟩ := Option.bind_eq_some_iff.mp h
  clear h
  refine WC.meet (fun L w' => ∃ (κ' : Col), L = [] ∧ Stp [] K18 w17 κ' w' ∧ q2 = Sum.inr ()) ?_ ?_
  ·
   refine WC.block ?_
   refine WC.loop (fun k L w' => ∃ (κ' : Col) (v29 : Int), L = [(2, .pointer (some ⟨b2, 0, none⟩)), (3, .pointer (some ⟨b3, 0, none⟩)), (5, .int .i64 (p1.Next.length : Int)), (27, .slice a1_0 p1.Next.length u1_0), (28, .int .i64 (p1.Next.length : Int)), (29, .int .i64 v29)] ∧ Stp [] K18 w17 κ' w' ∧ 0 ≤ v29 ∧ Int.toNat ((p1.Next.length : Int) - v29) = k ∧ cntM (i_isMachine_b0 p0 p1) k v29 () = some q2) ⟨_, _, ⟨K18, 0, rfl, (Stp.refl _ _).wk rfl, (by decide), (by simp), hq25⟩, fun a ha => (ha.more (ha.more (ha.more (ha.more (ha.more (ha.more ha.nil rfl) rfl) rfl) rfl) rfl) rfl)⟩ ?_
   rintro k _ w29 ⟨K30, v29, rfl, S31, hj23, hJ23, h⟩
   rcases k with _ | k
   ·
    have hk32 := h; obtain ⟨o23, h⟩ := ex_eq (Sum.inr (Sum.inl ()) : Bool ⊕ ((Unit) ⊕ (Unit)))
    have hc23 : decide (v29 < (p1.Next.length : Int)) = false := decide_eq_false (by omega)
    refine WC.seq ?_
    refine WC.rs [(0, 2)] rfl ?_
    refine WO.pn 1 rfl ?_
    refine WO.fin ?_
    refine DN.seq ?_
    refine WC.seq ?_
    refine WC.cf' rfl hc23 ?_
    refine WC.exit ?_
    refine DN.exitThen ?_
    refine DN.exitThen ?_
    obtain rfl := Option.some.inj h
    have h := hk32
    refine DN.hit ?_
    obtain rfl := Option.some.inj h
    exact DN.meet _ ⟨K30, rfl, S31.wk rfl, rfl⟩ fun a ha => ha.nil
   ·
    obtain ⟨o23, h, hk32⟩ := Option.bind_eq_some_iff.mp h; unfold i_isMachine_b0 at h
    have hc23 : decide (v29 < (p1.Next.length : Int)) = true := decide_eq_true (by omega)
    refine WC.seq ?_
    refine WC.rs [(0, 2)] rfl ?_
    refine WO.pn 1 rfl ?_
    refine WO.fin ?_
    refine DN.seq ?_
    refine WC.seq ?_
    refine WC.ct' rfl hc23 ?_
    refine WC.skip ?_
    refine DN.seq ?_
    refine WC.seq ?_
    refine WC.block ?_
    refine WC.seq ?_
    refine WC.rs [(0, 2), (1, 2), (2, 1), (3, 2), (4, 2)] rfl ?_
    refine WO.pn 1 rfl ?_
    obtain ⟨x32, hx32, h⟩ := Option.bind_eq_some_iff.mp h
    refine WO.k2 rfl rfl rfl rfl (rn_index g1_0 hx32 Tryd.runUnderlying35 Tryd.sizeOf60 rfl rfl rfl rfl) ?_
    have f33 := g1_0.stp (S3.tr (S7.tr (S13.tr (S19.tr S31)))) rfl rfl
    obtain ⟨ax32, ux32, f34, hl35⟩ := f33.gSl hx32
    refine WO.k1 trivial rfl rfl rfl rfl (rn_ld Tryd.isAgg60 rfl rfl (hvE hl35)) ?_
    refine WO.pn 2 rfl ?_
    refine WO.fin ?_
    refine DN.seq ?_
    refine WC.seq ?_
    refine WC.rx (κ := K30) [0, 2, 3] none [(0, 2), (1, 2), (2, 0), (3, 1), (4, 2), (5, 2), (6, 2), (8, 2), (12, 2), (13, 2), (7, 0), (9, 2), (10, 0), (11, 2), (14, 2), (15, 2), (16, 2), (17, 2), (18, 2), (19, 1), (20, 2), (21, 2), (22, 2), (23, 2), (25, 2), (28, 2), (24, 0), (26, 2), (27, 0), (29, 0), (30, 2), (31, 1), (32, 2), (33, 2)] [] (by kernel_rfl) (by kernel_rfl) fun w37 S36 => ?_
    refine WO.pn 1 rfl ?_
    refine WO.k2 rfl rfl rfl rfl (rn_len Tryd.runUnderlying60 rfl rfl) ?_
    have f38 := f4.stp (S7.tr (S13.tr (S19.tr (S31.tr S36)))) rfl rfl
    refine WO.k0 rfl rfl rfl rfl (rn_la (cs := [.int .i64 p0.In, .int .i64 p0.Out]) Tryd.isAgg40 Tryd.sizeOf40 rfl rfl rfl (haC f38.cells rfl)) ?_
    obtain ⟨x37, hx37, h⟩ := Option.bind_eq_some_iff.mp h
    refine WO.call rfl rfl rfl rfl rfl rfl Tryd.call70 (i_inputsOf_ok (κ := fun b => mp [] 0 (K30 b)) (p0 := p0) hx37) ?_
    rintro _ w39 ⟨k40, rfl, e41⟩
    obtain ⟨K42, S43, m44⟩ := Ent.mixed (l := []) (κ := K30) e41 4 rfl
    refine ⟨(S43.cl rfl), ?_⟩
    refine WO.pn 2 rfl ?_
    obtain ⟨p49, h, hK46⟩ := Option.bind_eq_some_iff.mp h
    refine WO.meet [(6, 2), (8, 2), (12, 2), (13, 2), (7, 0), (9, 2), (10, 0), (11, 2), (14, 2), (15, 2)] [(16, 2), (17, 2), (18, 2), (19, 1), (20, 2), (21, 2), (22, 2), (23, 2), (25, 2), (28, 2), (24, 0), (26, 2), (27, 0), (29, 0), (30, 2), (31, 1), (32, 2), (33, 2)] (fun L w' => L = [(2, .pointer (some ⟨b2, 0, none⟩)), (3, .pointer (some ⟨b3, 0, none⟩)), (5, .int .i64 (p1.Next.length : Int)), (6, .int .i64 v29), (7, .slice ax32 x32.length ux32), (27, .slice a1_0 p1.Next.length u1_0), (28, .int .i64 (p1.Next.length : Int)), (29, .int .i64 v29), (49, .bool p49)] ∧ ∃ κ', Stp [] K42 w39 κ' w') (S43.cl rfl) ?_ ?_
    ·
     revert h
     cases ht47 : ((x32.length : Int) != x37) with
     | true =>
      intro h; replace h := cT h
      refine WO.pn 4 rfl ?_
      refine WO.qs rfl rfl rfl rfl ?_
      refine WO.pn 1 rfl ?_
      refine WO.qs rfl rfl rfl rfl ?_
      refine WO.pn 3 rfl ?_
      obtain rfl := Option.some.inj h
      exact WO.met _ (S43.cl rfl) ⟨rfl, _, (Stp.refl _ _).wk rfl⟩ fun a ha => (ha.more (ha.more (ha.more (ha.more (ha.more (ha.more (ha.more (ha.more (ha.more ha.nil rfl) rfl) rfl) rfl) rfl) rfl) rfl) rfl) rfl)
     | false =>
      intro h; replace h := cF h
      refine WO.k2 rfl rfl rfl rfl (rn_fieldAddr Tryd.runUnderlying42 rfl Tryd.sizeOf35 rfl rfl) ?_
      refine WO.pn 2 rfl ?_
      refine WO.k2 rfl rfl rfl rfl (rn_len Tryd.runUnderlying60 rfl rfl) ?_
      have f48 := f22.stp (S31.tr S36) rfl rfl
      refine WO.k0 rfl rfl rfl rfl (rn_ld Tryd.isAgg35 rfl rfl (hvC (f48.ld 1 rfl rfl) rfl)) ?_
      obtain ⟨x43, hx43, h⟩ := Option.bind_eq_some_iff.mp h
      refine WO.k2 rfl rfl rfl rfl (rn_index g1_1 hx43 Tryd.runUnderlying35 Tryd.sizeOf60 rfl rfl rfl rfl) ?_
      have f49 := g1_1.stp (S3.tr (S7.tr (S13.tr (S19.tr (S31.tr S36))))) rfl rfl
      obtain ⟨ax43, ux43, f50, hl51⟩ := f49.gSl hx43
      refine WO.k0 rfl rfl rfl rfl (rn_ld Tryd.isAgg60 rfl rfl (hvC hl51 rfl)) ?_
      refine WO.k2 rfl rfl rfl rfl (rn_len Tryd.runUnderlying60 rfl rfl) ?_
      refine WO.pn 2 rfl ?_
      obtain rfl := Option.some.inj h
      exact WO.met _ (S43.cl rfl) ⟨rfl, _, (Stp.refl _ _).wk rfl⟩ fun a ha => (ha.more (ha.more (ha.more (ha.more (ha.more (ha.more (ha.more (ha.more (ha.more ha.nil rfl) rfl) rfl) rfl) rfl) rfl) rfl) rfl) rfl)
    rintro _ w52 _ ⟨rfl, K53, S54⟩
    have h := hK46
    refine WO.pn 1 rfl ?_
    obtain ⟨p55, h, hK55⟩ := Option.bind_eq_some_iff.mp h
    refine WO.meet [(17, 2), (18, 2), (19, 1), (20, 2), (21, 2)] [(22, 2), (23, 2), (25, 2), (28, 2), (24, 0), (26, 2), (27, 0), (29, 0), (30, 2), (31, 1), (32, 2), (33, 2)] (fun L w' => L = [(2, .pointer (some ⟨b2, 0, none⟩)), (3, .pointer (some ⟨b3, 0, none⟩)), (5, .int .i64 (p1.Next.length : Int)), (6, .int .i64 v29), (27, .slice a1_0 p1.Next.length u1_0), (28, .int .i64 (p1.Next.length : Int)), (29, .int .i64 v29), (55, .bool p55)] ∧ ∃ κ', Stp [] K53 w52 κ' w') ((S43.tr S54).cl rfl) ?_ ?_
    ·
     revert h
     cases ht56 : p49 with
     | true =>
      intro h; replace h := cT h
      refine WO.pn 2 rfl ?_
      refine WO.ls rfl rfl rfl rfl ?_
      refine WO.pn 2 rfl ?_
      obtain rfl := Option.some.inj h
      exact WO.met _ ((S43.tr S54).cl rfl) ⟨rfl, _, (Stp.refl _ _).wk rfl⟩ fun a ha => (ha.more (ha.more (ha.more (ha.more (ha.more (ha.more (ha.more (ha.more ha.nil rfl) rfl) rfl) rfl) rfl) rfl) rfl) rfl)
     | false =>
      intro h; replace h := cF h
      refine WO.pn 2 rfl ?_
      obtain ⟨x53, hx53, h⟩ := Option.bind_eq_some_iff.mp h
      have f57 := f34.stp (S36.tr (S43.tr S54)) rfl rfl
      refine WO.call rfl rfl rfl rfl rfl rfl Tryd.call71 (i_areLetters_ok (κ := fun b => mp [] 0 (K53 b)) (Sl.map f57 (mp [] 0) rfl rfl) hx53) ?_
      rintro _ w58 ⟨k59, rfl, e60⟩
      obtain ⟨K61, S62, m63⟩ := Ent.mixed (l := []) (κ := K53) e60 6 rfl
      refine ⟨((S43.tr (S54.tr S62)).cl rfl), ?_⟩
      refine WO.pn 2 rfl ?_
      obtain rfl := Option.some.inj h
      exact WO.met _ ((S43.tr (S54.tr S62)).cl rfl) ⟨rfl, _, S62.wk rfl⟩ fun a ha => (ha.more (ha.more (ha.more (ha.more (ha.more (ha.more (ha.more (ha.more ha.nil rfl) rfl) rfl) rfl) rfl) rfl) rfl) rfl)
    rintro _ w65 _ ⟨rfl, K66, S67⟩
    have h := hK55
    refine WO.pn 1 rfl ?_
    obtain ⟨p67, h, hK68⟩ := Option.bind_eq_some_iff.mp h
    refine WO.meet [(23, 2), (25, 2), (28, 2), (24, 0), (26, 2), (27, 0), (29, 0), (30, 2), (31, 1), (32, 2), (33, 2)] [] (fun L w' => L = [(2, .pointer (some ⟨b2, 0, none⟩)), (3, .pointer (some ⟨b3, 0, none⟩)), (5, .int .i64 (p1.Next.length : Int)), (27, .slice a1_0 p1.Next.length u1_0), (28, .int .i64 (p1.Next.length : Int)), (29, .int .i64 v29), (67, .bool p67)] ∧ ∃ κ', Stp [] K66 w65 κ' w') ((S43.tr (S54.tr S67)).cl rfl) ?_ ?_
    ·
     revert h
     cases ht69 : p55 with
     | true =>
      intro h; replace h := cT h
      refine WO.pn 3 rfl ?_
      refine WO.qs rfl rfl rfl rfl ?_
      refine WO.pn 1 rfl ?_
      refine WO.qs rfl rfl rfl rfl ?_
      refine WO.qs rfl rfl rfl rfl ?_
      refine WO.pn 1 rfl ?_
      refine WO.ls rfl rfl rfl rfl ?_
      refine WO.pn 2 rfl ?_
      obtain rfl := Option.some.inj h
      exact WO.met _ ((S43.tr (S54.tr S67)).cl rfl) ⟨rfl, _, (Stp.refl _ _).wk rfl⟩ fun a ha => (ha.more (ha.more (ha.more (ha.more (ha.more (ha.more (ha.more ha.nil rfl) rfl) rfl) rfl) rfl) rfl) rfl)
     | false =>
      intro h; replace h := cF h
      refine WO.k2 rfl rfl rfl rfl (rn_fieldAddr Tryd.runUnderlying42 rfl Tryd.sizeOf35 rfl rfl) ?_
      refine WO.pn 1 rfl ?_
      refine WO.k2 rfl rfl rfl rfl (rn_fieldAddr Tryd.runUnderlying40 rfl Tryd.sizeOf2 rfl rfl) ?_
      have f70 := f22.stp (S31.tr S36) rfl rfl
      refine WO.k0 rfl rfl rfl rfl (rn_ld Tryd.isAgg35 rfl rfl (hvC (f70.ld 1 rfl rfl) rfl)) ?_
      obtain ⟨x60, hx60, h⟩ := Option.bind_eq_some_iff.mp h
      refine WO.k2 rfl rfl rfl rfl (rn_index g1_1 hx60 Tryd.runUnderlying35 Tryd.sizeOf60 rfl rfl rfl rfl) ?_
      have f71 := g1_1.stp (S3.tr (S7.tr (S13.tr (S19.tr (S31.tr S36))))) rfl rfl
      obtain ⟨ax60, ux60, f72, hl73⟩ := f71.gSl hx60
      refine WO.k0 rfl rfl rfl rfl (rn_ld Tryd.isAgg60 rfl rfl (hvC hl73 rfl)) ?_
      refine WO.k0 rfl rfl rfl rfl (rn_ld Tryd.isAgg2 rfl rfl (hvC (f38.ld 1 rfl rfl) rfl)) ?_
      obtain ⟨_z64, hz64, h⟩ := Option.bind_eq_some_iff.mp h
      refine WO.k2 rfl rfl rfl rfl (rn_shl rfl rfl rfl (nn_ok hz64)) ?_
      obtain ⟨x65, hx65, h⟩ := Option.bind_eq_some_iff.mp h
      have f74 := f72.stp (S43.tr (S54.tr S67)) rfl rfl
      refine WO.call rfl rfl rfl rfl rfl rfl Tryd.call71 (i_areLetters_ok (κ := fun b => mp [] 0 (K66 b)) (Sl.map f74 (mp [] 0) rfl rfl) hx65) ?_
      rintro _ w75 ⟨k76, rfl, e77⟩
      obtain ⟨K78, S79, m80⟩ := Ent.mixed (l := []) (κ := K66) e77 6 rfl
      refine ⟨((S43.tr (S54.tr (S67.tr S79))).cl rfl), ?_⟩
      refine WO.pn 2 rfl ?_
      obtain rfl := Option.some.inj h
      exact WO.met _ ((S43.tr (S54.tr (S67.tr S79))).cl rfl) ⟨rfl, _, S79.wk rfl⟩ fun a ha => (ha.more (ha.more (ha.more (ha.more (ha.more (ha.more (ha.more ha.nil rfl) rfl) rfl) rfl) rfl) rfl) rfl)
    rintro _ w82 _ ⟨rfl, K83, S84⟩
    have h := hK68
    refine WO.nx ?_
    refine WO.fin ?_
    refine DN.seq ?_
    revert h
    cases ht85 : p67 with
    | true =>
     intro h; replace h := cT h
     refine WC.ct rfl ?_
     refine WC.seq ?_
     refine WC.rs [(0, 2)] rfl ?_
     refine WO.pn 1 rfl ?_
     refine WO.fin ?_
     refine DN.seq ?_
     refine WC.ret ?_
     refine DN.retBlock ?_
     refine DN.retThen ?_
     refine DN.retThen ?_
     obtain rfl := Option.some.inj h
     obtain rfl := Option.some.inj hk32
     have h := hK24
     dsimp only [aft] at h
     refine DN.retBlock ?_
     refine DN.retMeet ?_
     refine DN.retThen ?_
     have f86 := hE.stp (S3.tr (S7.tr (S13.tr (S19.tr (S31.tr (S36.tr (S43.tr (S54.tr (S67.tr S84))))))))) rfl rfl
     refine DN.res (l := [.tmp 4]) Tryd.results48 (res_tmp rfl rfl) rfl ?_
     obtain rfl := Option.some.inj h
     exact ⟨K83, rfl, f86⟩
    | false =>
     intro h; replace h := cF h
     refine WC.cf rfl ?_
     refine WC.skip ?_
     refine DN.block ?_
     refine DN.seq ?_
     refine WC.rs [(0, 2), (1, 2)] rfl ?_
     refine WO.pn 2 rfl ?_
     refine WO.fin ?_
     have hw23 : IntKind.wrap .i64 (v29 + 1) = v29 + 1 := wr1 hj23 (of_decide_eq_true hc23) hN23
     rw [hw23]
     have hc23 := of_decide_eq_true hc23
     obtain rfl := Option.some.inj h
     refine DN.round fun a ha => ?_
     exact ⟨k, _, Nat.lt_succ_self _, ⟨K83, v29 + 1, rfl, (S31.tr (S36.tr (S43.tr (S54.tr (S67.tr S84))))).wk rfl, by omega, by omega, hk32⟩, (ha.more (ha.more (ha.more (ha.more (ha.more (ha.more ha.nil rfl) rfl) rfl) rfl) rfl) rfl)⟩
  rintro _ w26 ⟨K27, rfl, S28, rfl⟩
  have h := hK24
  dsimp only [aft] at h
  refine DN.seq ?_
  refine WC.seq ?_
  refine WC.rs [(0, 2)] rfl ?_
  refine WO.pn 1 rfl ?_
  refine WO.fin ?_
  refine DN.seq ?_
  refine WC.ret ?_
  have f87 := hE.stp (S3.tr (S7.tr (S13.tr (S19.tr S28)))) rfl rfl
  refine DN.res (l := [.tmp 4]) Tryd.results48 (res_tmp rfl rfl) rfl ?_
  obtain rfl := Option.some.inj h
  exact ⟨K27, rfl, f87⟩

/- loop.example/g00869/impl.TextMachine -/
theorem i_TextMachine_ok {w : World} {κ : Col} {p0 : Sig} {p1 : ByteArray} (gGM : Vm 1 κ w) {r : Machine × Bool} (h : i_TextMachine p0 p1 = some r) : Ret Tryd.prog 24 [.agg #[.int .i64 p0.In, .int .i64 p0.Out], .string p1] w (fun v w' => ∃ (κ' : Col) (ra0 : Option Addr) (ru0 : Nat) (ra1 : Option Addr) (ru1 : Nat), v = .tuple #[.agg #[.slice ra0 r.1.Next.length ru0, .slice ra1 r.1.Out.length ru1], .bool r.2] ∧ Ent κ w κ' w' ∧ Oc (Ep.own (Ep.int .i64) 2) 60 κ' w' 2 ra0 ru0 r.1.Next ∧ Oc (Ep.own (Ep.int .i64) 2) 60 κ' w' 3 ra1 ru1 r.1.Out) := by
 unfold i_TextMachine at h
 refine Ret.enter Tryd.func24 rfl Tryd.ntmps24 rfl ?_
 dsimp only [envOf]
 have hE := Ent.refl κ w
 refine WC.seq ?_
 refine WC.rs [(0, 1), (1, 1), (2, 2)] rfl ?_
 refine WO.box (κ := κ) 2 rfl rfl rfl rfl rfl rfl rfl fun b2 w1 K2 S3 f4 => ⟨trivial, ?_⟩
 refine WO.alloc (κ := K2) 3 rfl rfl rfl rfl rfl Tryd.zeroValue42 rfl fun b4 w5 K6 S7 f8 => ⟨trivial, ?_⟩
 refine WO.pn 1 rfl ?_
 refine WO.fin ?_
 refine DN.seq ?_
 refine WC.seq ?_
 refine WC.seq ?_
 refine WC.rs [(0, 1), (1, 1), (2, 2), (3, 2), (4, 2), (5, 2), (6, 2), (7, 2)] rfl ?_
 have f9 := f4.stp S7 rfl rfl
 refine WO.k1 trivial rfl rfl rfl rfl (rn_la (cs := [.int .i64 p0.In, .int .i64 p0.Out]) Tryd.isAgg40 Tryd.sizeOf40 rfl rfl rfl (haE f9.cells)) ?_
 obtain ⟨x23, hx23, h⟩ := Option.bind_eq_some_iff.mp h
 refine WO.call rfl rfl rfl rfl rfl rfl Tryd.call47 (i_isSig_ok (κ := fun b => mp [] 0 (K6 b)) (p0 := p0) hx23) ?_
 rintro _ w10 ⟨k11, rfl, e12⟩
 obtain ⟨K13, S14, m15⟩ := Ent.mixed (l := []) (κ := K6) e12 4 rfl
 refine ⟨trivial, ?_⟩
 refine WO.pn 2 rfl ?_
 obtain ⟨p29, h, hK17⟩ := Option.bind_eq_some_iff.mp h
 refine WO.meet [(4, 2), (5, 2), (6, 2), (7, 2)] [] (fun L w' => L = [(1, .string p1), (2, .pointer (some ⟨b2, 0, none⟩)), (4, .pointer (some ⟨b4, 0, none⟩)), (29, .bool p29)] ∧ ∃ κ', Stp [] K13 w10 κ' w') trivial ?_ ?_
 ·
  revert h
  cases ht18 : (!x23) with
  | true =>
   intro h; replace h := cT h
   refine WO.pn 4 rfl ?_
   obtain rfl := Option.some.inj h
   exact WO.met _ trivial ⟨rfl, _, (Stp.refl _ _).wk rfl⟩ fun a ha => (ha.more (ha.more (ha.more (ha.more ha.nil rfl) rfl) rfl) rfl)
  | false =>
   intro h; replace h := cF h
   refine WO.pn 1 rfl ?_
   refine WO.k2 rfl rfl rfl rfl (rn_lenS Tryd.runUnderlying9 rfl rfl) ?_
   refine WO.pn 2 rfl ?_
   obtain rfl := Option.some.inj h
   exact WO.met _ trivial ⟨rfl, _, (Stp.refl _ _).wk rfl⟩ fun a ha => (ha.more (ha.more (ha.more (ha.more ha.nil rfl) rfl) rfl) rfl)
 rintro _ w19 _ ⟨rfl, K20, S21⟩
 have h := hK17
 refine WO.fin ?_
 refine DN.seq ?_
 revert h
 cases ht22 : p29 with
 | true =>
  intro h; replace h := cT h
  refine WC.ct rfl ?_
  refine WC.seq ?_
  refine WC.rs [(0, 2), (1, 1), (2, 2)] rfl ?_
  refine WO.k2 rfl rfl rfl rfl (rn_build (parts := []) (cells := [.slice none 0 0, .slice none 0 0]) rfl rfl (by kernel_rfl)) ?_
  have f23 := f8.stp (S14.tr S21) rfl rfl
  refine WO.stB0 (κ := K20) 3 (vc := [.slice none 0 0, .slice none 0 0]) rfl rfl rfl rfl rfl rfl rfl Tryd.sizeOf42 rfl rfl f23 rfl fun w24 S25 f26 => ⟨trivial, ?_⟩
  refine WO.pn 1 rfl ?_
  refine WO.fin ?_
  refine DN.seq ?_
  refine WC.ret ?_
  refine DN.retThen ?_
  have f27 := hE.stp (S3.tr (S7.tr (S14.tr (S21.tr S25)))) rfl rfl
  refine DN.res (l := [.cell 4 42, .tmp 5]) Tryd.results24 (res_cellA rfl f26 Tryd.isAgg42 Tryd.sizeOf42 rfl (res_tmp rfl rfl)) rfl ?_
  obtain rfl := Option.some.inj h
  exact ⟨K20, none, 0, none, 0, rfl, f27, Ow.nil, Ow.nil⟩
 | false =>
  intro h; replace h := cF h
  refine WC.cf rfl ?_
  refine WC.skip ?_
  refine DN.seq ?_
  refine WC.seq ?_
  refine WC.rs [(0, 2), (1, 1), (2, 2), (3, 2), (4, 2), (5, 2), (6, 2)] rfl ?_
  refine WO.pn 1 rfl ?_
  obtain ⟨x33, hx33, h⟩ := Option.bind_eq_some_iff.mp h
  have f28 := gGM.stp (S3.tr (S7.tr (S14.tr S21))) rfl rfl
  refine WO.call rfl rfl rfl rfl rfl rfl Tryd.call55 (i_linesOf_ok (κ := fun b => mp [] 1 (K20 b)) (f28.map (mp [] 1) rfl rfl) hx33) ?_
  rintro _ w29 ⟨k30, a33_0, u33_0, rfl, e31, f32⟩
  obtain ⟨K33, S34, m35, z36⟩ := Ent.mixed0 (l := []) (κ := K20) e31 6 rfl
  refine ⟨trivial, ?_⟩
  have f37 := f32.mx z36
  refine WO.pn 5 rfl ?_
  refine WO.fin ?_
  refine DN.seq ?_
  refine WC.seq ?_
  refine WC.rs [(0, 2), (1, 1), (2, 1)] rfl ?_
  refine WO.k2 rfl rfl rfl rfl (rn_build (parts := []) (cells := [.slice none 0 0, .slice none 0 0]) rfl rfl (by kernel_rfl)) ?_
  refine WO.alloc (κ := K33) 9 rfl rfl rfl rfl rfl Tryd.zeroValue42 rfl fun b8 w38 K39 S40 f41 => ⟨trivial, ?_⟩
  refine WO.stB0 (κ := K39) 9 (vc := [.slice none 0 0, .slice none 0 0]) rfl rfl rfl rfl rfl rfl rfl Tryd.sizeOf42 rfl rfl f41 rfl fun w42 S43 f44 => ⟨trivial, ?_⟩
  refine WO.fin ?_
  refine DN.seq ?_
  refine WC.seq ?_
  refine WC.seq ?_
  refine WC.rs [(0, 2), (1, 2), (2, 2)] rfl ?_
  refine WO.pn 1 rfl ?_
  refine WO.k2 rfl rfl rfl rfl (rn_len Tryd.runUnderlying57 rfl rfl) ?_
  refine WO.pn 1 rfl ?_
  refine WO.fin ?_
  refine DN.seq ?_
  have hN45 : (x33.1.length : Int) ≤ 9223372036854775807 := f37.len_le
  obtain ⟨q2, hq47, hK46⟩ := Option.bind_eq_some_iff.mp h
  clear h
  refine WC.meet (fun L w' => ∃ (κ' : Col) (s3 : (List (List Int)) × (List (List Int))) (las3_0 : Option Addr) (lus3_0 : Nat) (las3_1 : Option Addr) (lus3_1 : Nat), L = [(2, .pointer (some ⟨b2, 0, none⟩)), (4, .pointer (some ⟨b4, 0, none⟩)), (7, .bool x33.2), (8, .pointer (some ⟨b8, 0, none⟩))] ∧ Stp [9, 10, 11, 12, 13, 17, 18] K39 w42 κ' w' ∧ Oc (Ep.own (Ep.int .i64) 2) 60 κ' w' 10 las3_0 lus3_0 s3.1 ∧ Oc (Ep.own (Ep.int .i64) 2) 60 κ' w' 11 las3_1 lus3_1 s3.2 ∧ Bc κ' w' 9 b8 42 [.slice las3_0 s3.1.length lus3_0, .slice las3_1 s3.2.length lus3_1] ∧ q2 = Sum.inr s3) ?_ ?_
  ·
   refine WC.block ?_
   refine WC.loop (fun k L w' => ∃ (κ' : Col) (v39 : Int) (s1 : (List (List Int)) × (List (List Int))) (las1_0 : Option Addr) (lus1_0 : Nat) (las1_1 : Option Addr) (lus1_1 : Nat), L = [(2, .pointer (some ⟨b2, 0, none⟩)), (4, .pointer (some ⟨b4, 0, none⟩)), (7, .bool x33.2), (8, .pointer (some ⟨b8, 0, none⟩)), (37, .slice a33_0 x33.1.length u33_0), (38, .int .i64 (x33.1.length : Int)), (39, .int .i64 v39)] ∧ Stp [9, 10, 11, 12, 13, 17, 18] K39 w42 κ' w' ∧ Oc (Ep.own (Ep.int .i64) 2) 60 κ' w' 10 las1_0 lus1_0 s1.1 ∧ Oc (Ep.own (Ep.int .i64) 2) 60 κ' w' 11 las1_1 lus1_1 s1.2 ∧ Bc κ' w' 9 b8 42 [.slice las1_0 s1.1.length lus1_0, .slice las1_1 s1.2.length lus1_1] ∧ 0 ≤ v39 ∧ Int.toNat ((x33.1.length : Int) - v39) = k ∧ cntM (i_TextMachine_b0 x33) k v39 s1 = some q2) ⟨_, _, ⟨K39, 0, ((([] : List (List Int)) : (List (List Int))), (([] : List (List Int)) : (List (List Int)))), none, 0, none, 0, rfl, (Stp.refl _ _).wk rfl, Ow.nil, Ow.nil, f44, (by decide), (by simp), hq47⟩, fun a ha => (ha.more (ha.more (ha.more (ha.more (ha.more (ha.more (ha.more ha.nil rfl) rfl) rfl) rfl) rfl) rfl) rfl)⟩ ?_
   rintro k _ w54 ⟨K55, v39, s1, las1_0, lus1_0, las1_1, lus1_1, rfl, S56, f57, f58, f59, hj45, hJ45, h⟩
   rcases k with _ | k
   ·
    have hk60 := h; obtain ⟨o45, h⟩ := ex_eq (Sum.inr (Sum.inl s1) : (Machine × Bool) ⊕ (((List (List Int)) × (List (List Int))) ⊕ ((List (List Int)) × (List (List Int)))))
    have hc45 : decide (v39 < (x33.1.length : Int)) = false := decide_eq_false (by omega)
    refine WC.seq ?_
    refine WC.rs [(0, 2)] rfl ?_
    refine WO.pn 1 rfl ?_
    refine WO.fin ?_
    refine DN.seq ?_
    refine WC.seq ?_
    refine WC.cf' rfl hc45 ?_
    refine WC.exit ?_
    refine DN.exitThen ?_
    refine DN.exitThen ?_
    obtain rfl := Option.some.inj h
    have h := hk60
    refine DN.hit ?_
    obtain rfl := Option.some.inj h
    exact DN.meet _ ⟨K55, ((s1.1 : (List (List Int))), (s1.2 : (List (List Int)))), las1_0, lus1_0, las1_1, lus1_1, rfl, S56.wk rfl, f57, f58, f59, rfl⟩ fun a ha => (ha.more (ha.more (ha.more (ha.more ha.nil rfl) rfl) rfl) rfl)
   ·
    obtain ⟨o45, h, hk60⟩ := Option.bind_eq_some_iff.mp h; unfold i_TextMachine_b0 at h
    have hc45 : decide (v39 < (x33.1.length : Int)) = true := decide_eq_true (by omega)
    refine WC.seq ?_
    refine WC.rs [(0, 2)] rfl ?_
    refine WO.pn 1 rfl ?_
    refine WO.fin ?_
    refine DN.seq ?_
    refine WC.seq ?_
    refine WC.ct' rfl hc45 ?_
    refine WC.skip ?_
    refine DN.seq ?_
    refine WC.seq ?_
    refine WC.block ?_
    refine WC.seq ?_
    refine WC.rs [(0, 2), (1, 1), (2, 2)] rfl ?_
    obtain ⟨x41, hx41, h⟩ := Option.bind_eq_some_iff.mp h
    refine WO.k2 rfl rfl rfl rfl (rn_index f37 hx41 Tryd.runUnderlying57 Tryd.sizeOf9 rfl rfl rfl rfl) ?_
    have f61 := f37.stp (S40.tr (S43.tr S56)) rfl rfl
    refine WO.k1 trivial rfl rfl rfl rfl (rn_ld Tryd.isAgg9 rfl rfl (hvE (f61.gStr hx41))) ?_
    refine WO.pn 1 rfl ?_
    refine WO.fin ?_
    refine DN.seq ?_
    refine WC.seq ?_
    refine WC.rs [(0, 1), (1, 1), (2, 2), (3, 2)] rfl ?_
    refine WO.bl0 (κ := K55) (E := (Ep.int .i64)) 12 rfl rfl rfl rfl rfl Tryd.underlying60 Trydinfo2 rfl fun a43 u43 w62 K63 S64 f65 => ⟨trivial, ?_⟩
    refine WO.bl0 (κ := K63) (E := (Ep.int .i64)) 13 rfl rfl rfl rfl rfl Tryd.underlying60 Trydinfo2 rfl fun a44 u44 w66 K67 S68 f69 => ⟨trivial, ?_⟩
    refine WO.pn 2 rfl ?_
    refine WO.fin ?_
    refine DN.seq ?_
    refine WC.seq ?_
    refine WC.seq ?_
    refine WC.rs [(0, 2), (1, 1), (2, 2), (3, 2)] rfl ?_
    refine WO.pn 1 rfl ?_
    obtain ⟨x46, hx46, h⟩ := Option.bind_eq_some_iff.mp h
    have f70 := f28.stp (S34.tr (S40.tr (S43.tr (S56.tr (S64.tr S68))))) rfl rfl
    refine WO.call rfl rfl rfl rfl rfl rfl Tryd.call40 (strings_Split_ok (κ := fun b => mp [] 0 (K67 b)) (f70.map (mp [] 0) rfl rfl) hx46) ?_
    rintro _ w71 ⟨k72, a46_0, u46_0, rfl, e73, f74⟩
    obtain ⟨K75, S76, m77⟩ := Ent.mixed (l := []) (κ := K67) e73 14 rfl
    refine ⟨trivial, ?_⟩
    have f79 := f74.mx no_str m77 rfl (rfl : 14 + 2 = 16)
    refine WO.k2 rfl rfl rfl rfl (rn_len Tryd.runUnderlying57 rfl rfl) ?_
    refine WO.pn 1 rfl ?_
    refine WO.fin ?_
    refine DN.seq ?_
    have hN80 : (x46.length : Int) ≤ 9223372036854775807 := f79.len_le
    obtain ⟨q5, hq82, hK81⟩ := Option.bind_eq_some_iff.mp h
    clear h
    refine WC.meet (fun L w' => ∃ (κ' : Col) (s6 : (List Int) × (List Int)) (las6_0 : Option Addr) (lus6_0 : Nat) (las6_1 : Option Addr) (lus6_1 : Nat), L = [(2, .pointer (some ⟨b2, 0, none⟩)), (4, .pointer (some ⟨b4, 0, none⟩)), (7, .bool x33.2), (8, .pointer (some ⟨b8, 0, none⟩)), (11, .slice las6_0 s6.1.length lus6_0), (12, .slice las6_1 s6.2.length lus6_1), (37, .slice a33_0 x33.1.length u33_0), (38, .int .i64 (x33.1.length : Int)), (39, .int .i64 v39)] ∧ Stp [12, 13] K75 w71 κ' w' ∧ Oc (Ep.int .i64) 2 κ' w' 12 las6_0 lus6_0 s6.1 ∧ Oc (Ep.int .i64) 2 κ' w' 13 las6_1 lus6_1 s6.2 ∧ q5 = Sum.inr s6) ?_ ?_
    ·
     refine WC.block ?_
     have f93 := f65.stp (S68.tr S76) rfl rfl
     have f94 := f69.stp S76 rfl rfl
     refine WC.loop (fun k L w' => ∃ (κ' : Col) (v48 : Int) (s4 : (List Int) × (List Int)) (las4_0 : Option Addr) (lus4_0 : Nat) (las4_1 : Option Addr) (lus4_1 : Nat), L = [(2, .pointer (some ⟨b2, 0, none⟩)), (4, .pointer (some ⟨b4, 0, none⟩)), (7, .bool x33.2), (8, .pointer (some ⟨b8, 0, none⟩)), (11, .slice las4_0 s4.1.length lus4_0), (12, .slice las4_1 s4.2.length lus4_1), (37, .slice a33_0 x33.1.length u33_0), (38, .int .i64 (x33.1.length : Int)), (39, .int .i64 v39), (46, .slice a46_0 x46.length u46_0), (47, .int .i64 (x46.length : Int)), (48, .int .i64 v48)] ∧ Stp [12, 13] K75 w71 κ' w' ∧ Oc (Ep.int .i64) 2 κ' w' 12 las4_0 lus4_0 s4.1 ∧ Oc (Ep.int .i64) 2 κ' w' 13 las4_1 lus4_1 s4.2 ∧ 0 ≤ v48 ∧ Int.toNat ((x46.length : Int) - v48) = k ∧ cntM (i_TextMachine_b2 x46) k v48 s4 = some q5) ⟨_, _, ⟨K75, 0, ((([] : List Int) : (List Int)), (([] : List Int) : (List Int))), a43, u43, a44, u44, rfl, (Stp.refl _ _).wk rfl, f93, f94, (by decide), (by simp), hq82⟩, fun a ha => (ha.more (ha.more (ha.more (ha.more (ha.more (ha.more (ha.more (ha.more (ha.more (ha.more (ha.more (ha.more ha.nil rfl) rfl) rfl) rfl) rfl) rfl) rfl) rfl) rfl) rfl) rfl) rfl)⟩ ?_
     rintro k _ w88 ⟨K89, v48, s4, las4_0, lus4_0, las4_1, lus4_1, rfl, S90, f91, f92, hj80, hJ80, h⟩
     rcases k with _ | k
     ·
      have hk95 := h; obtain ⟨o80, h⟩ := ex_eq (Sum.inr (Sum.inl s4) : (Machine × Bool) ⊕ (((List Int) × (List Int)) ⊕ ((List Int) × (List Int))))
      have hc80 : decide (v48 < (x46.length : Int)) = false := decide_eq_false (by omega)
      refine WC.seq ?_
      refine WC.rs [(0, 2)] rfl ?_
      refine WO.pn 1 rfl ?_
      refine WO.fin ?_
      refine DN.seq ?_
      refine WC.seq ?_
      refine WC.cf' rfl hc80 ?_
      refine WC.exit ?_
      refine DN.exitThen ?_
      refine DN.exitThen ?_
      obtain rfl := Option.some.inj h
      have h := hk95
      refine DN.hit ?_
      obtain rfl := Option.some.inj h
      exact DN.meet _ ⟨K89, ((s4.1 : (List Int)), (s4.2 : (List Int))), las4_0, lus4_0, las4_1, lus4_1, rfl, S90.wk rfl, f91, f92, rfl⟩ fun a ha => (ha.more (ha.more (ha.more (ha.more (ha.more (ha.more (ha.more (ha.more (ha.more ha.nil rfl) rfl) rfl) rfl) rfl) rfl) rfl) rfl) rfl)
     ·
      obtain ⟨o80, h, hk95⟩ := Option.bind_eq_some_iff.mp h; unfold i_TextMachine_b2 at h
      have hc80 : decide (v48 < (x46.length : Int)) = true := decide_eq_true (by omega)
      refine WC.seq ?_
      refine WC.rs [(0, 2)] rfl ?_
      refine WO.pn 1 rfl ?_
      refine WO.fin ?_
      refine DN.seq ?_
      refine WC.seq ?_
      refine WC.ct' rfl hc80 ?_
      refine WC.skip ?_
      refine DN.seq ?_
      refine WC.seq ?_
      refine WC.block ?_
      refine WC.seq ?_
      refine WC.rs [(0, 2), (1, 1), (2, 2)] rfl ?_
      obtain ⟨x50, hx50, h⟩ := Option.bind_eq_some_iff.mp h
      refine WO.k2 rfl rfl rfl rfl (rn_index f79.rdc hx50 Tryd.runUnderlying57 Tryd.sizeOf9 rfl rfl rfl rfl) ?_
      have f96 := f79.stp S90 rfl rfl
      refine WO.k1 trivial rfl rfl rfl rfl (rn_ld Tryd.isAgg9 rfl rfl (hvE (f96.rdc.gStr hx50))) ?_
      refine WO.pn 1 rfl ?_
      refine WO.fin ?_
      refine DN.seq ?_
      refine WC.seq ?_
      refine WC.rs [(0, 2), (1, 1), (2, 2), (3, 2), (4, 2), (5, 2), (6, 2), (7, 2), (8, 2)] rfl ?_
      refine WO.pn 1 rfl ?_
      obtain ⟨x54, hx54, h⟩ := Option.bind_eq_some_iff.mp h
      have f97 := f70.stp (S76.tr S90) rfl rfl
      refine WO.call rfl rfl rfl rfl rfl rfl Tryd.call56 (strings_Cut_ok (κ := fun b => mp [] 0 (K89 b)) (f97.map (mp [] 0) rfl rfl) hx54) ?_
      rintro _ w98 ⟨k99, rfl, e100⟩
      obtain ⟨K101, S102, m103⟩ := Ent.mixed (l := []) (κ := K89) e100 17 rfl
      refine ⟨trivial, ?_⟩
      refine WO.pn 7 rfl ?_
      refine WO.fin ?_
      refine DN.seq ?_
      refine WC.seq ?_
      refine WC.rs [(0, 2), (1, 1), (2, 2), (3, 2), (4, 2), (5, 2), (6, 2)] rfl ?_
      refine WO.pn 1 rfl ?_
      obtain ⟨x60, hx60, h⟩ := Option.bind_eq_some_iff.mp h
      refine WO.call rfl rfl rfl rfl rfl rfl Tryd.call42 (i_readNumber_ok (κ := fun b => mp [] 0 (K101 b)) hx60) ?_
      rintro _ w105 ⟨k106, rfl, e107⟩
      obtain ⟨K108, S109, m110⟩ := Ent.mixed (l := []) (κ := K101) e107 19 rfl
      refine ⟨trivial, ?_⟩
      refine WO.pn 5 rfl ?_
      refine WO.fin ?_
      refine DN.seq ?_
      refine WC.seq ?_
      refine WC.rs [(0, 2), (1, 1), (2, 2), (3, 2), (4, 2), (5, 2), (6, 2)] rfl ?_
      refine WO.pn 1 rfl ?_
      obtain ⟨x65, hx65, h⟩ := Option.bind_eq_some_iff.mp h
      refine WO.call rfl rfl rfl rfl rfl rfl Tryd.call42 (i_readNumber_ok (κ := fun b => mp [] 0 (K108 b)) hx65) ?_
      rintro _ w112 ⟨k113, rfl, e114⟩
      obtain ⟨K115, S116, m117⟩ := Ent.mixed (l := []) (κ := K108) e114 21 rfl
      refine ⟨trivial, ?_⟩
      refine WO.pn 5 rfl ?_
      refine WO.fin ?_
      refine DN.seq ?_
      refine WC.seq ?_
      refine WC.seq ?_
      refine WC.rs [(0, 2), (1, 2), (2, 2), (3, 2), (4, 2), (5, 2), (6, 2), (7, 2), (8, 2), (9, 2)] rfl ?_
      refine WO.pn 3 rfl ?_
      obtain ⟨p73, h, hK119⟩ := Option.bind_eq_some_iff.mp h
      refine WO.meet [(3, 2), (4, 2), (5, 2)] [(6, 2), (7, 2), (8, 2), (9, 2)] (fun L w' => L = [(2, .pointer (some ⟨b2, 0, none⟩)), (4, .pointer (some ⟨b4, 0, none⟩)), (7, .bool x33.2), (8, .pointer (some ⟨b8, 0, none⟩)), (11, .slice las4_0 s4.1.length lus4_0), (12, .slice las4_1 s4.2.length lus4_1), (18, .int .i64 x60.1), (20, .int .i64 x65.1), (21, .bool x65.2), (37, .slice a33_0 x33.1.length u33_0), (38, .int .i64 (x33.1.length : Int)), (39, .int .i64 v39), (46, .slice a46_0 x46.length u46_0), (47, .int .i64 (x46.length : Int)), (48, .int .i64 v48), (73, .bool p73)] ∧ ∃ κ', Stp [] K115 w112 κ' w') trivial ?_ ?_
      ·
       revert h
       cases ht120 : (!x54.2.2) with
       | true =>
        intro h; replace h := cT h
        refine WO.pn 3 rfl ?_
        obtain rfl := Option.some.inj h
        exact WO.met _ trivial ⟨rfl, _, (Stp.refl _ _).wk rfl⟩ fun a ha => (ha.more (ha.more (ha.more (ha.more (ha.more (ha.more (ha.more (ha.more (ha.more (ha.more (ha.more (ha.more (ha.more (ha.more (ha.more (ha.more ha.nil rfl) rfl) rfl) rfl) rfl) rfl) rfl) rfl) rfl) rfl) rfl) rfl) rfl) rfl) rfl) rfl)
       | false =>
        intro h; replace h := cF h
        refine WO.pn 3 rfl ?_
        obtain rfl := Option.some.inj h
        exact WO.met _ trivial ⟨rfl, _, (Stp.refl _ _).wk rfl⟩ fun a ha => (ha.more (ha.more (ha.more (ha.more (ha.more (ha.more (ha.more (ha.more (ha.more (ha.more (ha.more (ha.more (ha.more (ha.more (ha.more (ha.more ha.nil rfl) rfl) rfl) rfl) rfl) rfl) rfl) rfl) rfl) rfl) rfl) rfl) rfl) rfl) rfl) rfl)
      rintro _ w121 _ ⟨rfl, K122, S123⟩
      have h := hK119
      refine WO.pn 1 rfl ?_
      obtain ⟨p77, h, hK124⟩ := Option.bind_eq_some_iff.mp h
      refine WO.meet [(7, 2), (8, 2), (9, 2)] [] (fun L w' => L = [(2, .pointer (some ⟨b2, 0, none⟩)), (4, .pointer (some ⟨b4, 0, none⟩)), (7, .bool x33.2), (8, .pointer (some ⟨b8, 0, none⟩)), (11, .slice las4_0 s4.1.length lus4_0), (12, .slice las4_1 s4.2.length lus4_1), (18, .int .i64 x60.1), (20, .int .i64 x65.1), (37, .slice a33_0 x33.1.length u33_0), (38, .int .i64 (x33.1.length : Int)), (39, .int .i64 v39), (46, .slice a46_0 x46.length u46_0), (47, .int .i64 (x46.length : Int)), (48, .int .i64 v48), (77, .bool p77)] ∧ ∃ κ', Stp [] K122 w121 κ' w') trivial ?_ ?_
      ·
       revert h
       cases ht125 : p73 with
       | true =>
        intro h; replace h := cT h
        refine WO.pn 3 rfl ?_
        obtain rfl := Option.some.inj h
        exact WO.met _ trivial ⟨rfl, _, (Stp.refl _ _).wk rfl⟩ fun a ha => (ha.more (ha.more (ha.more (ha.more (ha.more (ha.more (ha.more (ha.more (ha.more (ha.more (ha.more (ha.more (ha.more (ha.more (ha.more ha.nil rfl) rfl) rfl) rfl) rfl) rfl) rfl) rfl) rfl) rfl) rfl) rfl) rfl) rfl) rfl)
       | false =>
        intro h; replace h := cF h
        refine WO.pn 3 rfl ?_
        obtain rfl := Option.some.inj h
        exact WO.met _ trivial ⟨rfl, _, (Stp.refl _ _).wk rfl⟩ fun a ha => (ha.more (ha.more (ha.more (ha.more (ha.more (ha.more (ha.more (ha.more (ha.more (ha.more (ha.more (ha.more (ha.more (ha.more (ha.more ha.nil rfl) rfl) rfl) rfl) rfl) rfl) rfl) rfl) rfl) rfl) rfl) rfl) rfl) rfl) rfl)
      rintro _ w126 _ ⟨rfl, K127, S128⟩
      have h := hK124
      refine WO.fin ?_
      refine DN.seq ?_
      revert h
      cases ht129 : p77 with
      | true =>
       intro h; replace h := cT h
       refine WC.ct rfl ?_
       refine WC.seq ?_
       refine WC.rs [(0, 2), (1, 1), (2, 2)] rfl ?_
       refine WO.k2 rfl rfl rfl rfl (rn_build (parts := []) (cells := [.slice none 0 0, .slice none 0 0]) rfl rfl (by kernel_rfl)) ?_
       have f130 := f8.stp (S14.tr (S21.tr (S34.tr (S40.tr (S43.tr (S56.tr (S64.tr (S68.tr (S76.tr (S90.tr (S102.tr (S109.tr (S116.tr (S123.tr S128)))))))))))))) rfl rfl
       refine WO.stB0 (κ := K127) 3 (vc := [.slice none 0 0, .slice none 0 0]) rfl rfl rfl rfl rfl rfl rfl Tryd.sizeOf42 rfl rfl f130 rfl fun w131 S132 f133 => ⟨trivial, ?_⟩
       refine WO.pn 1 rfl ?_
       refine WO.fin ?_
       refine DN.seq ?_
       refine WC.ret ?_
       refine DN.retThen ?_
       refine DN.retBlock ?_
       refine DN.retThen ?_
       refine DN.retThen ?_
       obtain rfl := Option.some.inj h
       obtain rfl := Option.some.inj hk95
       have h := hK81
       dsimp only [aft] at h
       refine DN.retBlock ?_
       refine DN.retMeet ?_
       refine DN.retThen ?_
       refine DN.retBlock ?_
       refine DN.retThen ?_
       refine DN.retThen ?_
       obtain rfl := Option.some.inj h
       obtain rfl := Option.some.inj hk60
       have h := hK46
       dsimp only [aft] at h
       refine DN.retBlock ?_
       refine DN.retMeet ?_
       refine DN.retThen ?_
       have f134 := hE.stp (S3.tr (S7.tr (S14.tr (S21.tr (S34.tr (S40.tr (S43.tr (S56.tr (S64.tr (S68.tr (S76.tr (S90.tr (S102.tr (S109.tr (S116.tr (S123.tr (S128.tr S132))))))))))))))))) rfl rfl
       refine DN.res (l := [.cell 4 42, .tmp 5]) Tryd.results24 (res_cellA rfl f133 Tryd.isAgg42 Tryd.sizeOf42 rfl (res_tmp rfl rfl)) rfl ?_
       obtain rfl := Option.some.inj h
       exact ⟨K127, none, 0, none, 0, rfl, f134, Ow.nil, Ow.nil⟩
      | false =>
       intro h; replace h := cF h
       refine WC.cf rfl ?_
       refine WC.skip ?_
       refine DN.seq ?_
       refine WC.rs [(0, 2), (1, 2), (2, 1), (3, 1), (4, 2), (5, 2), (6, 1), (7, 1), (8, 2), (9, 2)] rfl ?_
       refine WO.pn 2 rfl ?_
       refine WO.bl (κ := K127) (E := (Ep.int .i64)) 23 [] (parts := [(0, .tmp 80)]) (cells := [.int .i64 x60.1]) (xs := ([x60.1] : List Int)) rfl rfl rfl rfl rfl rfl Tryd.underlying60 Trydinfo2 rfl rfl rfl rfl rfl rfl rfl rfl rfl rfl ⟨[.int .i64 x60.1], [], Zl K127 w126 [], Zl K127 w126 [], rfl, Zl.sp (l1 := []) (l2 := []) rfl, Zl.sr (l1 := []) (l2 := []), rfl, rfl⟩ fun a81 u81 w135 K136 S137 f138 => ⟨trivial, ?_⟩
       obtain ⟨x82, hx82, h⟩ := Option.bind_eq_some_iff.mp h
       have f139 := f91.stp (S102.tr (S109.tr (S116.tr (S123.tr (S128.tr S137))))) rfl rfl
       refine WO.app (κ := K136) (E := (Ep.int .i64)) 12 [] rfl rfl rfl rfl rfl rfl rfl rfl rfl Tryd.underlying60 Trydinfo2 rfl rfl rfl rfl f139 (Sl.srcP (pu_int _) f138.rdc) sy_false hx82 rfl fun a82 u82 w140 K141 S142 f143 => ⟨trivial, ?_⟩
       refine WO.pn 2 rfl ?_
       refine WO.bl (κ := K141) (E := (Ep.int .i64)) 24 [] (parts := [(0, .tmp 84)]) (cells := [.int .i64 x65.1]) (xs := ([x65.1] : List Int)) rfl rfl rfl rfl rfl rfl Tryd.underlying60 Trydinfo2 rfl rfl rfl rfl rfl rfl rfl rfl rfl rfl ⟨[.int .i64 x65.1], [], Zl K141 w140 [], Zl K141 w140 [], rfl, Zl.sp (l1 := []) (l2 := []) rfl, Zl.sr (l1 := []) (l2 := []), rfl, rfl⟩ fun a85 u85 w144 K145 S146 f147 => ⟨trivial, ?_⟩
       obtain ⟨x86, hx86, h⟩ := Option.bind_eq_some_iff.mp h
       have f148 := f92.stp (S102.tr (S109.tr (S116.tr (S123.tr (S128.tr (S137.tr (S142.tr S146))))))) rfl rfl
       refine WO.app (κ := K145) (E := (Ep.int .i64)) 13 [] rfl rfl rfl rfl rfl rfl rfl rfl rfl Tryd.underlying60 Trydinfo2 rfl rfl rfl rfl f148 (Sl.srcP (pu_int _) f147.rdc) sy_false hx86 rfl fun a86 u86 w149 K150 S151 f152 => ⟨trivial, ?_⟩
       refine WO.pn 2 rfl ?_
       refine WO.fin ?_
       refine DN.block ?_
       refine DN.seq ?_
       refine WC.rs [(0, 2), (1, 2)] rfl ?_
       refine WO.pn 2 rfl ?_
       refine WO.fin ?_
       have hw80 : IntKind.wrap .i64 (v48 + 1) = v48 + 1 := wr1 hj80 (of_decide_eq_true hc80) hN80
       rw [hw80]
       have hc80 := of_decide_eq_true hc80
       have f153 := f143.stp (S146.tr S151) rfl rfl
       obtain rfl := Option.some.inj h
       refine DN.round fun a ha => ?_
       exact ⟨k, _, Nat.lt_succ_self _, ⟨K150, v48 + 1, ((x82 : (List Int)), (x86 : (List Int))), a82, u82, a86, u86, rfl, (S90.tr (S102.tr (S109.tr (S116.tr (S123.tr (S128.tr (S137.tr (S142.tr (S146.tr S151))))))))).wk rfl, f153, f152, by omega, by omega, hk95⟩, (ha.more (ha.more (ha.more (ha.more (ha.more (ha.more (ha.more (ha.more (ha.more (ha.more (ha.more (ha.more ha.nil rfl) rfl) rfl) rfl) rfl) rfl) rfl) rfl) rfl) rfl) rfl) rfl)⟩
    rintro _ w83 ⟨K84, s6, las6_0, lus6_0, las6_1, lus6_1, rfl, S85, f86, f87, rfl⟩
    have h := hK81
    dsimp only [aft] at h
    refine DN.seq ?_
    obtain ⟨x92, hx92, h⟩ := Option.bind_eq_some_iff.mp h
    obtain ⟨x97, hx97, h⟩ := Option.bind_eq_some_iff.mp h
    refine WC.meet (fun L w' => ∃ (κ' : Col) (lar157_0 : Option Addr) (lur157_0 : Nat) (lar157_1 : Option Addr) (lur157_1 : Nat), L = [(2, .pointer (some ⟨b2, 0, none⟩)), (4, .pointer (some ⟨b4, 0, none⟩)), (7, .bool x33.2), (8, .pointer (some ⟨b8, 0, none⟩)), (37, .slice a33_0 x33.1.length u33_0), (38, .int .i64 (x33.1.length : Int)), (39, .int .i64 v39)] ∧ Stp [9, 10, 11, 12, 13, 17, 18] K84 w83 κ' w' ∧ Oc (Ep.own (Ep.int .i64) 2) 60 κ' w' 17 lar157_0 lur157_0 x92 ∧ Oc (Ep.own (Ep.int .i64) 2) 60 κ' w' 18 lar157_1 lur157_1 x97 ∧ Bc κ' w' 9 b8 42 [.slice lar157_0 x92.length lur157_0, .slice lar157_1 x97.length lur157_1]) ?_ ?_
    ·
     refine WC.rxt (κ := K84) [9] (some 11) (by kernel_rfl) fun w161 S162 => ?_
     refine WA.seg (fuel := 8) [(0, 2), (2, 2), (5, 2), (7, 2), (1, 0), (6, 0)] (by kernel_rfl) (by kernel_rfl) rfl ?_
     refine WO.k2 rfl rfl rfl rfl (rn_fieldAddr Tryd.runUnderlying42 rfl Tryd.sizeOf35 rfl rfl) ?_
     refine WO.pn 1 rfl ?_
     refine WO.k2 rfl rfl rfl rfl (rn_fieldAddr Tryd.runUnderlying42 rfl Tryd.sizeOf35 rfl rfl) ?_
     refine WO.pn 1 rfl ?_
     have f163 := f59.stp (S64.tr (S68.tr (S76.tr (S85.tr S162)))) rfl rfl
     refine WO.k0 rfl rfl rfl rfl (rn_ld Tryd.isAgg35 rfl rfl (hvC (f163.ld 0 rfl rfl) rfl)) ?_
     refine WO.k0 rfl rfl rfl rfl (rn_ld Tryd.isAgg35 rfl rfl (hvC (f163.ld 1 rfl rfl) rfl)) ?_
     refine WO.wa ?_
     refine WA.fork2 (fuel := 7) 3 8 (by kernel_rfl) rfl ?_ ?_
     ·
      have f164 := f86.stp S162 rfl rfl
      refine WO.bl (κ := K84) (E := (Ep.own (Ep.int .i64) 2)) 17 [12] (parts := [(0, .tmp 90)]) (cells := [.slice las6_0 s6.1.length lus6_0]) (xs := ([s6.1] : List (List Int))) rfl rfl rfl rfl rfl rfl Tryd.underlying35 Trydinfo60 rfl rfl rfl rfl rfl rfl rfl rfl rfl rfl ⟨[.slice las6_0 s6.1.length lus6_0], [], Zl K84 w161 [12], Zl K84 w161 [], rfl, Zl.sp (l1 := [12]) (l2 := []) rfl, Zl.sr (l1 := [12]) (l2 := []), ⟨_, _, rfl, f164⟩, rfl⟩ fun a91 u91 w165 K166 S167 f168 => ⟨(S167.cl rfl), ?_⟩
      refine WO.wa ?_
      refine WA.fork2 (fuel := 6) 4 8 (by kernel_rfl) rfl ?_ ?_
      ·
       have f169 := f57.stp (S64.tr (S68.tr (S76.tr (S85.tr (S162.tr S167))))) rfl rfl
       refine WO.app (κ := K166) (E := (Ep.own (Ep.int .i64) 2)) 10 [17] rfl rfl rfl rfl rfl rfl rfl rfl rfl Tryd.underlying35 Trydinfo60 rfl rfl rfl rfl f169 f168.src (sy_one rfl) hx92 rfl fun a92 u92 w170 K171 S172 f173 => ⟨((S167.tr S172).cl rfl), ?_⟩
       refine WO.wa ?_
       refine WA.seg (fuel := 3) [(10, 2), (8, 1), (9, 1)] (by kernel_rfl) (by kernel_rfl) rfl ?_
       refine WO.k2 rfl rfl rfl rfl (rn_fieldAddr Tryd.runUnderlying42 rfl Tryd.sizeOf35 rfl rfl) ?_
       have f174 := f87.stp (S162.tr (S167.tr S172)) rfl rfl
       refine WO.bl (κ := K171) (E := (Ep.own (Ep.int .i64) 2)) 18 [13] (parts := [(0, .tmp 95)]) (cells := [.slice las6_1 s6.2.length lus6_1]) (xs := ([s6.2] : List (List Int))) rfl rfl rfl rfl rfl rfl Tryd.underlying35 Trydinfo60 rfl rfl rfl rfl rfl rfl rfl rfl rfl rfl ⟨[.slice las6_1 s6.2.length lus6_1], [], Zl K171 w170 [13], Zl K171 w170 [], rfl, Zl.sp (l1 := [13]) (l2 := []) rfl, Zl.sr (l1 := [13]) (l2 := []), ⟨_, _, rfl, f174⟩, rfl⟩ fun a96 u96 w175 K176 S177 f178 => ⟨((S167.tr (S172.tr S177)).cl rfl), ?_⟩
       have f179 := f58.stp (S64.tr (S68.tr (S76.tr (S85.tr (S162.tr (S167.tr (S172.tr S177))))))) rfl rfl
       refine WO.app (κ := K176) (E := (Ep.own (Ep.int .i64) 2)) 11 [18] rfl rfl rfl rfl rfl rfl rfl rfl rfl Tryd.underlying35 Trydinfo60 rfl rfl rfl rfl f179 f178.src (sy_one rfl) hx97 rfl fun a97 u97 w180 K181 S182 f183 => ⟨((S167.tr (S172.tr (S177.tr S182))).cl rfl), ?_⟩
       refine WO.wa ?_
       refine WA.brk (fuel := 2) 11 (by kernel_rfl) rfl (by kernel_rfl) ?_
       have f184 := f163.stp (S167.tr (S172.tr (S177.tr S182))) rfl rfl
       refine WO.stB (κ := K181) 9 (off := 0) (vc := [.slice a92 x92.length u92]) (cs' := [.slice a92 x92.length u92, .slice las1_1 s1.2.length lus1_1]) rfl rfl rfl rfl rfl rfl rfl Tryd.sizeOf35 rfl rfl f184 rfl rfl fun w185 S186 f187 => ⟨trivial, ?_⟩
       refine WO.wa ?_
       refine WA.seg (fuel := 0) [(12, 2), (13, 1)] (by kernel_rfl) (by kernel_rfl) rfl ?_
       refine WO.k2 rfl rfl rfl rfl (rn_fieldAddr Tryd.runUnderlying42 rfl Tryd.sizeOf35 rfl rfl) ?_
       refine WO.stB (κ := K181) 9 (off := 1) (vc := [.slice a97 x97.length u97]) (cs' := [.slice a92 x92.length u92, .slice a97 x97.length u97]) rfl rfl rfl rfl rfl rfl rfl Tryd.sizeOf35 rfl rfl f187 rfl rfl fun w188 S189 f190 => ⟨trivial, ?_⟩
       refine WO.wa ?_
       refine WA.last [] (by kernel_rfl) (by kernel_rfl) rfl ?_
       refine WO.fin ?_
       have f191 := f173.stp (S177.tr (S182.tr (S186.tr S189))) rfl rfl
       have f192 := f183.stp (S186.tr S189) rfl rfl
       exact DN.meet _ ⟨(fun b => ren [(10, 17), (11, 18)] (K181 b)), a92, u92, a97, u97, rfl, (Stp.ren ((S162.tr (S167.tr (S172.tr (S177.tr (S182.tr (S186.tr S189)))))).wk rfl) [(10, 17), (11, 18)] rfl), (f191.map (ren [(10, 17), (11, 18)]) rfl rfl), (f192.map (ren [(10, 17), (11, 18)]) rfl rfl), (f190.map (ren [(10, 17), (11, 18)]) rfl rfl)⟩ fun a ha => (ha.more (ha.more (ha.more (ha.more (ha.more (ha.more (ha.more ha.nil rfl) rfl) rfl) rfl) rfl) rfl) rfl)
      ·
       have f193 := f87.stp (S162.tr S167) rfl rfl
       refine WO.bl (κ := K166) (E := (Ep.own (Ep.int .i64) 2)) 18 [13] (parts := [(0, .tmp 95)]) (cells := [.slice las6_1 s6.2.length lus6_1]) (xs := ([s6.2] : List (List Int))) rfl rfl rfl rfl rfl rfl Tryd.underlying35 Trydinfo60 rfl rfl rfl rfl rfl rfl rfl rfl rfl rfl ⟨[.slice las6_1 s6.2.length lus6_1], [], Zl K166 w165 [13], Zl K166 w165 [], rfl, Zl.sp (l1 := [13]) (l2 := []) rfl, Zl.sr (l1 := [13]) (l2 := []), ⟨_, _, rfl, f193⟩, rfl⟩ fun a96 u96 w194 K195 S196 f197 => ⟨((S167.tr S196).cl rfl), ?_⟩
       refine WO.wa ?_
       refine WA.seg (fuel := 3) [(4, 1), (10, 2), (9, 1)] (by kernel_rfl) (by kernel_rfl) rfl ?_
       have f198 := f168.stp S196 rfl rfl
       have f199 := f57.stp (S64.tr (S68.tr (S76.tr (S85.tr (S162.tr (S167.tr S196)))))) rfl rfl
       refine WO.app (κ := K195) (E := (Ep.own (Ep.int .i64) 2)) 10 [17] rfl rfl rfl rfl rfl rfl rfl rfl rfl Tryd.underlying35 Trydinfo60 rfl rfl rfl rfl f199 f198.src (sy_one rfl) hx92 rfl fun a92 u92 w200 K201 S202 f203 => ⟨((S167.tr (S196.tr S202)).cl rfl), ?_⟩
       refine WO.k2 rfl rfl rfl rfl (rn_fieldAddr Tryd.runUnderlying42 rfl Tryd.sizeOf35 rfl rfl) ?_
       have f204 := f197.stp S202 rfl rfl
       have f205 := f58.stp (S64.tr (S68.tr (S76.tr (S85.tr (S162.tr (S167.tr (S196.tr S202))))))) rfl rfl
       refine WO.app (κ := K201) (E := (Ep.own (Ep.int .i64) 2)) 11 [18] rfl rfl rfl rfl rfl rfl rfl rfl rfl Tryd.underlying35 Trydinfo60 rfl rfl rfl rfl f205 f204.src (sy_one rfl) hx97 rfl fun a97 u97 w206 K207 S208 f209 => ⟨((S167.tr (S196.tr (S202.tr S208))).cl rfl), ?_⟩
       refine WO.wa ?_
       refine WA.brk (fuel := 2) 11 (by kernel_rfl) rfl (by kernel_rfl) ?_
       have f210 := f163.stp (S167.tr (S196.tr (S202.tr S208))) rfl rfl
       refine WO.stB (κ := K207) 9 (off := 0) (vc := [.slice a92 x92.length u92]) (cs' := [.slice a92 x92.length u92, .slice las1_1 s1.2.length lus1_1]) rfl rfl rfl rfl rfl rfl rfl Tryd.sizeOf35 rfl rfl f210 rfl rfl fun w211 S212 f213 => ⟨trivial, ?_⟩
       refine WO.wa ?_
       refine WA.seg (fuel := 0) [(12, 2), (13, 1)] (by kernel_rfl) (by kernel_rfl) rfl ?_
       refine WO.k2 rfl rfl rfl rfl (rn_fieldAddr Tryd.runUnderlying42 rfl Tryd.sizeOf35 rfl rfl) ?_
       refine WO.stB (κ := K207) 9 (off := 1) (vc := [.slice a97 x97.length u97]) (cs' := [.slice a92 x92.length u92, .slice a97 x97.length u97]) rfl rfl rfl rfl rfl rfl rfl Tryd.sizeOf35 rfl rfl f213 rfl rfl fun w214 S215 f216 => ⟨trivial, ?_⟩
       refine WO.wa ?_
       refine WA.last [] (by kernel_rfl) (by kernel_rfl) rfl ?_
       refine WO.fin ?_
       have f217 := f203.stp (S208.tr (S212.tr S215)) rfl rfl
       have f218 := f209.stp (S212.tr S215) rfl rfl
       exact DN.meet _ ⟨(fun b => ren [(10, 17), (11, 18)] (K207 b)), a92, u92, a97, u97, rfl, (Stp.ren ((S162.tr (S167.tr (S196.tr (S202.tr (S208.tr (S212.tr S215)))))).wk rfl) [(10, 17), (11, 18)] rfl), (f217.map (ren [(10, 17), (11, 18)]) rfl rfl), (f218.map (ren [(10, 17), (11, 18)]) rfl rfl), (f216.map (ren [(10, 17), (11, 18)]) rfl rfl)⟩ fun a ha => (ha.more (ha.more (ha.more (ha.more (ha.more (ha.more (ha.more ha.nil rfl) rfl) rfl) rfl) rfl) rfl) rfl)
     ·
      have f219 := f87.stp S162 rfl rfl
      refine WO.bl (κ := K84) (E := (Ep.own (Ep.int .i64) 2)) 17 [13] (parts := [(0, .tmp 95)]) (cells := [.slice las6_1 s6.2.length lus6_1]) (xs := ([s6.2] : List (List Int))) rfl rfl rfl rfl rfl rfl Tryd.underlying35 Trydinfo60 rfl rfl rfl rfl rfl rfl rfl rfl rfl rfl ⟨[.slice las6_1 s6.2.length lus6_1], [], Zl K84 w161 [13], Zl K84 w161 [], rfl, Zl.sp (l1 := [13]) (l2 := []) rfl, Zl.sr (l1 := [13]) (l2 := []), ⟨_, _, rfl, f219⟩, rfl⟩ fun a96 u96 w220 K221 S222 f223 => ⟨(S222.cl rfl), ?_⟩
      refine WO.wa ?_
      refine WA.seg (fuel := 3) [(3, 1), (4, 1), (10, 2), (9, 1)] (by kernel_rfl) (by kernel_rfl) rfl ?_
      have f224 := f86.stp (S162.tr S222) rfl rfl
      refine WO.bl (κ := K221) (E := (Ep.own (Ep.int .i64) 2)) 18 [12] (parts := [(0, .tmp 90)]) (cells := [.slice las6_0 s6.1.length lus6_0]) (xs := ([s6.1] : List (List Int))) rfl rfl rfl rfl rfl rfl Tryd.underlying35 Trydinfo60 rfl rfl rfl rfl rfl rfl rfl rfl rfl rfl ⟨[.slice las6_0 s6.1.length lus6_0], [], Zl K221 w220 [12], Zl K221 w220 [], rfl, Zl.sp (l1 := [12]) (l2 := []) rfl, Zl.sr (l1 := [12]) (l2 := []), ⟨_, _, rfl, f224⟩, rfl⟩ fun a91 u91 w225 K226 S227 f228 => ⟨((S222.tr S227).cl rfl), ?_⟩
      have f229 := f57.stp (S64.tr (S68.tr (S76.tr (S85.tr (S162.tr (S222.tr S227)))))) rfl rfl
      refine WO.app (κ := K226) (E := (Ep.own (Ep.int .i64) 2)) 10 [18] rfl rfl rfl rfl rfl rfl rfl rfl rfl Tryd.underlying35 Trydinfo60 rfl rfl rfl rfl f229 f228.src (sy_one rfl) hx92 rfl fun a92 u92 w230 K231 S232 f233 => ⟨((S222.tr (S227.tr S232)).cl rfl), ?_⟩
      refine WO.k2 rfl rfl rfl rfl (rn_fieldAddr Tryd.runUnderlying42 rfl Tryd.sizeOf35 rfl rfl) ?_
      have f234 := f223.stp (S227.tr S232) rfl rfl
      have f235 := f58.stp (S64.tr (S68.tr (S76.tr (S85.tr (S162.tr (S222.tr (S227.tr S232))))))) rfl rfl
      refine WO.app (κ := K231) (E := (Ep.own (Ep.int .i64) 2)) 11 [17] rfl rfl rfl rfl rfl rfl rfl rfl rfl Tryd.underlying35 Trydinfo60 rfl rfl rfl rfl f235 f234.src (sy_one rfl) hx97 rfl fun a97 u97 w236 K237 S238 f239 => ⟨((S222.tr (S227.tr (S232.tr S238))).cl rfl), ?_⟩
      refine WO.wa ?_
      refine WA.brk (fuel := 2) 11 (by kernel_rfl) rfl (by kernel_rfl) ?_
      have f240 := f163.stp (S222.tr (S227.tr (S232.tr S238))) rfl rfl
      refine WO.stB (κ := K237) 9 (off := 0) (vc := [.slice a92 x92.length u92]) (cs' := [.slice a92 x92.length u92, .slice las1_1 s1.2.length lus1_1]) rfl rfl rfl rfl rfl rfl rfl Tryd.sizeOf35 rfl rfl f240 rfl rfl fun w241 S242 f243 => ⟨trivial, ?_⟩
      refine WO.wa ?_
      refine WA.seg (fuel := 0) [(12, 2), (13, 1)] (by kernel_rfl) (by kernel_rfl) rfl ?_
      refine WO.k2 rfl rfl rfl rfl (rn_fieldAddr Tryd.runUnderlying42 rfl Tryd.sizeOf35 rfl rfl) ?_
      refine WO.stB (κ := K237) 9 (off := 1) (vc := [.slice a97 x97.length u97]) (cs' := [.slice a92 x92.length u92, .slice a97 x97.length u97]) rfl rfl rfl rfl rfl rfl rfl Tryd.sizeOf35 rfl rfl f243 rfl rfl fun w244 S245 f246 => ⟨trivial, ?_⟩
      refine WO.wa ?_
      refine WA.last [] (by kernel_rfl) (by kernel_rfl) rfl ?_
      refine WO.fin ?_
      have f247 := f233.stp (S238.tr (S242.tr S245)) rfl rfl
      have f248 := f239.stp (S242.tr S245) rfl rfl
      exact DN.meet _ ⟨(fun b => ren [(10, 17), (11, 18)] (K237 b)), a92, u92, a97, u97, rfl, (Stp.ren ((S162.tr (S222.tr (S227.tr (S232.tr (S238.tr (S242.tr S245)))))).wk rfl) [(10, 17), (11, 18)] rfl), (f247.map (ren [(10, 17), (11, 18)]) rfl rfl), (f248.map (ren [(10, 17), (11, 18)]) rfl rfl), (f246.map (ren [(10, 17), (11, 18)]) rfl rfl)⟩ fun a ha => (ha.more (ha.more (ha.more (ha.more (ha.more (ha.more (ha.more ha.nil rfl) rfl) rfl) rfl) rfl) rfl) rfl)
    rintro _ w154 ⟨K155, lar157_0, lur157_0, lar157_1, lur157_1, rfl, S156, f158, f159, f160⟩
    refine DN.block ?_
    refine DN.seq ?_
    refine WC.rs [(0, 2), (1, 2)] rfl ?_
    refine WO.pn 2 rfl ?_
    refine WO.fin ?_
    have hw45 : IntKind.wrap .i64 (v39 + 1) = v39 + 1 := wr1 hj45 (of_decide_eq_true hc45) hN45
    rw [hw45]
    have hc45 := of_decide_eq_true hc45
    obtain rfl := Option.some.inj h
    refine DN.round fun a ha => ?_
    exact ⟨k, _, Nat.lt_succ_self _, ⟨(fun b => ren [(17, 10), (18, 11)] (K155 b)), v39 + 1, ((x92 : (List (List Int))), (x97 : (List (List Int)))), lar157_0, lur157_0, lar157_1, lur157_1, rfl, (Stp.ren ((S56.tr (S64.tr (S68.tr (S76.tr (S85.tr S156))))).wk rfl) [(17, 10), (18, 11)] rfl), (f158.map (ren [(17, 10), (18, 11)]) rfl rfl), (f159.map (ren [(17, 10), (18, 11)]) rfl rfl), (f160.map (ren [(17, 10), (18, 11)]) rfl rfl), by omega, by omega, hk60⟩, (ha.more (ha.more (ha.more (ha.more (ha.more (ha.more (ha.more ha.nil rfl) rfl) rfl) rfl) rfl) rfl) rfl)⟩
  rintro _ w48 ⟨K49, s3, las3_0, lus3_0, las3_1, lus3_1, rfl, S50, f51, f52, f53, rfl⟩
  have h := hK46
  dsimp only [aft] at h
  refine DN.seq ?_
  refine WC.seq ?_
  refine WC.seq ?_
  refine WC.rs [(0, 2), (1, 2), (2, 2), (3, 1), (4, 1), (5, 1), (6, 2), (7, 2)] rfl ?_
  refine WO.pn 3 rfl ?_
  obtain ⟨p108, h, hK249⟩ := Option.bind_eq_some_iff.mp h
  refine WO.meet [(3, 1), (4, 1), (5, 1), (6, 2), (7, 2)] [] (fun L w' => L = [(4, .pointer (some ⟨b4, 0, none⟩)), (8, .pointer (some ⟨b8, 0, none⟩)), (108, .bool p108)] ∧ ∃ κ', Stp [] K49 w48 κ' w') trivial ?_ ?_
  ·
   revert h
   cases ht250 : (!x33.2) with
   | true =>
    intro h; replace h := cT h
    refine WO.ls rfl rfl rfl rfl ?_
    refine WO.ls rfl rfl rfl rfl ?_
    refine WO.ls rfl rfl rfl rfl ?_
    refine WO.pn 2 rfl ?_
    obtain rfl := Option.some.inj h
    exact WO.met _ trivial ⟨rfl, _, (Stp.refl _ _).wk rfl⟩ fun a ha => (ha.more (ha.more (ha.more ha.nil rfl) rfl) rfl)
   | false =>
    intro h; replace h := cF h
    have f251 := f9.stp (S14.tr (S21.tr (S34.tr (S40.tr (S43.tr S50))))) rfl rfl
    refine WO.k1 trivial rfl rfl rfl rfl (rn_la (cs := [.int .i64 p0.In, .int .i64 p0.Out]) Tryd.isAgg40 Tryd.sizeOf40 rfl rfl rfl (haE f251.cells)) ?_
    refine WO.k1 trivial rfl rfl rfl rfl (rn_la (cs := [.slice las3_0 s3.1.length lus3_0, .slice las3_1 s3.2.length lus3_1]) Tryd.isAgg42 Tryd.sizeOf42 rfl rfl rfl (haE f53.cells)) ?_
    obtain ⟨x106, hx106, h⟩ := Option.bind_eq_some_iff.mp h
    refine WO.call rfl rfl rfl rfl rfl rfl Tryd.call48 (i_isMachine_ok (κ := fun b => mp [] 0 (K49 b)) (p0 := p0) (p1 := (⟨s3.1, s3.2⟩ : Machine)) (Sl.map f51.rdc (mp [] 0) rfl rfl) (Sl.map f52.rdc (mp [] 0) rfl rfl) hx106) ?_
    rintro _ w252 ⟨k253, rfl, e254⟩
    obtain ⟨K255, S256, m257⟩ := Ent.mixed (l := []) (κ := K49) e254 12 rfl
    refine ⟨trivial, ?_⟩
    refine WO.pn 2 rfl ?_
    obtain rfl := Option.some.inj h
    exact WO.met _ trivial ⟨rfl, _, S256.wk rfl⟩ fun a ha => (ha.more (ha.more (ha.more ha.nil rfl) rfl) rfl)
  rintro _ w259 _ ⟨rfl, K260, S261⟩
  have h := hK249
  refine WO.fin ?_
  refine DN.seq ?_
  revert h
  cases ht262 : p108 with
  | true =>
   intro h; replace h := cT h
   refine WC.ct rfl ?_
   refine WC.seq ?_
   refine WC.rs [(0, 2), (1, 1), (2, 2)] rfl ?_
   refine WO.k2 rfl rfl rfl rfl (rn_build (parts := []) (cells := [.slice none 0 0, .slice none 0 0]) rfl rfl (by kernel_rfl)) ?_
   have f263 := f8.stp (S14.tr (S21.tr (S34.tr (S40.tr (S43.tr (S50.tr S261)))))) rfl rfl
   refine WO.stB0 (κ := K260) 3 (vc := [.slice none 0 0, .slice none 0 0]) rfl rfl rfl rfl rfl rfl rfl Tryd.sizeOf42 rfl rfl f263 rfl fun w264 S265 f266 => ⟨trivial, ?_⟩
   refine WO.pn 1 rfl ?_
   refine WO.fin ?_
   refine DN.seq ?_
   refine WC.ret ?_
   refine DN.retThen ?_
   have f267 := hE.stp (S3.tr (S7.tr (S14.tr (S21.tr (S34.tr (S40.tr (S43.tr (S50.tr (S261.tr S265))))))))) rfl rfl
   refine DN.res (l := [.cell 4 42, .tmp 5]) Tryd.results24 (res_cellA rfl f266 Tryd.isAgg42 Tryd.sizeOf42 rfl (res_tmp rfl rfl)) rfl ?_
   obtain rfl := Option.some.inj h
   exact ⟨K260, none, 0, none, 0, rfl, f267, Ow.nil, Ow.nil⟩
  | false =>
   intro h; replace h := cF h
   refine WC.cf rfl ?_
   refine WC.skip ?_
   refine DN.seq ?_
   refine WC.seq ?_
   refine WC.rs [(0, 1), (1, 1), (2, 2)] rfl ?_
   have f268 := f53.stp S261 rfl rfl
   refine WO.k1 trivial rfl rfl rfl rfl (rn_la (cs := [.slice las3_0 s3.1.length lus3_0, .slice las3_1 s3.2.length lus3_1]) Tryd.isAgg42 Tryd.sizeOf42 rfl rfl rfl (haE f268.cells)) ?_
   have f269 := f8.stp (S14.tr (S21.tr (S34.tr (S40.tr (S43.tr (S50.tr S261)))))) rfl rfl
   refine WO.stB0 (κ := K260) 3 (vc := [.slice las3_0 s3.1.length lus3_0, .slice las3_1 s3.2.length lus3_1]) rfl rfl rfl rfl rfl rfl rfl Tryd.sizeOf42 rfl rfl f269 rfl fun w270 S271 f272 => ⟨trivial, ?_⟩
   refine WO.pn 1 rfl ?_
   refine WO.fin ?_
   refine DN.seq ?_
   refine WC.ret ?_
   have f273 := hE.stp (S3.tr (S7.tr (S14.tr (S21.tr (S34.tr (S40.tr (S43.tr (S50.tr (S261.tr S271))))))))) rfl rfl
   have f274 := f51.stp (S261.tr S271) rfl rfl
   have f275 := f52.stp (S261.tr S271) rfl rfl
   refine DN.res (l := [.cell 4 42, .tmp 5]) Tryd.results24 (res_cellA rfl f272 Tryd.isAgg42 Tryd.sizeOf42 rfl (res_tmp rfl rfl)) rfl ?_
   obtain rfl := Option.some.inj h
   exact ⟨(fun b => ren [(10, 2), (11, 3)] (K260 b)), las3_0, lus3_0, las3_1, lus3_1, rfl, (f273.map (ren [(10, 2), (11, 3)]) rfl rfl), (f274.map (ren [(10, 2), (11, 3)]) rfl rfl), (f275.map (ren [(10, 2), (11, 3)]) rfl rfl)⟩

/- loop.example/g00869/laws.FnExactTextMachine -/
theorem l_FnExactTextMachine_ok {w : World} {κ : Col} {p0 : Sig} {p1 : ByteArray} (gGM : Vm 1 κ w) {r : Bool} (h : l_FnExactTextMachine p0 p1 = some r) : Ret Tryd.prog 7 [.agg #[.int .i64 p0.In, .int .i64 p0.Out], .string p1] w (fun v w' => ∃ (κ' : Col), v = .bool r ∧ Ent κ w κ' w') := by
 unfold l_FnExactTextMachine at h
 refine Ret.enter Tryd.func7 rfl Tryd.ntmps7 rfl ?_
 dsimp only [envOf]
 have hE := Ent.refl κ w
 refine WC.seq ?_
 refine WC.rs [(0, 1), (1, 2)] rfl ?_
 refine WO.box (κ := κ) 2 rfl rfl rfl rfl rfl rfl rfl fun b2 w1 K2 S3 f4 => ⟨trivial, ?_⟩
 refine WO.pn 1 rfl ?_
 refine WO.fin ?_
 refine DN.seq ?_
 refine WC.seq ?_
 refine WC.seq ?_
 refine WC.rs [(0, 2), (1, 2), (2, 2)] rfl ?_
 refine WO.pn 1 rfl ?_
 refine WO.k2 rfl rfl rfl rfl (rn_lenS Tryd.runUnderlying9 rfl rfl) ?_
 refine WO.pn 1 rfl ?_
 refine WO.fin ?_
 refine DN.seq ?_
 revert h
 cases ht5 : decide (1048576 < (p1.size : Int)) with
 | true =>
  intro h; replace h := cT h
  refine WC.ct rfl ?_
  refine WC.seq ?_
  refine WC.rs [(0, 2)] rfl ?_
  refine WO.pn 1 rfl ?_
  refine WO.fin ?_
  refine DN.seq ?_
  refine WC.ret ?_
  refine DN.retThen ?_
  have f6 := hE.stp S3 rfl rfl
  refine DN.res (l := [.tmp 4]) Tryd.results7 (res_tmp rfl rfl) rfl ?_
  obtain rfl := Option.some.inj h
  exact ⟨K2, rfl, f6⟩
 | false =>
  intro h; replace h := cF h
  refine WC.cf rfl ?_
  refine WC.skip ?_
  refine DN.seq ?_
  refine WC.seq ?_
  refine WC.rs [(0, 1), (1, 1), (2, 2), (3, 1), (4, 2), (5, 2), (6, 2), (7, 1), (8, 1), (9, 2)] rfl ?_
  refine WO.k1 trivial rfl rfl rfl rfl (rn_la (cs := [.int .i64 p0.In, .int .i64 p0.Out]) Tryd.isAgg34 Tryd.sizeOf34 rfl rfl rfl (haE f4.cells)) ?_
  obtain ⟨x18, hx18, h⟩ := Option.bind_eq_some_iff.mp h
  refine WO.call rfl rfl rfl rfl rfl rfl Tryd.call17 (l_toSig_ok (κ := fun b => mp [] 0 (K2 b)) (p0 := p0) hx18) ?_
  rintro _ w7 ⟨k8, rfl, e9⟩
  obtain ⟨K10, S11, m12⟩ := Ent.mixed (l := []) (κ := K2) e9 3 rfl
  refine ⟨trivial, ?_⟩
  refine WO.pn 1 rfl ?_
  obtain ⟨x20, hx20, h⟩ := Option.bind_eq_some_iff.mp h
  refine WO.call rfl rfl rfl rfl rfl rfl Tryd.call23 (s_TextMachine_ok (κ := fun b => mp [] 0 (K10 b)) (p0 := x18) hx20) ?_
  rintro _ w14 ⟨k15, a20_0, u20_0, a20_1, u20_1, rfl, e16, f17, f18⟩
  obtain ⟨K19, S20, m21⟩ := Ent.mixed (l := []) (κ := K10) e16 5 rfl
  refine ⟨trivial, ?_⟩
  have f23 := f17.mx (no_own (no_int _) _) m21 rfl (rfl : 5 + 2 = 7)
  have f24 := f18.mx (no_own (no_int _) _) m21 rfl (rfl : 5 + 3 = 8)
  refine WO.pn 3 rfl ?_
  refine WO.alloc (κ := K19) 9 rfl rfl rfl rfl rfl Tryd.zeroValue42 rfl fun b5 w25 K26 S27 f28 => ⟨trivial, ?_⟩
  refine WO.stB0 (κ := K26) 9 (vc := [.slice a20_0 x20.1.Next.length u20_0, .slice a20_1 x20.1.Out.length u20_1]) rfl rfl rfl rfl rfl rfl rfl Tryd.sizeOf42 rfl rfl f28 rfl fun w29 S30 f31 => ⟨trivial, ?_⟩
  refine WO.pn 1 rfl ?_
  refine WO.fin ?_
  refine DN.seq ?_
  refine WC.seq ?_
  refine WC.rs [(0, 1), (1, 1), (2, 2), (3, 1), (4, 2), (5, 2), (6, 2), (7, 1), (8, 1), (9, 2)] rfl ?_
  have f32 := f4.stp (S11.tr (S20.tr (S27.tr S30))) rfl rfl
  refine WO.k1 trivial rfl rfl rfl rfl (rn_la (cs := [.int .i64 p0.In, .int .i64 p0.Out]) Tryd.isAgg34 Tryd.sizeOf34 rfl rfl rfl (haE f32.cells)) ?_
  obtain ⟨x25, hx25, h⟩ := Option.bind_eq_some_iff.mp h
  refine WO.call rfl rfl rfl rfl rfl rfl Tryd.call17 (l_toSig_ok (κ := fun b => mp [] 0 (K26 b)) (p0 := p0) hx25) ?_
  rintro _ w33 ⟨k34, rfl, e35⟩
  obtain ⟨K36, S37, m38⟩ := Ent.mixed (l := []) (κ := K26) e35 10 rfl
  refine ⟨trivial, ?_⟩
  refine WO.pn 1 rfl ?_
  obtain ⟨x27, hx27, h⟩ := Option.bind_eq_some_iff.mp h
  have f40 := gGM.stp (S3.tr (S11.tr (S20.tr (S27.tr (S30.tr S37))))) rfl rfl
  refine WO.call rfl rfl rfl rfl rfl rfl Tryd.call24 (i_TextMachine_ok (κ := fun b => mp [] 0 (K36 b)) (p0 := x25) (f40.map (mp [] 0) rfl rfl) hx27) ?_
  rintro _ w41 ⟨k42, a27_0, u27_0, a27_1, u27_1, rfl, e43, f44, f45⟩
  obtain ⟨K46, S47, m48⟩ := Ent.mixed (l := []) (κ := K36) e43 12 rfl
  refine ⟨trivial, ?_⟩
  have f50 := f44.mx (no_own (no_int _) _) m48 rfl (rfl : 12 + 2 = 14)
  have f51 := f45.mx (no_own (no_int _) _) m48 rfl (rfl : 12 + 3 = 15)
  refine WO.pn 3 rfl ?_
  refine WO.alloc (κ := K46) 16 rfl rfl rfl rfl rfl Tryd.zeroValue42 rfl fun b7 w52 K53 S54 f55 => ⟨trivial, ?_⟩
  refine WO.stB0 (κ := K53) 16 (vc := [.slice a27_0 x27.1.Next.length u27_0, .slice a27_1 x27.1.Out.length u27_1]) rfl rfl rfl rfl rfl rfl rfl Tryd.sizeOf42 rfl rfl f55 rfl fun w56 S57 f58 => ⟨trivial, ?_⟩
  refine WO.pn 1 rfl ?_
  refine WO.fin ?_
  refine DN.seq ?_
  refine WC.seq ?_
  refine WC.seq ?_
  refine WC.rs [(0, 1), (1, 1), (2, 1), (3, 2), (4, 2), (5, 2), (6, 2), (7, 2), (8, 2)] rfl ?_
  refine WO.k1 trivial rfl rfl rfl rfl (rn_la (cs := [.slice a27_0 x27.1.Next.length u27_0, .slice a27_1 x27.1.Out.length u27_1]) Tryd.isAgg42 Tryd.sizeOf42 rfl rfl rfl (haE f58.cells)) ?_
  have f59 := f31.stp (S37.tr (S47.tr (S54.tr S57))) rfl rfl
  refine WO.k1 trivial rfl rfl rfl rfl (rn_la (cs := [.slice a20_0 x20.1.Next.length u20_0, .slice a20_1 x20.1.Out.length u20_1]) Tryd.isAgg42 Tryd.sizeOf42 rfl rfl rfl (haE f59.cells)) ?_
  obtain ⟨x32, hx32, h⟩ := Option.bind_eq_some_iff.mp h
  have f60 := f50.stp (S54.tr S57) rfl rfl
  have f61 := f51.stp (S54.tr S57) rfl rfl
  have f62 := f23.stp (S27.tr (S30.tr (S37.tr (S47.tr (S54.tr S57))))) rfl rfl
  have f63 := f24.stp (S27.tr (S30.tr (S37.tr (S47.tr (S54.tr S57))))) rfl rfl
  refine WO.call rfl rfl rfl rfl rfl rfl Tryd.call20 (l_eqMachine_ok (κ := fun b => mp [] 0 (K53 b)) (p0 := x27.1) (p1 := x20.1) (Sl.map f60.rdc (mp [] 0) rfl rfl) (Sl.map f61.rdc (mp [] 0) rfl rfl) (Sl.map f62.rdc (mp [] 0) rfl rfl) (Sl.map f63.rdc (mp [] 0) rfl rfl) hx32) ?_
  rintro _ w64 ⟨k65, rfl, e66⟩
  obtain ⟨K67, S68, m69⟩ := Ent.mixed (l := []) (κ := K53) e66 17 rfl
  refine ⟨trivial, ?_⟩
  refine WO.pn 2 rfl ?_
  obtain ⟨p38, h, hK71⟩ := Option.bind_eq_some_iff.mp h
  refine WO.meet [(5, 2), (6, 2), (7, 2), (8, 2)] [] (fun L w' => L = [(1, .string p1), (2, .pointer (some ⟨b2, 0, none⟩)), (5, .pointer (some ⟨b5, 0, none⟩)), (6, .bool x20.2), (7, .pointer (some ⟨b7, 0, none⟩)), (38, .bool p38)] ∧ ∃ κ', Stp [] K67 w64 κ' w') trivial ?_ ?_
  ·
   revert h
   cases ht72 : (!x32) with
   | true =>
    intro h; replace h := cT h
    refine WO.pn 4 rfl ?_
    obtain rfl := Option.some.inj h
    exact WO.met _ trivial ⟨rfl, _, (Stp.refl _ _).wk rfl⟩ fun a ha => (ha.more (ha.more (ha.more (ha.more (ha.more (ha.more ha.nil rfl) rfl) rfl) rfl) rfl) rfl)
   | false =>
    intro h; replace h := cF h
    refine WO.pn 2 rfl ?_
    refine WO.k2 rfl rfl rfl rfl (rn_neqB rfl rfl Tryd.runUnderlying4 rfl) ?_
    refine WO.pn 1 rfl ?_
    obtain rfl := Option.some.inj h
    exact WO.met _ trivial ⟨rfl, _, (Stp.refl _ _).wk rfl⟩ fun a ha => (ha.more (ha.more (ha.more (ha.more (ha.more (ha.more ha.nil rfl) rfl) rfl) rfl) rfl) rfl)
  rintro _ w73 _ ⟨rfl, K74, S75⟩
  have h := hK71
  refine WO.fin ?_
  refine DN.seq ?_
  revert h
  cases ht76 : p38 with
  | true =>
   intro h; replace h := cT h
   refine WC.ct rfl ?_
   refine WC.seq ?_
   refine WC.rs [(0, 2)] rfl ?_
   refine WO.pn 1 rfl ?_
   refine WO.fin ?_
   refine DN.seq ?_
   refine WC.ret ?_
   refine DN.retThen ?_
   have f77 := hE.stp (S3.tr (S11.tr (S20.tr (S27.tr (S30.tr (S37.tr (S47.tr (S54.tr (S57.tr (S68.tr S75)))))))))) rfl rfl
   refine DN.res (l := [.tmp 4]) Tryd.results7 (res_tmp rfl rfl) rfl ?_
   obtain rfl := Option.some.inj h
   exact ⟨K74, rfl, f77⟩
  | false =>
   intro h; replace h := cF h
   refine WC.cf rfl ?_
   refine WC.skip ?_
   refine DN.seq ?_
   refine WC.seq ?_
   refine WC.rs [(0, 2)] rfl ?_
   refine WO.pn 1 rfl ?_
   refine WO.fin ?_
   refine DN.seq ?_
   refine WC.seq ?_
   refine WC.rs [(0, 1), (1, 2), (2, 1), (3, 2)] rfl ?_
   have f78 := f58.stp (S68.tr S75) rfl rfl
   refine WO.k1 trivial rfl rfl rfl rfl (rn_la (cs := [.slice a27_0 x27.1.Next.length u27_0, .slice a27_1 x27.1.Out.length u27_1]) Tryd.isAgg42 Tryd.sizeOf42 rfl rfl rfl (haE f78.cells)) ?_
   refine WO.pn 1 rfl ?_
   obtain ⟨x41, hx41, h⟩ := Option.bind_eq_some_iff.mp h
   have f79 := f60.stp (S68.tr S75) rfl rfl
   have f80 := f61.stp (S68.tr S75) rfl rfl
   refine WO.call rfl rfl rfl rfl rfl rfl Tryd.call25 (l_markMachine_ok (κ := fun b => mp [(14, 2), (15, 3)] 0 (K74 b)) (p0 := x27.1) (f79.map (mp [(14, 2), (15, 3)] 0) rfl rfl) (f80.map (mp [(14, 2), (15, 3)] 0) rfl rfl) hx41) ?_
   rintro _ w81 ⟨k82, rfl, e83, f84, hn85, f86, hn87⟩
   obtain ⟨K88, S89, m90⟩ := Ent.mixed (l := [(14, 2), (15, 3)]) (κ := K74) e83 19 rfl
   refine ⟨trivial, ?_⟩
   have f92 := f84.mx (no_own (no_int _) _) m90 rfl (rfl : 19 + 2 = 21)
   have f93 := f86.mx (no_own (no_int _) _) m90 rfl (rfl : 19 + 3 = 22)
   refine WO.pn 1 rfl ?_
   refine WO.fin ?_
   refine DN.seq ?_
   refine WC.seq ?_
   refine WC.rs [(0, 2)] rfl ?_
   refine WO.pn 1 rfl ?_
   refine WO.fin ?_
   refine DN.seq ?_
   refine WC.seq ?_
   refine WC.rs [(0, 1), (1, 2), (2, 1), (3, 2)] rfl ?_
   have f94 := f78.stp S89 rfl rfl
   refine WO.k1 trivial rfl rfl rfl rfl (rn_la (cs := [.slice a27_0 x27.1.Next.length u27_0, .slice a27_1 x27.1.Out.length u27_1]) Tryd.isAgg42 Tryd.sizeOf42 rfl rfl rfl (haE f94.cells)) ?_
   refine WO.pn 1 rfl ?_
   obtain ⟨x44, hx44, h⟩ := Option.bind_eq_some_iff.mp h
   refine WO.call rfl rfl rfl rfl rfl rfl Tryd.call26 (Ret.cast (by simp only [(hn85), (hn87), List.cons_append, List.nil_append]) (l_heldMachine_ok (κ := fun b => mp [] 0 (K88 b)) (p0 := (⟨x41.2.1, x41.2.2⟩ : Machine)) (Sl.map f92.rdc (mp [] 0) rfl rfl) (Sl.map f93.rdc (mp [] 0) rfl rfl) hx44)) ?_
   rintro _ w95 ⟨k96, rfl, e97⟩
   obtain ⟨K98, S99, m100⟩ := Ent.mixed (l := []) (κ := K88) e97 23 rfl
   refine ⟨trivial, ?_⟩
   refine WO.pn 1 rfl ?_
   refine WO.fin ?_
   refine DN.seq ?_
   refine WC.seq ?_
   refine WC.seq ?_
   refine WC.rs [(0, 2), (1, 2)] rfl ?_
   refine WO.pn 2 rfl ?_
   refine WO.fin ?_
   refine DN.seq ?_
   revert h
   cases ht102 : decide (x44 < 0) with
   | true =>
    intro h; replace h := cT h
    refine WC.ct rfl ?_
    refine WC.seq ?_
    refine WC.rs [(0, 2)] rfl ?_
    refine WO.pn 1 rfl ?_
    refine WO.fin ?_
    refine DN.seq ?_
    refine WC.ret ?_
    refine DN.retThen ?_
    have f103 := hE.stp (S3.tr (S11.tr (S20.tr (S27.tr (S30.tr (S37.tr (S47.tr (S54.tr (S57.tr (S68.tr (S75.tr (S89.tr S99)))))))))))) rfl rfl
    refine DN.res (l := [.tmp 4]) Tryd.results7 (res_tmp rfl rfl) rfl ?_
    obtain rfl := Option.some.inj h
    exact ⟨K98, rfl, f103⟩
   | false =>
    intro h; replace h := cF h
    refine WC.cf rfl ?_
    refine WC.skip ?_
    refine DN.seq ?_
    refine WC.seq ?_
    refine WC.seq ?_
    refine WC.rs [(0, 2), (1, 2), (2, 2)] rfl ?_
    refine WO.pn 3 rfl ?_
    refine WO.fin ?_
    refine DN.seq ?_
    revert h
    cases ht104 : (x44 != x41.1) with
    | true =>
     intro h; replace h := cT h
     refine WC.ct rfl ?_
     refine WC.seq ?_
     refine WC.rs [(0, 2)] rfl ?_
     refine WO.pn 1 rfl ?_
     refine WO.fin ?_
     refine DN.seq ?_
     refine WC.ret ?_
     refine DN.retThen ?_
     have f105 := hE.stp (S3.tr (S11.tr (S20.tr (S27.tr (S30.tr (S37.tr (S47.tr (S54.tr (S57.tr (S68.tr (S75.tr (S89.tr S99)))))))))))) rfl rfl
     refine DN.res (l := [.tmp 4]) Tryd.results7 (res_tmp rfl rfl) rfl ?_
     obtain rfl := Option.some.inj h
     exact ⟨K98, rfl, f105⟩
    | false =>
     intro h; replace h := cF h
     refine WC.cf rfl ?_
     refine WC.skip ?_
     refine DN.seq ?_
     refine WC.seq ?_
     refine WC.rs [(0, 1), (1, 1), (2, 2), (3, 1), (4, 2), (5, 2), (6, 2), (7, 1), (8, 1), (9, 2)] rfl ?_
     have f106 := f32.stp (S37.tr (S47.tr (S54.tr (S57.tr (S68.tr (S75.tr (S89.tr S99))))))) rfl rfl
     refine WO.k1 trivial rfl rfl rfl rfl (rn_la (cs := [.int .i64 p0.In, .int .i64 p0.Out]) Tryd.isAgg34 Tryd.sizeOf34 rfl rfl rfl (haE f106.cells)) ?_
     obtain ⟨x52, hx52, h⟩ := Option.bind_eq_some_iff.mp h
     refine WO.call rfl rfl rfl rfl rfl rfl Tryd.call17 (l_toSig_ok (κ := fun b => mp [] 0 (K98 b)) (p0 := p0) hx52) ?_
     rintro _ w107 ⟨k108, rfl, e109⟩
     obtain ⟨K110, S111, m112⟩ := Ent.mixed (l := []) (κ := K98) e109 25 rfl
     refine ⟨trivial, ?_⟩
     refine WO.pn 1 rfl ?_
     obtain ⟨x54, hx54, h⟩ := Option.bind_eq_some_iff.mp h
     have f114 := f40.stp (S47.tr (S54.tr (S57.tr (S68.tr (S75.tr (S89.tr (S99.tr S111))))))) rfl rfl
     refine WO.call rfl rfl rfl rfl rfl rfl Tryd.call24 (i_TextMachine_ok (κ := fun b => mp [] 0 (K110 b)) (p0 := x52) (f114.map (mp [] 0) rfl rfl) hx54) ?_
     rintro _ w115 ⟨k116, a54_0, u54_0, a54_1, u54_1, rfl, e117, f118, f119⟩
     obtain ⟨K120, S121, m122⟩ := Ent.mixed (l := []) (κ := K110) e117 27 rfl
     refine ⟨trivial, ?_⟩
     have f124 := f118.mx (no_own (no_int _) _) m122 rfl (rfl : 27 + 2 = 29)
     have f125 := f119.mx (no_own (no_int _) _) m122 rfl (rfl : 27 + 3 = 30)
     refine WO.pn 3 rfl ?_
     refine WO.alloc (κ := K120) 31 rfl rfl rfl rfl rfl Tryd.zeroValue42 rfl fun b11 w126 K127 S128 f129 => ⟨trivial, ?_⟩
     refine WO.stB0 (κ := K127) 31 (vc := [.slice a54_0 x54.1.Next.length u54_0, .slice a54_1 x54.1.Out.length u54_1]) rfl rfl rfl rfl rfl rfl rfl Tryd.sizeOf42 rfl rfl f129 rfl fun w130 S131 f132 => ⟨trivial, ?_⟩
     refine WO.pn 1 rfl ?_
     refine WO.fin ?_
     refine DN.seq ?_
     refine WC.seq ?_
     refine WC.seq ?_
     refine WC.rs [(0, 1), (1, 1), (2, 1), (3, 2), (4, 2), (5, 2), (6, 2), (7, 2), (8, 2)] rfl ?_
     refine WO.k1 trivial rfl rfl rfl rfl (rn_la (cs := [.slice a54_0 x54.1.Next.length u54_0, .slice a54_1 x54.1.Out.length u54_1]) Tryd.isAgg42 Tryd.sizeOf42 rfl rfl rfl (haE f132.cells)) ?_
     have f133 := f59.stp (S68.tr (S75.tr (S89.tr (S99.tr (S111.tr (S121.tr (S128.tr S131))))))) rfl rfl
     refine WO.k1 trivial rfl rfl rfl rfl (rn_la (cs := [.slice a20_0 x20.1.Next.length u20_0, .slice a20_1 x20.1.Out.length u20_1]) Tryd.isAgg42 Tryd.sizeOf42 rfl rfl rfl (haE f133.cells)) ?_
     obtain ⟨x59, hx59, h⟩ := Option.bind_eq_some_iff.mp h
     have f134 := f124.stp (S128.tr S131) rfl rfl
     have f135 := f125.stp (S128.tr S131) rfl rfl
     have f136 := f62.stp (S68.tr (S75.tr (S89.tr (S99.tr (S111.tr (S121.tr (S128.tr S131))))))) rfl rfl
     have f137 := f63.stp (S68.tr (S75.tr (S89.tr (S99.tr (S111.tr (S121.tr (S128.tr S131))))))) rfl rfl
     refine WO.call rfl rfl rfl rfl rfl rfl Tryd.call20 (l_eqMachine_ok (κ := fun b => mp [] 0 (K127 b)) (p0 := x54.1) (p1 := x20.1) (Sl.map f134.rdc (mp [] 0) rfl rfl) (Sl.map f135.rdc (mp [] 0) rfl rfl) (Sl.map f136.rdc (mp [] 0) rfl rfl) (Sl.map f137.rdc (mp [] 0) rfl rfl) hx59) ?_
     rintro _ w138 ⟨k139, rfl, e140⟩
     obtain ⟨K141, S142, m143⟩ := Ent.mixed (l := []) (κ := K127) e140 32 rfl
     refine ⟨trivial, ?_⟩
     refine WO.pn 2 rfl ?_
     obtain ⟨p65, h, hK145⟩ := Option.bind_eq_some_iff.mp h
     refine WO.meet [(5, 2), (6, 2), (7, 2), (8, 2)] [] (fun L w' => L = [(7, .pointer (some ⟨b7, 0, none⟩)), (9, .int .i64 x41.1), (65, .bool p65)] ∧ ∃ κ', Stp [] K141 w138 κ' w') trivial ?_ ?_
     ·
      revert h
      cases ht146 : (!x59) with
      | true =>
       intro h; replace h := cT h
       refine WO.pn 4 rfl ?_
       obtain rfl := Option.some.inj h
       exact WO.met _ trivial ⟨rfl, _, (Stp.refl _ _).wk rfl⟩ fun a ha => (ha.more (ha.more (ha.more ha.nil rfl) rfl) rfl)
      | false =>
       intro h; replace h := cF h
       refine WO.pn 2 rfl ?_
       refine WO.k2 rfl rfl rfl rfl (rn_neqB rfl rfl Tryd.runUnderlying4 rfl) ?_
       refine WO.pn 1 rfl ?_
       obtain rfl := Option.some.inj h
       exact WO.met _ trivial ⟨rfl, _, (Stp.refl _ _).wk rfl⟩ fun a ha => (ha.more (ha.more (ha.more ha.nil rfl) rfl) rfl)
     rintro _ w147 _ ⟨rfl, K148, S149⟩
     have h := hK145
     refine WO.fin ?_
     refine DN.seq ?_
     revert h
     cases ht150 : p65 with
     | true =>
      intro h; replace h := cT h
      refine WC.ct rfl ?_
      refine WC.seq ?_
      refine WC.rs [(0, 2)] rfl ?_
      refine WO.pn 1 rfl ?_
      refine WO.fin ?_
      refine DN.seq ?_
      refine WC.ret ?_
      refine DN.retThen ?_
      have f151 := hE.stp (S3.tr (S11.tr (S20.tr (S27.tr (S30.tr (S37.tr (S47.tr (S54.tr (S57.tr (S68.tr (S75.tr (S89.tr (S99.tr (S111.tr (S121.tr (S128.tr (S131.tr (S142.tr S149)))))))))))))))))) rfl rfl
      refine DN.res (l := [.tmp 4]) Tryd.results7 (res_tmp rfl rfl) rfl ?_
      obtain rfl := Option.some.inj h
      exact ⟨K148, rfl, f151⟩
     | false =>
      intro h; replace h := cF h
      refine WC.cf rfl ?_
      refine WC.skip ?_
      refine DN.seq ?_
      refine WC.seq ?_
      refine WC.rs [(0, 2)] rfl ?_
      refine WO.pn 1 rfl ?_
      refine WO.fin ?_
      refine DN.seq ?_
      refine WC.seq ?_
      refine WC.rs [(0, 1), (1, 2), (2, 1), (3, 2)] rfl ?_
      have f152 := f94.stp (S99.tr (S111.tr (S121.tr (S128.tr (S131.tr (S142.tr S149)))))) rfl rfl
      refine WO.k1 trivial rfl rfl rfl rfl (rn_la (cs := [.slice a27_0 x27.1.Next.length u27_0, .slice a27_1 x27.1.Out.length u27_1]) Tryd.isAgg42 Tryd.sizeOf42 rfl rfl rfl (haE f152.cells)) ?_
      refine WO.pn 1 rfl ?_
      obtain ⟨x68, hx68, h⟩ := Option.bind_eq_some_iff.mp h
      have f153 := f92.stp (S99.tr (S111.tr (S121.tr (S128.tr (S131.tr (S142.tr S149)))))) rfl rfl
      have f154 := f93.stp (S99.tr (S111.tr (S121.tr (S128.tr (S131.tr (S142.tr S149)))))) rfl rfl
      refine WO.call rfl rfl rfl rfl rfl rfl Tryd.call26 (Ret.cast (by simp only [(hn85), (hn87), List.cons_append, List.nil_append]) (l_heldMachine_ok (κ := fun b => mp [] 0 (K148 b)) (p0 := (⟨x41.2.1, x41.2.2⟩ : Machine)) (Sl.map f153.rdc (mp [] 0) rfl rfl) (Sl.map f154.rdc (mp [] 0) rfl rfl) hx68)) ?_
      rintro _ w155 ⟨k156, rfl, e157⟩
      obtain ⟨K158, S159, m160⟩ := Ent.mixed (l := []) (κ := K148) e157 34 rfl
      refine ⟨trivial, ?_⟩
      refine WO.pn 1 rfl ?_
      refine WO.fin ?_
      refine DN.seq ?_
      refine WC.seq ?_
      refine WC.seq ?_
      refine WC.rs [(0, 2), (1, 2)] rfl ?_
      refine WO.pn 2 rfl ?_
      refine WO.fin ?_
      refine DN.seq ?_
      revert h
      cases ht162 : decide (x68 < 0) with
      | true =>
       intro h; replace h := cT h
       refine WC.ct rfl ?_
       refine WC.seq ?_
       refine WC.rs [(0, 2)] rfl ?_
       refine WO.pn 1 rfl ?_
       refine WO.fin ?_
       refine DN.seq ?_
       refine WC.ret ?_
       refine DN.retThen ?_
       have f163 := hE.stp (S3.tr (S11.tr (S20.tr (S27.tr (S30.tr (S37.tr (S47.tr (S54.tr (S57.tr (S68.tr (S75.tr (S89.tr (S99.tr (S111.tr (S121.tr (S128.tr (S131.tr (S142.tr (S149.tr S159))))))))))))))))))) rfl rfl
       refine DN.res (l := [.tmp 4]) Tryd.results7 (res_tmp rfl rfl) rfl ?_
       obtain rfl := Option.some.inj h
       exact ⟨K158, rfl, f163⟩
      | false =>
       intro h; replace h := cF h
       refine WC.cf rfl ?_
       refine WC.skip ?_
       refine DN.seq ?_
       refine WC.seq ?_
       refine WC.seq ?_
       refine WC.rs [(0, 2), (1, 2), (2, 2)] rfl ?_
       refine WO.pn 3 rfl ?_
       refine WO.fin ?_
       refine DN.seq ?_
       revert h
       cases ht164 : (x68 != x41.1) with
       | true =>
        intro h; replace h := cT h
        refine WC.ct rfl ?_
        refine WC.seq ?_
        refine WC.rs [(0, 2)] rfl ?_
        refine WO.pn 1 rfl ?_
        refine WO.fin ?_
        refine DN.seq ?_
        refine WC.ret ?_
        refine DN.retThen ?_
        have f165 := hE.stp (S3.tr (S11.tr (S20.tr (S27.tr (S30.tr (S37.tr (S47.tr (S54.tr (S57.tr (S68.tr (S75.tr (S89.tr (S99.tr (S111.tr (S121.tr (S128.tr (S131.tr (S142.tr (S149.tr S159))))))))))))))))))) rfl rfl
        refine DN.res (l := [.tmp 4]) Tryd.results7 (res_tmp rfl rfl) rfl ?_
        obtain rfl := Option.some.inj h
        exact ⟨K158, rfl, f165⟩
       | false =>
        intro h; replace h := cF h
        refine WC.cf rfl ?_
        refine WC.skip ?_
        refine DN.seq ?_
        refine WC.seq ?_
        refine WC.rs [(0, 2)] rfl ?_
        refine WO.pn 1 rfl ?_
        refine WO.fin ?_
        refine DN.seq ?_
        refine WC.ret ?_
        have f166 := hE.stp (S3.tr (S11.tr (S20.tr (S27.tr (S30.tr (S37.tr (S47.tr (S54.tr (S57.tr (S68.tr (S75.tr (S89.tr (S99.tr (S111.tr (S121.tr (S128.tr (S131.tr (S142.tr (S149.tr S159))))))))))))))))))) rfl rfl
        refine DN.res (l := [.tmp 4]) Tryd.results7 (res_tmp rfl rfl) rfl ?_
        obtain rfl := Option.some.inj h
        exact ⟨K158, rfl, f166⟩

end Go.Proofs.YtnpmbkaoeihdmaaDoor
