/- The walks, part 4. By program. -/
import Derived.Test.YthjkonkcdfdfaaaFnsU1
import Derived.Test.YthjkonkcdfdfaaaFnsU2
set_option linter.unusedVariables false
set_option linter.unusedSimpArgs false
namespace Go.Proofs.Ythjkonkcdfdfaaa
open Go Go.Wk Go.Proofs
set_option maxRecDepth 100000
set_option maxHeartbeats 1000000

/- loop.example/g00869/spec.l31DrawMachine -/
theorem s_l31DrawMachine_ok {w : World} {κ : Col} {a0_0 : Option Addr} {u0_0 : Nat} {p0 : l1Cur} {p1 : Sig} {b0 : Nat} (g0_0 : Rd (Rp.int .u8) κ w 0 a0_0 u0_0 p0.b) (gb0 : Bc κ w 2 b0 89 [.slice a0_0 p0.b.length u0_0, .int .i64 p0.i, .int .i64 p0.h]) {r : Machine × Int × Int} (h : s_l31DrawMachine p0 p1 = some r) : Ret Try.prog 76 [.pointer (some ⟨b0, 0, none⟩), .agg #[.int .i64 p1.In, .int .i64 p1.Out]] w (fun v w' => ∃ (κ' : Col) (ra0 : Option Addr) (ru0 : Nat) (ra1 : Option Addr) (ru1 : Nat), v = .agg #[.slice ra0 r.1.Next.length ru0, .slice ra1 r.1.Out.length ru1] ∧ Ent κ w κ' w' ∧ Oc (Ep.own (Ep.int .i64) 2) 24 κ' w' 3 ra0 ru0 r.1.Next ∧ Oc (Ep.own (Ep.int .i64) 2) 24 κ' w' 4 ra1 ru1 r.1.Out ∧ Bc κ' w' 2 b0 89 [.slice a0_0 p0.b.length u0_0, .int .i64 r.2.1, .int .i64 r.2.2]) := by
 unfold s_l31DrawMachine at h
 refine Ret.enter Try.func76 rfl Try.ntmps76 rfl ?_
 dsimp only [envOf]
 have hE := Ent.refl κ w
 refine WC.seq ?_
 refine WC.rs [(0, 1), (1, 1)] rfl ?_
 refine WO.box (κ := κ) 3 rfl rfl rfl rfl rfl rfl rfl fun b3 w1 K2 S3 f4 => ⟨trivial, ?_⟩
 refine WO.alloc (κ := K2) 4 rfl rfl rfl rfl rfl Try.zeroValue46 rfl fun b4 w5 K6 S7 f8 => ⟨trivial, ?_⟩
 refine WO.fin ?_
 refine DN.seq ?_
 refine WC.seq ?_
 refine WC.rs [(0, 2), (1, 1), (2, 1)] rfl ?_
 refine WO.k2 rfl rfl rfl rfl (rn_build (parts := []) (cells := [.slice none 0 0, .slice none 0 0]) rfl rfl (by kernel_rfl)) ?_
 refine WO.alloc (κ := K6) 5 rfl rfl rfl rfl rfl Try.zeroValue46 rfl fun b5 w9 K10 S11 f12 => ⟨trivial, ?_⟩
 refine WO.stB0 (κ := K10) 5 (vc := [.slice none 0 0, .slice none 0 0]) rfl rfl rfl rfl rfl rfl rfl Try.sizeOf46 rfl rfl f12 rfl fun w13 S14 f15 => ⟨trivial, ?_⟩
 refine WO.fin ?_
 refine DN.seq ?_
 refine WC.seq ?_
 refine WC.rs [(0, 2), (1, 1), (2, 2), (3, 2)] rfl ?_
 refine WO.pn 1 rfl ?_
 obtain ⟨x13, hx13, h⟩ := Option.bind_eq_some_iff.mp h
 have f16 := g0_0.stp (S3.tr (S7.tr (S11.tr S14))) rfl rfl
 have f17 := gb0.stp (S3.tr (S7.tr (S11.tr S14))) rfl rfl
 refine WO.call rfl rfl rfl rfl rfl rfl Try.call65 (s_l1Below_ok (κ := fun b => mp [(2, 2)] 0 (K10 b)) (p0 := p0) (Sl.map f16 (mp [(2, 2)] 0) rfl rfl) (f17.map (mp [(2, 2)] 0) rfl rfl) hx13) ?_
 rintro _ w18 ⟨k19, rfl, e20, f21⟩
 obtain ⟨K22, S23, m24⟩ := Ent.mixed (l := [(2, 2)]) (κ := K10) e20 6 rfl
 refine ⟨trivial, ?_⟩
 have f26 := f21.mx m24 rfl (rfl : 6 + 2 = 8)
 refine WO.pn 2 rfl ?_
 refine WO.fin ?_
 refine DN.seq ?_
 refine WC.seq ?_
 refine WC.seq ?_
 refine WC.rs [(0, 2)] rfl ?_
 refine WO.pn 1 rfl ?_
 refine WO.fin ?_
 refine DN.seq ?_
 obtain ⟨_, hr27, h⟩ := Option.bind_eq_some_iff.mp h
 have hN27 := rng_ok hr27
 obtain ⟨q2, hq29, hK28⟩ := Option.bind_eq_some_iff.mp h
 clear h
 refine WC.meet (fun L w' => ∃ (κ' : Col) (s3 : Int × Int × (List (List Int)) × (List (List Int))) (las3_0 : Option Addr) (lus3_0 : Nat) (las3_1 : Option Addr) (lus3_1 : Nat), L = [(0, .pointer (some ⟨b0, 0, none⟩)), (4, .pointer (some ⟨b4, 0, none⟩)), (5, .pointer (some ⟨b5, 0, none⟩))] ∧ Stp [5, 8, 9, 10, 11, 12, 13, 14, 17, 23] K22 w18 κ' w' ∧ Oc (Ep.own (Ep.int .i64) 2) 24 κ' w' 9 las3_0 lus3_0 s3.2.2.1 ∧ Oc (Ep.own (Ep.int .i64) 2) 24 κ' w' 10 las3_1 lus3_1 s3.2.2.2 ∧ Bc κ' w' 8 b0 89 [.slice a0_0 p0.b.length u0_0, .int .i64 s3.1, .int .i64 s3.2.1] ∧ Bc κ' w' 5 b5 46 [.slice las3_0 s3.2.2.1.length lus3_0, .slice las3_1 s3.2.2.2.length lus3_1] ∧ q2 = Sum.inr s3) ?_ ?_
 ·
  refine WC.block ?_
  have f44 := f15.stp S23 rfl rfl
  refine WC.loop (fun k L w' => ∃ (κ' : Col) (v7 : Int) (s1 : Int × Int × (List (List Int)) × (List (List Int))) (las1_0 : Option Addr) (lus1_0 : Nat) (las1_1 : Option Addr) (lus1_1 : Nat), L = [(0, .pointer (some ⟨b0, 0, none⟩)), (3, .pointer (some ⟨b3, 0, none⟩)), (4, .pointer (some ⟨b4, 0, none⟩)), (5, .pointer (some ⟨b5, 0, none⟩)), (6, .int .i64 (IntKind.i64.wrap (1 + x13.1))), (7, .int .i64 v7)] ∧ Stp [5, 8, 9, 10, 11, 12, 13, 14, 17, 23] K22 w18 κ' w' ∧ Oc (Ep.own (Ep.int .i64) 2) 24 κ' w' 9 las1_0 lus1_0 s1.2.2.1 ∧ Oc (Ep.own (Ep.int .i64) 2) 24 κ' w' 10 las1_1 lus1_1 s1.2.2.2 ∧ Bc κ' w' 8 b0 89 [.slice a0_0 p0.b.length u0_0, .int .i64 s1.1, .int .i64 s1.2.1] ∧ Bc κ' w' 5 b5 46 [.slice las1_0 s1.2.2.1.length lus1_0, .slice las1_1 s1.2.2.2.length lus1_1] ∧ 0 ≤ v7 ∧ Int.toNat ((IntKind.i64.wrap (1 + x13.1)) - v7) = k ∧ cntM (s_l31DrawMachine_b0 p0 p1 x13) k v7 s1 = some q2) ⟨_, _, ⟨K22, 0, ((x13.2.1 : Int), (x13.2.2 : Int), (([] : List (List Int)) : (List (List Int))), (([] : List (List Int)) : (List (List Int)))), none, 0, none, 0, rfl, (Stp.refl _ _).wk rfl, Ow.nil, Ow.nil, f26, f44, (by decide), (by simp), hq29⟩, fun a ha => (ha.more (ha.more (ha.more (ha.more (ha.more (ha.more ha.nil rfl) rfl) rfl) rfl) rfl) rfl)⟩ ?_
  rintro k _ w37 ⟨K38, v7, s1, las1_0, lus1_0, las1_1, lus1_1, rfl, S39, f40, f41, f42, f43, hj27, hJ27, h⟩
  rcases k with _ | k
  ·
   have hk45 := h; obtain ⟨o27, h⟩ := ex_eq (Sum.inr (Sum.inl s1) : (Machine × Int × Int) ⊕ ((Int × Int × (List (List Int)) × (List (List Int))) ⊕ (Int × Int × (List (List Int)) × (List (List Int)))))
   have hc27 : decide (v7 < (IntKind.i64.wrap (1 + x13.1))) = false := decide_eq_false (by omega)
   refine WC.seq ?_
   refine WC.seq ?_
   refine WC.rs [(0, 2), (1, 2), (2, 2)] rfl ?_
   refine WO.pn 3 rfl ?_
   refine WO.fin ?_
   refine DN.seq ?_
   refine WC.cf' rfl hc27 ?_
   refine WC.exit ?_
   refine DN.exitThen ?_
   refine DN.exitThen ?_
   obtain rfl := Option.some.inj h
   have h := hk45
   refine DN.hit ?_
   obtain rfl := Option.some.inj h
   exact DN.meet _ ⟨K38, ((s1.1 : Int), (s1.2.1 : Int), (s1.2.2.1 : (List (List Int))), (s1.2.2.2 : (List (List Int)))), las1_0, lus1_0, las1_1, lus1_1, rfl, S39.wk rfl, f40, f41, f42, f43, rfl⟩ fun a ha => (ha.more (ha.more (ha.more ha.nil rfl) rfl) rfl)
  ·
   obtain ⟨o27, h, hk45⟩ := Option.bind_eq_some_iff.mp h; unfold s_l31DrawMachine_b0 at h
   have hc27 : decide (v7 < (IntKind.i64.wrap (1 + x13.1))) = true := decide_eq_true (by omega)
   refine WC.seq ?_
   refine WC.seq ?_
   refine WC.rs [(0, 2), (1, 2), (2, 2)] rfl ?_
   refine WO.pn 3 rfl ?_
   refine WO.fin ?_
   refine DN.seq ?_
   refine WC.ct' rfl hc27 ?_
   refine WC.skip ?_
   refine DN.seq ?_
   refine WC.seq ?_
   refine WC.block ?_
   refine WC.seq ?_
   refine WC.rs [(0, 1), (1, 2)] rfl ?_
   refine WO.bl0 (κ := K38) (E := (Ep.int .i64)) 11 rfl rfl rfl rfl rfl Try.underlying24 Tryinfo2 rfl fun a20 u20 w46 K47 S48 f49 => ⟨trivial, ?_⟩
   refine WO.pn 1 rfl ?_
   refine WO.fin ?_
   refine DN.seq ?_
   refine WC.seq ?_
   refine WC.rs [(0, 1), (1, 2)] rfl ?_
   refine WO.bl0 (κ := K47) (E := (Ep.int .i64)) 12 rfl rfl rfl rfl rfl Try.underlying24 Tryinfo2 rfl fun a21 u21 w50 K51 S52 f53 => ⟨trivial, ?_⟩
   refine WO.pn 1 rfl ?_
   refine WO.fin ?_
   refine DN.seq ?_
   refine WC.seq ?_
   refine WC.seq ?_
   refine WC.rs [(0, 2)] rfl ?_
   refine WO.pn 1 rfl ?_
   refine WO.fin ?_
   refine DN.seq ?_
   obtain ⟨q5, hq56, hK55⟩ := Option.bind_eq_some_iff.mp h
   clear h
   refine WC.meet (fun L w' => ∃ (κ' : Col) (s6 : (List Int) × (List Int) × Int × Int × Int) (las6_0 : Option Addr) (lus6_0 : Nat) (las6_1 : Option Addr) (lus6_1 : Nat), L = [(0, .pointer (some ⟨b0, 0, none⟩)), (3, .pointer (some ⟨b3, 0, none⟩)), (4, .pointer (some ⟨b4, 0, none⟩)), (5, .pointer (some ⟨b5, 0, none⟩)), (6, .int .i64 (IntKind.i64.wrap (1 + x13.1))), (7, .int .i64 v7), (8, .slice las6_0 s6.1.length lus6_0), (9, .slice las6_1 s6.2.1.length lus6_1)] ∧ Stp [8, 11, 12, 17, 23] K51 w50 κ' w' ∧ Oc (Ep.int .i64) 2 κ' w' 11 las6_0 lus6_0 s6.1 ∧ Oc (Ep.int .i64) 2 κ' w' 12 las6_1 lus6_1 s6.2.1 ∧ Bc κ' w' 8 b0 89 [.slice a0_0 p0.b.length u0_0, .int .i64 s6.2.2.2.1, .int .i64 s6.2.2.2.2] ∧ q5 = Sum.inr s6) ?_ ?_
   ·
    refine WC.block ?_
    have f69 := f49.stp S52 rfl rfl
    have f70 := f42.stp (S48.tr S52) rfl rfl
    refine WC.loop (fun k L w' => ∃ (κ' : Col) (s4 : (List Int) × (List Int) × Int × Int × Int) (las4_0 : Option Addr) (lus4_0 : Nat) (las4_1 : Option Addr) (lus4_1 : Nat), L = [(0, .pointer (some ⟨b0, 0, none⟩)), (3, .pointer (some ⟨b3, 0, none⟩)), (4, .pointer (some ⟨b4, 0, none⟩)), (5, .pointer (some ⟨b5, 0, none⟩)), (6, .int .i64 (IntKind.i64.wrap (1 + x13.1))), (7, .int .i64 v7), (8, .slice las4_0 s4.1.length lus4_0), (9, .slice las4_1 s4.2.1.length lus4_1), (10, .int .i64 s4.2.2.1)] ∧ Stp [8, 11, 12, 17, 23] K51 w50 κ' w' ∧ Oc (Ep.int .i64) 2 κ' w' 11 las4_0 lus4_0 s4.1 ∧ Oc (Ep.int .i64) 2 κ' w' 12 las4_1 lus4_1 s4.2.1 ∧ Bc κ' w' 8 b0 89 [.slice a0_0 p0.b.length u0_0, .int .i64 s4.2.2.2.1, .int .i64 s4.2.2.2.2] ∧ whileM (s_l31DrawMachine_b2 p0 p1 x13) k s4 = some q5) ⟨_, _, ⟨K51, ((([] : List Int) : (List Int)), (([] : List Int) : (List Int)), (0 : Int), (s1.1 : Int), (s1.2.1 : Int)), a20, u20, a21, u21, rfl, (Stp.refl _ _).wk rfl, f69, f53, f70, hq56⟩, fun a ha => (ha.more (ha.more (ha.more (ha.more (ha.more (ha.more (ha.more (ha.more (ha.more ha.nil rfl) rfl) rfl) rfl) rfl) rfl) rfl) rfl) rfl)⟩ ?_
    rintro k _ w63 ⟨K64, s4, las4_0, lus4_0, las4_1, lus4_1, rfl, S65, f66, f67, f68, h⟩
    rcases k with _ | k
    ·
     cases h
    ·
     obtain ⟨o54, h, hk71⟩ := Option.bind_eq_some_iff.mp h; unfold s_l31DrawMachine_b2 at h
     refine WC.seq ?_
     refine WC.seq ?_
     refine WC.rs [(0, 2), (1, 2), (2, 1), (3, 1), (4, 2)] rfl ?_
     refine WO.pn 1 rfl ?_
     refine WO.k2 rfl rfl rfl rfl (rn_fieldAddr Try.runUnderlying43 rfl Try.sizeOf2 rfl rfl) ?_
     have f72 := f4.stp (S7.tr (S11.tr (S14.tr (S23.tr (S39.tr (S48.tr (S52.tr S65))))))) rfl rfl
     refine WO.k1 trivial rfl rfl rfl rfl (rn_ld Try.isAgg2 rfl rfl (hvE (f72.ld 0 rfl rfl))) ?_
     obtain ⟨x25, hx25, h⟩ := Option.bind_eq_some_iff.mp h
     refine WO.call rfl rfl rfl rfl rfl rfl Try.call39 (s_l31Pow_ok (κ := fun b => mp [] 0 (K64 b)) hx25) ?_
     rintro _ w73 ⟨k74, rfl, e75⟩
     obtain ⟨K76, S77, m78⟩ := Ent.mixed (l := []) (κ := K64) e75 13 rfl
     refine ⟨trivial, ?_⟩
     refine WO.pn 1 rfl ?_
     refine WO.fin ?_
     refine DN.seq ?_
     revert h
     cases ht80 : decide (s4.2.2.1 < x25) with
     | true =>
      intro h; replace h := cT h
      refine WC.ct rfl ?_
      refine WC.skip ?_
      refine DN.seq ?_
      refine WC.seq ?_
      refine WC.block ?_
      refine WC.seq ?_
      refine WC.rs [(0, 2), (1, 2), (2, 2), (3, 1), (4, 1), (5, 1), (6, 2)] rfl ?_
      refine WO.pn 3 rfl ?_
      obtain ⟨x32, hx32, h⟩ := Option.bind_eq_some_iff.mp h
      have f81 := f16.stp (S23.tr (S39.tr (S48.tr (S52.tr (S65.tr S77))))) rfl rfl
      have f82 := f68.stp S77 rfl rfl
      refine WO.call rfl rfl rfl rfl rfl rfl Try.call65 (s_l1Below_ok (κ := fun b => mp [(8, 2)] 0 (K76 b)) (p0 := (⟨p0.b, s4.2.2.2.1, s4.2.2.2.2⟩ : l1Cur)) (Sl.map f81 (mp [(8, 2)] 0) rfl rfl) (f82.map (mp [(8, 2)] 0) rfl rfl) hx32) ?_
      rintro _ w83 ⟨k84, rfl, e85, f86⟩
      obtain ⟨K87, S88, m89⟩ := Ent.mixed (l := [(8, 2)]) (κ := K76) e85 15 rfl
      refine ⟨trivial, ?_⟩
      have f91 := f86.mx m89 rfl (rfl : 15 + 2 = 17)
      refine WO.bl (κ := K87) (E := (Ep.int .i64)) 18 [] (parts := [(0, .tmp 32)]) (cells := [.int .i64 x32.1]) (xs := ([x32.1] : List Int)) rfl rfl rfl rfl rfl rfl Try.underlying24 Tryinfo2 rfl rfl rfl rfl rfl rfl rfl rfl rfl rfl ⟨[.int .i64 x32.1], [], Zl K87 w83 [], Zl K87 w83 [], rfl, Zl.sp (l1 := []) (l2 := []) rfl, Zl.sr (l1 := []) (l2 := []), rfl, rfl⟩ fun a33 u33 w92 K93 S94 f95 => ⟨trivial, ?_⟩
      obtain ⟨x34, hx34, h⟩ := Option.bind_eq_some_iff.mp h
      have f96 := f66.stp (S77.tr (S88.tr S94)) rfl rfl
      refine WO.app (κ := K93) (E := (Ep.int .i64)) 11 [] rfl rfl rfl rfl rfl rfl rfl rfl rfl Try.underlying24 Tryinfo2 rfl rfl rfl rfl f96 (Sl.srcP (pu_int _) f95.rdc) sy_false hx34 rfl fun a34 u34 w97 K98 S99 f100 => ⟨trivial, ?_⟩
      refine WO.pn 1 rfl ?_
      refine WO.fin ?_
      refine DN.seq ?_
      refine WC.rs [(0, 2), (1, 2), (2, 2), (3, 1), (4, 1), (5, 1), (6, 1), (7, 1), (8, 2)] rfl ?_
      refine WO.pn 2 rfl ?_
      refine WO.k2 rfl rfl rfl rfl (rn_fieldAddr Try.runUnderlying43 rfl Try.sizeOf2 rfl rfl) ?_
      have f101 := f72.stp (S77.tr (S88.tr (S94.tr S99))) rfl rfl
      refine WO.k1 trivial rfl rfl rfl rfl (rn_ld Try.isAgg2 rfl rfl (hvE (f101.ld 1 rfl rfl))) ?_
      obtain ⟨x39, hx39, h⟩ := Option.bind_eq_some_iff.mp h
      refine WO.call rfl rfl rfl rfl rfl rfl Try.call39 (s_l31Pow_ok (κ := fun b => mp [] 0 (K98 b)) hx39) ?_
      rintro _ w102 ⟨k103, rfl, e104⟩
      obtain ⟨K105, S106, m107⟩ := Ent.mixed (l := []) (κ := K98) e104 19 rfl
      refine ⟨trivial, ?_⟩
      obtain ⟨x40, hx40, h⟩ := Option.bind_eq_some_iff.mp h
      have f109 := f81.stp (S88.tr (S94.tr (S99.tr S106))) rfl rfl
      have f110 := f91.stp (S94.tr (S99.tr S106)) rfl rfl
      refine WO.call rfl rfl rfl rfl rfl rfl Try.call65 (s_l1Below_ok (κ := fun b => mp [(17, 2)] 0 (K105 b)) (p0 := (⟨p0.b, x32.2.1, x32.2.2⟩ : l1Cur)) (Sl.map f109 (mp [(17, 2)] 0) rfl rfl) (f110.map (mp [(17, 2)] 0) rfl rfl) hx40) ?_
      rintro _ w111 ⟨k112, rfl, e113, f114⟩
      obtain ⟨K115, S116, m117⟩ := Ent.mixed (l := [(17, 2)]) (κ := K105) e113 21 rfl
      refine ⟨trivial, ?_⟩
      have f119 := f114.mx m117 rfl (rfl : 21 + 2 = 23)
      refine WO.bl (κ := K115) (E := (Ep.int .i64)) 24 [] (parts := [(0, .tmp 40)]) (cells := [.int .i64 x40.1]) (xs := ([x40.1] : List Int)) rfl rfl rfl rfl rfl rfl Try.underlying24 Tryinfo2 rfl rfl rfl rfl rfl rfl rfl rfl rfl rfl ⟨[.int .i64 x40.1], [], Zl K115 w111 [], Zl K115 w111 [], rfl, Zl.sp (l1 := []) (l2 := []) rfl, Zl.sr (l1 := []) (l2 := []), rfl, rfl⟩ fun a41 u41 w120 K121 S122 f123 => ⟨trivial, ?_⟩
      obtain ⟨x42, hx42, h⟩ := Option.bind_eq_some_iff.mp h
      have f124 := f67.stp (S77.tr (S88.tr (S94.tr (S99.tr (S106.tr (S116.tr S122)))))) rfl rfl
      refine WO.app (κ := K121) (E := (Ep.int .i64)) 12 [] rfl rfl rfl rfl rfl rfl rfl rfl rfl Try.underlying24 Tryinfo2 rfl rfl rfl rfl f124 (Sl.srcP (pu_int _) f123.rdc) sy_false hx42 rfl fun a42 u42 w125 K126 S127 f128 => ⟨trivial, ?_⟩
      refine WO.pn 1 rfl ?_
      refine WO.fin ?_
      refine DN.block ?_
      refine DN.seq ?_
      refine WC.rs [(0, 2), (1, 2), (2, 2)] rfl ?_
      refine WO.pn 3 rfl ?_
      refine WO.fin ?_
      have f129 := f100.stp (S106.tr (S116.tr (S122.tr S127))) rfl rfl
      have f130 := f119.stp (S122.tr S127) rfl rfl
      obtain rfl := Option.some.inj h
      refine DN.round fun a ha => ?_
      exact ⟨k, _, Nat.lt_succ_self _, ⟨(fun b => ren [(23, 8)] (K126 b)), ((x34 : (List Int)), (x42 : (List Int)), ((IntKind.i64.wrap (s4.2.2.1 + 1)) : Int), (x40.2.1 : Int), (x40.2.2 : Int)), a34, u34, a42, u42, rfl, (Stp.ren ((S65.tr (S77.tr (S88.tr (S94.tr (S99.tr (S106.tr (S116.tr (S122.tr S127)))))))).wk rfl) [(23, 8)] rfl), (f129.map (ren [(23, 8)]) rfl rfl), (f128.map (ren [(23, 8)]) rfl rfl), (f130.map (ren [(23, 8)]) rfl rfl), hk71⟩, (ha.more (ha.more (ha.more (ha.more (ha.more (ha.more (ha.more (ha.more (ha.more ha.nil rfl) rfl) rfl) rfl) rfl) rfl) rfl) rfl) rfl)⟩
     | false =>
      intro h; replace h := cF h
      refine WC.cf rfl ?_
      refine WC.exit ?_
      refine DN.exitThen ?_
      refine DN.exitThen ?_
      obtain rfl := Option.some.inj h
      have h := hk71
      refine DN.hit ?_
      have f131 := f66.stp S77 rfl rfl
      have f132 := f67.stp S77 rfl rfl
      have f133 := f68.stp S77 rfl rfl
      obtain rfl := Option.some.inj h
      exact DN.meet _ ⟨K76, ((s4.1 : (List Int)), (s4.2.1 : (List Int)), (s4.2.2.1 : Int), (s4.2.2.2.1 : Int), (s4.2.2.2.2 : Int)), las4_0, lus4_0, las4_1, lus4_1, rfl, (S65.tr S77).wk rfl, f131, f132, f133, rfl⟩ fun a ha => (ha.more (ha.more (ha.more (ha.more (ha.more (ha.more (ha.more (ha.more ha.nil rfl) rfl) rfl) rfl) rfl) rfl) rfl) rfl)
   rintro _ w57 ⟨K58, s6, las6_0, lus6_0, las6_1, lus6_1, rfl, S59, f60, f61, f62, rfl⟩
   have h := hK55
   dsimp only [aft] at h
   refine DN.seq ?_
   refine WC.seq ?_
   refine WC.rs [(0, 2), (1, 1), (2, 2), (3, 1), (4, 1), (5, 2), (6, 1)] rfl ?_
   refine WO.k2 rfl rfl rfl rfl (rn_fieldAddr Try.runUnderlying46 rfl Try.sizeOf44 rfl rfl) ?_
   have f134 := f43.stp (S48.tr (S52.tr S59)) rfl rfl
   refine WO.k1 trivial rfl rfl rfl rfl (rn_ld Try.isAgg44 rfl rfl (hvE (f134.ld 0 rfl rfl))) ?_
   refine WO.pn 1 rfl ?_
   refine WO.bl (κ := K58) (E := (Ep.own (Ep.int .i64) 2)) 13 [11] (parts := [(0, .tmp 45)]) (cells := [.slice las6_0 s6.1.length lus6_0]) (xs := ([s6.1] : List (List Int))) rfl rfl rfl rfl rfl rfl Try.underlying44 Tryinfo24 rfl rfl rfl rfl rfl rfl rfl rfl rfl rfl ⟨[.slice las6_0 s6.1.length lus6_0], [], Zl K58 w57 [11], Zl K58 w57 [], rfl, Zl.sp (l1 := [11]) (l2 := []) rfl, Zl.sr (l1 := [11]) (l2 := []), ⟨_, _, rfl, f60⟩, rfl⟩ fun a46 u46 w135 K136 S137 f138 => ⟨trivial, ?_⟩
   obtain ⟨x47, hx47, h⟩ := Option.bind_eq_some_iff.mp h
   have f139 := f40.stp (S48.tr (S52.tr (S59.tr S137))) rfl rfl
   refine WO.app (κ := K136) (E := (Ep.own (Ep.int .i64) 2)) 9 [13] rfl rfl rfl rfl rfl rfl rfl rfl rfl Try.underlying44 Tryinfo24 rfl rfl rfl rfl f139 f138.src (sy_one rfl) hx47 rfl fun a47 u47 w140 K141 S142 f143 => ⟨trivial, ?_⟩
   refine WO.k2 rfl rfl rfl rfl (rn_fieldAddr Try.runUnderlying46 rfl Try.sizeOf44 rfl rfl) ?_
   have f144 := f134.stp (S137.tr S142) rfl rfl
   refine WO.stB (κ := K141) 5 (off := 0) (vc := [.slice a47 x47.length u47]) (cs' := [.slice a47 x47.length u47, .slice las1_1 s1.2.2.2.length lus1_1]) rfl rfl rfl rfl rfl rfl rfl Try.sizeOf44 rfl rfl f144 rfl rfl fun w145 S146 f147 => ⟨trivial, ?_⟩
   refine WO.fin ?_
   refine DN.seq ?_
   refine WC.rs [(0, 2), (1, 1), (2, 2), (3, 1), (4, 1), (5, 2), (6, 1)] rfl ?_
   refine WO.k2 rfl rfl rfl rfl (rn_fieldAddr Try.runUnderlying46 rfl Try.sizeOf44 rfl rfl) ?_
   refine WO.k1 trivial rfl rfl rfl rfl (rn_ld Try.isAgg44 rfl rfl (hvE (f147.ld 1 rfl rfl))) ?_
   refine WO.pn 1 rfl ?_
   have f148 := f61.stp (S137.tr (S142.tr S146)) rfl rfl
   refine WO.bl (κ := K141) (E := (Ep.own (Ep.int .i64) 2)) 14 [12] (parts := [(0, .tmp 51)]) (cells := [.slice las6_1 s6.2.1.length lus6_1]) (xs := ([s6.2.1] : List (List Int))) rfl rfl rfl rfl rfl rfl Try.underlying44 Tryinfo24 rfl rfl rfl rfl rfl rfl rfl rfl rfl rfl ⟨[.slice las6_1 s6.2.1.length lus6_1], [], Zl K141 w145 [12], Zl K141 w145 [], rfl, Zl.sp (l1 := [12]) (l2 := []) rfl, Zl.sr (l1 := [12]) (l2 := []), ⟨_, _, rfl, f148⟩, rfl⟩ fun a52 u52 w149 K150 S151 f152 => ⟨trivial, ?_⟩
   obtain ⟨x53, hx53, h⟩ := Option.bind_eq_some_iff.mp h
   have f153 := f41.stp (S48.tr (S52.tr (S59.tr (S137.tr (S142.tr (S146.tr S151)))))) rfl rfl
   refine WO.app (κ := K150) (E := (Ep.own (Ep.int .i64) 2)) 10 [14] rfl rfl rfl rfl rfl rfl rfl rfl rfl Try.underlying44 Tryinfo24 rfl rfl rfl rfl f153 f152.src (sy_one rfl) hx53 rfl fun a53 u53 w154 K155 S156 f157 => ⟨trivial, ?_⟩
   refine WO.k2 rfl rfl rfl rfl (rn_fieldAddr Try.runUnderlying46 rfl Try.sizeOf44 rfl rfl) ?_
   have f158 := f147.stp (S151.tr S156) rfl rfl
   refine WO.stB (κ := K155) 5 (off := 1) (vc := [.slice a53 x53.length u53]) (cs' := [.slice a47 x47.length u47, .slice a53 x53.length u53]) rfl rfl rfl rfl rfl rfl rfl Try.sizeOf44 rfl rfl f158 rfl rfl fun w159 S160 f161 => ⟨trivial, ?_⟩
   refine WO.fin ?_
   refine DN.block ?_
   refine DN.seq ?_
   refine WC.rs [(0, 2), (1, 2), (2, 2)] rfl ?_
   refine WO.pn 3 rfl ?_
   refine WO.fin ?_
   have hw27 : IntKind.wrap .i64 (v7 + 1) = v7 + 1 := wr1 hj27 (of_decide_eq_true hc27) hN27
   rw [hw27]
   have hc27 := of_decide_eq_true hc27
   have f162 := f143.stp (S146.tr (S151.tr (S156.tr S160))) rfl rfl
   have f163 := f157.stp S160 rfl rfl
   have f164 := f62.stp (S137.tr (S142.tr (S146.tr (S151.tr (S156.tr S160))))) rfl rfl
   obtain rfl := Option.some.inj h
   refine DN.round fun a ha => ?_
   exact ⟨k, _, Nat.lt_succ_self _, ⟨K155, v7 + 1, ((s6.2.2.2.1 : Int), (s6.2.2.2.2 : Int), (x47 : (List (List Int))), (x53 : (List (List Int)))), a47, u47, a53, u53, rfl, (S39.tr (S48.tr (S52.tr (S59.tr (S137.tr (S142.tr (S146.tr (S151.tr (S156.tr S160))))))))).wk rfl, f162, f163, f164, f161, by omega, by omega, hk45⟩, (ha.more (ha.more (ha.more (ha.more (ha.more (ha.more ha.nil rfl) rfl) rfl) rfl) rfl) rfl)⟩
 rintro _ w30 ⟨K31, s3, las3_0, lus3_0, las3_1, lus3_1, rfl, S32, f33, f34, f35, f36, rfl⟩
 have h := hK28
 dsimp only [aft] at h
 refine DN.seq ?_
 refine WC.seq ?_
 refine WC.rs [(0, 1), (1, 1)] rfl ?_
 refine WO.k1 trivial rfl rfl rfl rfl (rn_la (cs := [.slice las3_0 s3.2.2.1.length lus3_0, .slice las3_1 s3.2.2.2.length lus3_1]) Try.isAgg46 Try.sizeOf46 rfl rfl rfl (haE f36.cells)) ?_
 have f165 := f8.stp (S11.tr (S14.tr (S23.tr S32))) rfl rfl
 refine WO.stB0 (κ := K31) 4 (vc := [.slice las3_0 s3.2.2.1.length lus3_0, .slice las3_1 s3.2.2.2.length lus3_1]) rfl rfl rfl rfl rfl rfl rfl Try.sizeOf46 rfl rfl f165 rfl fun w166 S167 f168 => ⟨trivial, ?_⟩
 refine WO.fin ?_
 refine DN.seq ?_
 refine WC.ret ?_
 have f169 := hE.stp (S3.tr (S7.tr (S11.tr (S14.tr (S23.tr (S32.tr S167)))))) rfl rfl
 have f170 := f33.stp S167 rfl rfl
 have f171 := f34.stp S167 rfl rfl
 have f172 := f35.stp S167 rfl rfl
 refine DN.res (l := [.cell 4 46]) Try.results76 (res_cellA rfl f168 Try.isAgg46 Try.sizeOf46 rfl rfl) rfl ?_
 obtain rfl := Option.some.inj h
 exact ⟨(fun b => ren [(9, 3), (10, 4), (8, 2)] (K31 b)), las3_0, lus3_0, las3_1, lus3_1, rfl, (f169.map (ren [(9, 3), (10, 4), (8, 2)]) rfl rfl), (f170.map (ren [(9, 3), (10, 4), (8, 2)]) rfl rfl), (f171.map (ren [(9, 3), (10, 4), (8, 2)]) rfl rfl), (f172.map (ren [(9, 3), (10, 4), (8, 2)]) rfl rfl)⟩

/- loop.example/g00869/spec.l1Once -/
theorem s_l1Once_ok {w : World} {κ : Col} {a0_0 : Option Addr} {u0_0 : Nat} {p0 : l1Cur} {p1 : Int} {b0 : Nat} (g0_0 : Rd (Rp.int .u8) κ w 0 a0_0 u0_0 p0.b) (gb0 : Bc κ w 2 b0 89 [.slice a0_0 p0.b.length u0_0, .int .i64 p0.i, .int .i64 p0.h]) {r : Bool × Int × Int} (h : s_l1Once p0 p1 = some r) : Ret Try.prog 64 [.pointer (some ⟨b0, 0, none⟩), .int .i64 p1] w (fun v w' => ∃ (κ' : Col), v = .bool r.1 ∧ Ent κ w κ' w' ∧ Bc κ' w' 2 b0 89 [.slice a0_0 p0.b.length u0_0, .int .i64 r.2.1, .int .i64 r.2.2]) := by
 unfold s_l1Once at h
 refine Ret.enter Try.func64 rfl Try.ntmps64 rfl ?_
 dsimp only [envOf]
 have hE := Ent.refl κ w
 refine WC.seq ?_
 refine WC.rs [(0, 2)] rfl ?_
 refine WO.pn 1 rfl ?_
 refine WO.fin ?_
 refine DN.seq ?_
 refine WC.seq ?_
 refine WC.rs [(0, 2), (1, 2), (2, 1), (3, 2), (4, 2)] rfl ?_
 refine WO.pn 2 rfl ?_
 obtain ⟨x7, hx7, h⟩ := Option.bind_eq_some_iff.mp h
 refine WO.call rfl rfl rfl rfl rfl rfl Try.call65 (s_l1Below_ok (κ := fun b => mp [(2, 2)] 0 (κ b)) (p0 := p0) (Sl.map g0_0 (mp [(2, 2)] 0) rfl rfl) (gb0.map (mp [(2, 2)] 0) rfl rfl) hx7) ?_
 rintro _ w1 ⟨k2, rfl, e3, f4⟩
 obtain ⟨K5, S6, m7⟩ := Ent.mixed (l := [(2, 2)]) (κ := κ) e3 3 rfl
 refine ⟨trivial, ?_⟩
 have f9 := f4.mx m7 rfl (rfl : 3 + 2 = 5)
 refine WO.pn 2 rfl ?_
 refine WO.fin ?_
 refine DN.seq ?_
 refine WC.ret ?_
 have f10 := hE.stp S6 rfl rfl
 refine DN.res (l := [.tmp 4]) Try.results64 (res_tmp rfl rfl) rfl ?_
 obtain rfl := Option.some.inj h
 exact ⟨(fun b => ren [(5, 2)] (K5 b)), rfl, (f10.map (ren [(5, 2)]) rfl rfl), (f9.map (ren [(5, 2)]) rfl rfl)⟩

/- loop.example/g00869/spec.CircuitOk -/
theorem s_CircuitOk_ok {w : World} {κ : Col} {a0_2 : Option Addr} {u0_2 : Nat} {a0_3 : Option Addr} {u0_3 : Nat} {a0_4 : Option Addr} {u0_4 : Nat} {p0 : Circuit} (g0_2 : Rd (Rp.int .i64) κ w 0 a0_2 u0_2 p0.Next) (g0_3 : Rd Gate.rp κ w 0 a0_3 u0_3 p0.Gates) (g0_4 : Rd (Rp.int .i64) κ w 0 a0_4 u0_4 p0.Outs) {r : Bool} (h : s_CircuitOk p0 = some r) : Ret Try.prog 9 [.agg #[.int .i64 p0.Inputs, .int .i64 p0.Latches, .slice a0_2 p0.Next.length u0_2, .slice a0_3 p0.Gates.length u0_3, .slice a0_4 p0.Outs.length u0_4]] w (fun v w' => ∃ (κ' : Col), v = .bool r ∧ Ent κ w κ' w') := by
 unfold s_CircuitOk at h
 refine Ret.enter Try.func9 rfl Try.ntmps9 rfl ?_
 dsimp only [envOf]
 have hE := Ent.refl κ w
 refine WC.seq ?_
 refine WC.rs [(0, 1), (1, 2)] rfl ?_
 refine WO.box (κ := κ) 2 rfl rfl rfl rfl rfl rfl rfl fun b1 w1 K2 S3 f4 => ⟨trivial, ?_⟩
 refine WO.pn 1 rfl ?_
 refine WO.fin ?_
 refine DN.seq ?_
 refine WC.seq ?_
 refine WC.seq ?_
 refine WC.rs [(0, 2), (1, 1), (2, 1), (3, 2), (4, 2), (5, 2), (6, 1), (7, 1), (8, 2), (9, 2), (10, 2), (11, 2), (12, 1), (13, 2), (14, 2), (15, 2), (16, 2), (17, 2), (18, 1), (19, 2), (20, 2), (21, 2), (22, 2), (23, 2), (24, 1), (25, 2), (26, 2), (27, 1), (28, 2), (29, 2)] rfl ?_
 refine WO.k2 rfl rfl rfl rfl (rn_fieldAddr Try.runUnderlying27 rfl Try.sizeOf2 rfl rfl) ?_
 refine WO.k1 trivial rfl rfl rfl rfl (rn_ld Try.isAgg2 rfl rfl (hvE (f4.ld 0 rfl rfl))) ?_
 obtain ⟨x7, hx7, h⟩ := Option.bind_eq_some_iff.mp h
 refine WO.call rfl rfl rfl rfl rfl rfl Try.call33 (s_l1In_ok (κ := fun b => mp [] 0 (K2 b)) hx7) ?_
 rintro _ w5 ⟨k6, rfl, e7⟩
 obtain ⟨K8, S9, m10⟩ := Ent.mixed (l := []) (κ := K2) e7 3 rfl
 refine ⟨trivial, ?_⟩
 refine WO.pn 2 rfl ?_
 obtain ⟨p14, h, hK12⟩ := Option.bind_eq_some_iff.mp h
 refine WO.meet [(5, 2), (6, 1), (7, 1), (8, 2), (9, 2)] [(10, 2), (11, 2), (12, 1), (13, 2), (14, 2), (15, 2), (16, 2), (17, 2), (18, 1), (19, 2), (20, 2), (21, 2), (22, 2), (23, 2), (24, 1), (25, 2), (26, 2), (27, 1), (28, 2), (29, 2)] (fun L w' => L = [(1, .pointer (some ⟨b1, 0, none⟩)), (14, .bool p14)] ∧ ∃ κ', Stp [] K8 w5 κ' w') trivial ?_ ?_
 ·
  revert h
  cases ht13 : (!x7) with
  | true =>
   intro h; replace h := cT h
   refine WO.pn 1 rfl ?_
   refine WO.ls rfl rfl rfl rfl ?_
   refine WO.ls rfl rfl rfl rfl ?_
   refine WO.pn 2 rfl ?_
   obtain rfl := Option.some.inj h
   exact WO.met _ trivial ⟨rfl, _, (Stp.refl _ _).wk rfl⟩ fun a ha => (ha.more (ha.more ha.nil rfl) rfl)
  | false =>
   intro h; replace h := cF h
   refine WO.k2 rfl rfl rfl rfl (rn_fieldAddr Try.runUnderlying27 rfl Try.sizeOf2 rfl rfl) ?_
   have f14 := f4.stp S9 rfl rfl
   refine WO.k1 trivial rfl rfl rfl rfl (rn_ld Try.isAgg2 rfl rfl (hvE (f14.ld 1 rfl rfl))) ?_
   obtain ⟨x12, hx12, h⟩ := Option.bind_eq_some_iff.mp h
   refine WO.call rfl rfl rfl rfl rfl rfl Try.call33 (s_l1In_ok (κ := fun b => mp [] 0 (K8 b)) hx12) ?_
   rintro _ w15 ⟨k16, rfl, e17⟩
   obtain ⟨K18, S19, m20⟩ := Ent.mixed (l := []) (κ := K8) e17 5 rfl
   refine ⟨trivial, ?_⟩
   refine WO.pn 2 rfl ?_
   obtain rfl := Option.some.inj h
   exact WO.met _ trivial ⟨rfl, _, S19.wk rfl⟩ fun a ha => (ha.more (ha.more ha.nil rfl) rfl)
 rintro _ w22 _ ⟨rfl, K23, S24⟩
 have h := hK12
 refine WO.pn 1 rfl ?_
 obtain ⟨p20, h, hK25⟩ := Option.bind_eq_some_iff.mp h
 refine WO.meet [(11, 2), (12, 1), (13, 2), (14, 2), (15, 2)] [(16, 2), (17, 2), (18, 1), (19, 2), (20, 2), (21, 2), (22, 2), (23, 2), (24, 1), (25, 2), (26, 2), (27, 1), (28, 2), (29, 2)] (fun L w' => L = [(1, .pointer (some ⟨b1, 0, none⟩)), (20, .bool p20)] ∧ ∃ κ', Stp [] K23 w22 κ' w') trivial ?_ ?_
 ·
  revert h
  cases ht26 : p14 with
  | true =>
   intro h; replace h := cT h
   refine WO.pn 1 rfl ?_
   refine WO.ls rfl rfl rfl rfl ?_
   refine WO.pn 3 rfl ?_
   obtain rfl := Option.some.inj h
   exact WO.met _ trivial ⟨rfl, _, (Stp.refl _ _).wk rfl⟩ fun a ha => (ha.more (ha.more ha.nil rfl) rfl)
  | false =>
   intro h; replace h := cF h
   refine WO.k2 rfl rfl rfl rfl (rn_fieldAddr Try.runUnderlying27 rfl Try.sizeOf25 rfl rfl) ?_
   have f27 := f4.stp (S9.tr S24) rfl rfl
   refine WO.k1 trivial rfl rfl rfl rfl (rn_ld Try.isAgg25 rfl rfl (hvE (f27.ld 3 rfl rfl))) ?_
   refine WO.k2 rfl rfl rfl rfl (rn_len Try.runUnderlying25 rfl rfl) ?_
   refine WO.pn 2 rfl ?_
   obtain rfl := Option.some.inj h
   exact WO.met _ trivial ⟨rfl, _, (Stp.refl _ _).wk rfl⟩ fun a ha => (ha.more (ha.more ha.nil rfl) rfl)
 rintro _ w28 _ ⟨rfl, K29, S30⟩
 have h := hK25
 refine WO.pn 1 rfl ?_
 obtain ⟨p26, h, hK31⟩ := Option.bind_eq_some_iff.mp h
 refine WO.meet [(17, 2), (18, 1), (19, 2), (20, 2), (21, 2)] [(22, 2), (23, 2), (24, 1), (25, 2), (26, 2), (27, 1), (28, 2), (29, 2)] (fun L w' => L = [(1, .pointer (some ⟨b1, 0, none⟩)), (26, .bool p26)] ∧ ∃ κ', Stp [] K29 w28 κ' w') trivial ?_ ?_
 ·
  revert h
  cases ht32 : p20 with
  | true =>
   intro h; replace h := cT h
   refine WO.pn 1 rfl ?_
   refine WO.ls rfl rfl rfl rfl ?_
   refine WO.pn 3 rfl ?_
   obtain rfl := Option.some.inj h
   exact WO.met _ trivial ⟨rfl, _, (Stp.refl _ _).wk rfl⟩ fun a ha => (ha.more (ha.more ha.nil rfl) rfl)
  | false =>
   intro h; replace h := cF h
   refine WO.k2 rfl rfl rfl rfl (rn_fieldAddr Try.runUnderlying27 rfl Try.sizeOf24 rfl rfl) ?_
   have f33 := f4.stp (S9.tr (S24.tr S30)) rfl rfl
   refine WO.k1 trivial rfl rfl rfl rfl (rn_ld Try.isAgg24 rfl rfl (hvE (f33.ld 4 rfl rfl))) ?_
   refine WO.k2 rfl rfl rfl rfl (rn_len Try.runUnderlying24 rfl rfl) ?_
   refine WO.pn 2 rfl ?_
   obtain rfl := Option.some.inj h
   exact WO.met _ trivial ⟨rfl, _, (Stp.refl _ _).wk rfl⟩ fun a ha => (ha.more (ha.more ha.nil rfl) rfl)
 rintro _ w34 _ ⟨rfl, K35, S36⟩
 have h := hK31
 refine WO.pn 1 rfl ?_
 obtain ⟨p34, h, hK37⟩ := Option.bind_eq_some_iff.mp h
 refine WO.meet [(23, 2), (24, 1), (25, 2), (26, 2), (27, 1), (28, 2), (29, 2)] [] (fun L w' => L = [(1, .pointer (some ⟨b1, 0, none⟩)), (34, .bool p34)] ∧ ∃ κ', Stp [] K35 w34 κ' w') trivial ?_ ?_
 ·
  revert h
  cases ht38 : p26 with
  | true =>
   intro h; replace h := cT h
   refine WO.pn 1 rfl ?_
   refine WO.ls rfl rfl rfl rfl ?_
   refine WO.pn 2 rfl ?_
   refine WO.ls rfl rfl rfl rfl ?_
   refine WO.pn 2 rfl ?_
   obtain rfl := Option.some.inj h
   exact WO.met _ trivial ⟨rfl, _, (Stp.refl _ _).wk rfl⟩ fun a ha => (ha.more (ha.more ha.nil rfl) rfl)
  | false =>
   intro h; replace h := cF h
   refine WO.k2 rfl rfl rfl rfl (rn_fieldAddr Try.runUnderlying27 rfl Try.sizeOf24 rfl rfl) ?_
   have f39 := f4.stp (S9.tr (S24.tr (S30.tr S36))) rfl rfl
   refine WO.k1 trivial rfl rfl rfl rfl (rn_ld Try.isAgg24 rfl rfl (hvE (f39.ld 2 rfl rfl))) ?_
   refine WO.k2 rfl rfl rfl rfl (rn_len Try.runUnderlying24 rfl rfl) ?_
   refine WO.k2 rfl rfl rfl rfl (rn_fieldAddr Try.runUnderlying27 rfl Try.sizeOf2 rfl rfl) ?_
   refine WO.k1 trivial rfl rfl rfl rfl (rn_ld Try.isAgg2 rfl rfl (hvE (f39.ld 1 rfl rfl))) ?_
   refine WO.pn 2 rfl ?_
   obtain rfl := Option.some.inj h
   exact WO.met _ trivial ⟨rfl, _, (Stp.refl _ _).wk rfl⟩ fun a ha => (ha.more (ha.more ha.nil rfl) rfl)
 rintro _ w40 _ ⟨rfl, K41, S42⟩
 have h := hK37
 refine WO.fin ?_
 refine DN.seq ?_
 revert h
 cases ht43 : p34 with
 | true =>
  intro h; replace h := cT h
  refine WC.ct rfl ?_
  refine WC.seq ?_
  refine WC.rs [(0, 2)] rfl ?_
  refine WO.pn 1 rfl ?_
  refine WO.fin ?_
  refine DN.seq ?_
  refine WC.ret ?_
  refine DN.retThen ?_
  have f44 := hE.stp (S3.tr (S9.tr (S24.tr (S30.tr (S36.tr S42))))) rfl rfl
  refine DN.res (l := [.tmp 2]) Try.results9 (res_tmp rfl rfl) rfl ?_
  obtain rfl := Option.some.inj h
  exact ⟨K41, rfl, f44⟩
 | false =>
  intro h; replace h := cF h
  refine WC.cf rfl ?_
  refine WC.skip ?_
  refine DN.seq ?_
  refine WC.seq ?_
  refine WC.seq ?_
  refine WC.rs [(0, 2)] rfl ?_
  refine WO.pn 1 rfl ?_
  refine WO.fin ?_
  refine DN.seq ?_
  have hN45 : (p0.Gates.length : Int) ≤ 9223372036854775807 := g0_3.len_le
  obtain ⟨q2, hq47, hK46⟩ := Option.bind_eq_some_iff.mp h
  clear h
  refine WC.meet (fun L w' => ∃ (κ' : Col), L = [(1, .pointer (some ⟨b1, 0, none⟩))] ∧ Stp [] K41 w40 κ' w' ∧ q2 = Sum.inr ()) ?_ ?_
  ·
   refine WC.block ?_
   refine WC.loop (fun k L w' => ∃ (κ' : Col) (v3 : Int), L = [(1, .pointer (some ⟨b1, 0, none⟩)), (3, .int .i64 v3)] ∧ Stp [] K41 w40 κ' w' ∧ 0 ≤ v3 ∧ Int.toNat ((p0.Gates.length : Int) - v3) = k ∧ cntM (s_CircuitOk_b0 p0) k v3 () = some q2) ⟨_, _, ⟨K41, 0, rfl, (Stp.refl _ _).wk rfl, (by decide), (by simp), hq47⟩, fun a ha => (ha.more (ha.more ha.nil rfl) rfl)⟩ ?_
   rintro k _ w51 ⟨K52, v3, rfl, S53, hj45, hJ45, h⟩
   rcases k with _ | k
   ·
    have hk54 := h; obtain ⟨o45, h⟩ := ex_eq (Sum.inr (Sum.inl ()) : Bool ⊕ ((Unit) ⊕ (Unit)))
    have hc45 : decide (v3 < (p0.Gates.length : Int)) = false := decide_eq_false (by omega)
    refine WC.seq ?_
    refine WC.seq ?_
    refine WC.rs [(0, 2), (1, 2), (2, 1), (3, 2), (4, 2)] rfl ?_
    refine WO.pn 1 rfl ?_
    refine WO.k2 rfl rfl rfl rfl (rn_fieldAddr Try.runUnderlying27 rfl Try.sizeOf25 rfl rfl) ?_
    have f55 := f4.stp (S9.tr (S24.tr (S30.tr (S36.tr (S42.tr S53))))) rfl rfl
    refine WO.k1 trivial rfl rfl rfl rfl (rn_ld Try.isAgg25 rfl rfl (hvE (f55.ld 3 rfl rfl))) ?_
    refine WO.k2 rfl rfl rfl rfl (rn_len Try.runUnderlying25 rfl rfl) ?_
    refine WO.pn 1 rfl ?_
    refine WO.fin ?_
    refine DN.seq ?_
    refine WC.cf' rfl hc45 ?_
    refine WC.exit ?_
    refine DN.exitThen ?_
    refine DN.exitThen ?_
    obtain rfl := Option.some.inj h
    have h := hk54
    refine DN.hit ?_
    obtain rfl := Option.some.inj h
    exact DN.meet _ ⟨K52, rfl, S53.wk rfl, rfl⟩ fun a ha => (ha.more ha.nil rfl)
   ·
    obtain ⟨o45, h, hk54⟩ := Option.bind_eq_some_iff.mp h; unfold s_CircuitOk_b0 at h
    have hc45 : decide (v3 < (p0.Gates.length : Int)) = true := decide_eq_true (by omega)
    refine WC.seq ?_
    refine WC.seq ?_
    refine WC.rs [(0, 2), (1, 2), (2, 1), (3, 2), (4, 2)] rfl ?_
    refine WO.pn 1 rfl ?_
    refine WO.k2 rfl rfl rfl rfl (rn_fieldAddr Try.runUnderlying27 rfl Try.sizeOf25 rfl rfl) ?_
    have f56 := f4.stp (S9.tr (S24.tr (S30.tr (S36.tr (S42.tr S53))))) rfl rfl
    refine WO.k1 trivial rfl rfl rfl rfl (rn_ld Try.isAgg25 rfl rfl (hvE (f56.ld 3 rfl rfl))) ?_
    refine WO.k2 rfl rfl rfl rfl (rn_len Try.runUnderlying25 rfl rfl) ?_
    refine WO.pn 1 rfl ?_
    refine WO.fin ?_
    refine DN.seq ?_
    refine WC.ct' rfl hc45 ?_
    refine WC.skip ?_
    refine DN.seq ?_
    refine WC.seq ?_
    refine WC.block ?_
    refine WC.seq ?_
    refine WC.rs [(0, 2), (1, 1), (2, 2), (3, 2), (4, 1), (5, 2), (6, 2), (7, 2), (8, 2), (9, 2), (10, 2)] rfl ?_
    refine WO.k2 rfl rfl rfl rfl (rn_fieldAddr Try.runUnderlying27 rfl Try.sizeOf2 rfl rfl) ?_
    refine WO.k1 trivial rfl rfl rfl rfl (rn_ld Try.isAgg2 rfl rfl (hvE (f56.ld 0 rfl rfl))) ?_
    refine WO.pn 1 rfl ?_
    refine WO.k2 rfl rfl rfl rfl (rn_fieldAddr Try.runUnderlying27 rfl Try.sizeOf2 rfl rfl) ?_
    refine WO.k1 trivial rfl rfl rfl rfl (rn_ld Try.isAgg2 rfl rfl (hvE (f56.ld 1 rfl rfl))) ?_
    refine WO.pn 6 rfl ?_
    refine WO.fin ?_
    refine DN.seq ?_
    refine WC.seq ?_
    refine WC.rs [(0, 2), (1, 1), (2, 2), (3, 2), (4, 2), (5, 1), (6, 2), (7, 1), (8, 2), (9, 2), (10, 2), (11, 1), (12, 2), (13, 2), (14, 2), (15, 1), (16, 2), (17, 1), (18, 2), (19, 2)] rfl ?_
    refine WO.k2 rfl rfl rfl rfl (rn_fieldAddr Try.runUnderlying27 rfl Try.sizeOf25 rfl rfl) ?_
    refine WO.k1 trivial rfl rfl rfl rfl (rn_ld Try.isAgg25 rfl rfl (hvE (f56.ld 3 rfl rfl))) ?_
    refine WO.pn 1 rfl ?_
    obtain ⟨x55, hx55, h⟩ := Option.bind_eq_some_iff.mp h
    refine WO.k2 rfl rfl rfl rfl (rn_index g0_3 hx55 Try.runUnderlying25 Try.sizeOf33 rfl rfl rfl rfl) ?_
    refine WO.k2 rfl rfl rfl rfl (rn_fieldAddr Try.runUnderlying33 rfl Try.sizeOf2 rfl rfl) ?_
    have f57 := g0_3.stp (S3.tr (S9.tr (S24.tr (S30.tr (S36.tr (S42.tr S53)))))) rfl rfl
    obtain ⟨cse58, hre58, hle58⟩ := (f57).gSt hx55
    obtain rfl := Gate.un hre58
    refine WO.k1 trivial rfl rfl rfl rfl (rn_ld Try.isAgg2 rfl rfl (hvE (fun w' hw' => hle58 w' hw' 0 _ rfl))) ?_
    refine WO.pn 1 rfl ?_
    obtain ⟨x59, hx59, h⟩ := Option.bind_eq_some_iff.mp h
    refine WO.call rfl rfl rfl rfl rfl rfl Try.call33 (s_l1In_ok (κ := fun b => mp [] 0 (K52 b)) hx59) ?_
    rintro _ w59 ⟨k60, rfl, e61⟩
    obtain ⟨K62, S63, m64⟩ := Ent.mixed (l := []) (κ := K52) e61 5 rfl
    refine ⟨trivial, ?_⟩
    refine WO.pn 2 rfl ?_
    obtain ⟨p71, h, hK66⟩ := Option.bind_eq_some_iff.mp h
    refine WO.meet [(10, 2), (11, 1), (12, 2), (13, 2), (14, 2), (15, 1), (16, 2), (17, 1), (18, 2), (19, 2)] [] (fun L w' => L = [(1, .pointer (some ⟨b1, 0, none⟩)), (3, .int .i64 v3), (71, .bool p71)] ∧ ∃ κ', Stp [] K62 w59 κ' w') trivial ?_ ?_
    ·
     revert h
     cases ht67 : (!x59) with
     | true =>
      intro h; replace h := cT h
      refine WO.pn 1 rfl ?_
      refine WO.ls rfl rfl rfl rfl ?_
      refine WO.pn 3 rfl ?_
      refine WO.ls rfl rfl rfl rfl ?_
      refine WO.pn 1 rfl ?_
      refine WO.ls rfl rfl rfl rfl ?_
      refine WO.pn 2 rfl ?_
      obtain rfl := Option.some.inj h
      exact WO.met _ trivial ⟨rfl, _, (Stp.refl _ _).wk rfl⟩ fun a ha => (ha.more (ha.more (ha.more ha.nil rfl) rfl) rfl)
     | false =>
      intro h; replace h := cF h
      refine WO.k2 rfl rfl rfl rfl (rn_fieldAddr Try.runUnderlying27 rfl Try.sizeOf25 rfl rfl) ?_
      have f68 := f56.stp S63 rfl rfl
      refine WO.k1 trivial rfl rfl rfl rfl (rn_ld Try.isAgg25 rfl rfl (hvE (f68.ld 3 rfl rfl))) ?_
      refine WO.pn 1 rfl ?_
      obtain ⟨x65, hx65, h⟩ := Option.bind_eq_some_iff.mp h
      refine WO.k2 rfl rfl rfl rfl (rn_index f57 hx65 Try.runUnderlying25 Try.sizeOf33 rfl rfl rfl rfl) ?_
      refine WO.k2 rfl rfl rfl rfl (rn_fieldAddr Try.runUnderlying33 rfl Try.sizeOf2 rfl rfl) ?_
      have f69 := f57.stp S63 rfl rfl
      obtain ⟨cse70, hre70, hle70⟩ := (f69).gSt hx65
      obtain rfl := Gate.un hre70
      refine WO.k1 trivial rfl rfl rfl rfl (rn_ld Try.isAgg2 rfl rfl (hvE (fun w' hw' => hle70 w' hw' 1 _ rfl))) ?_
      refine WO.pn 1 rfl ?_
      obtain ⟨x69, hx69, h⟩ := Option.bind_eq_some_iff.mp h
      refine WO.call rfl rfl rfl rfl rfl rfl Try.call33 (s_l1In_ok (κ := fun b => mp [] 0 (K62 b)) hx69) ?_
      rintro _ w71 ⟨k72, rfl, e73⟩
      obtain ⟨K74, S75, m76⟩ := Ent.mixed (l := []) (κ := K62) e73 7 rfl
      refine ⟨trivial, ?_⟩
      refine WO.pn 2 rfl ?_
      obtain rfl := Option.some.inj h
      exact WO.met _ trivial ⟨rfl, _, S75.wk rfl⟩ fun a ha => (ha.more (ha.more (ha.more ha.nil rfl) rfl) rfl)
    rintro _ w78 _ ⟨rfl, K79, S80⟩
    have h := hK66
    refine WO.fin ?_
    refine DN.seq ?_
    revert h
    cases ht81 : p71 with
    | true =>
     intro h; replace h := cT h
     refine WC.ct rfl ?_
     refine WC.seq ?_
     refine WC.rs [(0, 2)] rfl ?_
     refine WO.pn 1 rfl ?_
     refine WO.fin ?_
     refine DN.seq ?_
     refine WC.ret ?_
     refine DN.retBlock ?_
     refine DN.retThen ?_
     refine DN.retThen ?_
     obtain rfl := Option.some.inj h
     obtain rfl := Option.some.inj hk54
     have h := hK46
     dsimp only [aft] at h
     refine DN.retBlock ?_
     refine DN.retMeet ?_
     refine DN.retThen ?_
     have f82 := hE.stp (S3.tr (S9.tr (S24.tr (S30.tr (S36.tr (S42.tr (S53.tr (S63.tr S80)))))))) rfl rfl
     refine DN.res (l := [.tmp 2]) Try.results9 (res_tmp rfl rfl) rfl ?_
     obtain rfl := Option.some.inj h
     exact ⟨K79, rfl, f82⟩
    | false =>
     intro h; replace h := cF h
     refine WC.cf rfl ?_
     refine WC.skip ?_
     refine DN.block ?_
     refine DN.seq ?_
     refine WC.rs [(0, 2), (1, 2), (2, 2)] rfl ?_
     refine WO.pn 3 rfl ?_
     refine WO.fin ?_
     have hw45 : IntKind.wrap .i64 (v3 + 1) = v3 + 1 := wr1 hj45 (of_decide_eq_true hc45) hN45
     rw [hw45]
     have hc45 := of_decide_eq_true hc45
     obtain rfl := Option.some.inj h
     refine DN.round fun a ha => ?_
     exact ⟨k, _, Nat.lt_succ_self _, ⟨K79, v3 + 1, rfl, (S53.tr (S63.tr S80)).wk rfl, by omega, by omega, hk54⟩, (ha.more (ha.more ha.nil rfl) rfl)⟩
  rintro _ w48 ⟨K49, rfl, S50, rfl⟩
  have h := hK46
  dsimp only [aft] at h
  refine DN.seq ?_
  refine WC.seq ?_
  refine WC.rx (κ := K49) [2] none [(0, 2), (1, 0), (2, 0), (3, 1), (4, 1), (5, 2), (6, 2), (7, 0), (8, 0), (9, 1), (10, 1), (11, 2), (12, 2)] [] (by kernel_rfl) (by kernel_rfl) fun w84 S83 => ?_
  refine WO.k2 rfl rfl rfl rfl (rn_fieldAddr Try.runUnderlying27 rfl Try.sizeOf24 rfl rfl) ?_
  have f85 := f4.stp (S9.tr (S24.tr (S30.tr (S36.tr (S42.tr (S50.tr S83)))))) rfl rfl
  refine WO.k0 rfl rfl rfl rfl (rn_ld Try.isAgg24 rfl rfl (hvC (f85.ld 2 rfl rfl) rfl)) ?_
  refine WO.k0 rfl rfl rfl rfl (rn_la (cs := [.int .i64 p0.Inputs, .int .i64 p0.Latches, .slice a0_2 p0.Next.length u0_2, .slice a0_3 p0.Gates.length u0_3, .slice a0_4 p0.Outs.length u0_4]) Try.isAgg27 Try.sizeOf27 rfl rfl rfl (haC f85.cells rfl)) ?_
  obtain ⟨x75, hx75, h⟩ := Option.bind_eq_some_iff.mp h
  have f86 := g0_2.stp (S3.tr (S9.tr (S24.tr (S30.tr (S36.tr (S42.tr (S50.tr S83))))))) rfl rfl
  have f87 := g0_3.stp (S3.tr (S9.tr (S24.tr (S30.tr (S36.tr (S42.tr (S50.tr S83))))))) rfl rfl
  have f88 := g0_4.stp (S3.tr (S9.tr (S24.tr (S30.tr (S36.tr (S42.tr (S50.tr S83))))))) rfl rfl
  refine WO.call rfl rfl rfl rfl rfl rfl Try.call35 (s_l31Signals_ok (κ := fun b => mp [] 0 (K49 b)) (p0 := p0) (Sl.map f86 (mp [] 0) rfl rfl) (Sl.map f87 (mp [] 0) rfl rfl) (Sl.map f88 (mp [] 0) rfl rfl) hx75) ?_
  rintro _ w89 ⟨k90, rfl, e91⟩
  obtain ⟨K92, S93, m94⟩ := Ent.mixed (l := []) (κ := K49) e91 5 rfl
  refine ⟨(S93.cl rfl), ?_⟩
  obtain ⟨x76, hx76, h⟩ := Option.bind_eq_some_iff.mp h
  have f96 := f86.stp S93 rfl rfl
  refine WO.call rfl rfl rfl rfl rfl rfl Try.call34 (s_l31Literals_ok (κ := fun b => mp [] 0 (K92 b)) (Sl.map f96 (mp [] 0) rfl rfl) hx76) ?_
  rintro _ w97 ⟨k98, rfl, e99⟩
  obtain ⟨K100, S101, m102⟩ := Ent.mixed (l := []) (κ := K92) e99 7 rfl
  refine ⟨((S93.tr S101).cl rfl), ?_⟩
  refine WO.pn 1 rfl ?_
  obtain ⟨p83, h, hK104⟩ := Option.bind_eq_some_iff.mp h
  refine WO.meet [(6, 2), (7, 0), (8, 0), (9, 1), (10, 1), (11, 2)] [(12, 2)] (fun L w' => L = [(83, .bool p83)] ∧ ∃ κ', Stp [] K100 w97 κ' w') ((S93.tr S101).cl rfl) ?_ ?_
  ·
   revert h
   cases ht105 : x76 with
   | true =>
    intro h; replace h := cT h
    refine WO.k2 rfl rfl rfl rfl (rn_fieldAddr Try.runUnderlying27 rfl Try.sizeOf24 rfl rfl) ?_
    refine WO.k0 rfl rfl rfl rfl (rn_ld Try.isAgg24 rfl rfl (hvC (f85.ld 4 rfl rfl) rfl)) ?_
    refine WO.k0 rfl rfl rfl rfl (rn_la (cs := [.int .i64 p0.Inputs, .int .i64 p0.Latches, .slice a0_2 p0.Next.length u0_2, .slice a0_3 p0.Gates.length u0_3, .slice a0_4 p0.Outs.length u0_4]) Try.isAgg27 Try.sizeOf27 rfl rfl rfl (haC f85.cells rfl)) ?_
    obtain ⟨x81, hx81, h⟩ := Option.bind_eq_some_iff.mp h
    have f106 := f96.stp S101 rfl rfl
    have f107 := f87.stp (S93.tr S101) rfl rfl
    have f108 := f88.stp (S93.tr S101) rfl rfl
    refine WO.call rfl rfl rfl rfl rfl rfl Try.call35 (s_l31Signals_ok (κ := fun b => mp [] 0 (K100 b)) (p0 := p0) (Sl.map f106 (mp [] 0) rfl rfl) (Sl.map f107 (mp [] 0) rfl rfl) (Sl.map f108 (mp [] 0) rfl rfl) hx81) ?_
    rintro _ w109 ⟨k110, rfl, e111⟩
    obtain ⟨K112, S113, m114⟩ := Ent.mixed (l := []) (κ := K100) e111 9 rfl
    refine ⟨((S93.tr (S101.tr S113)).cl rfl), ?_⟩
    obtain ⟨x82, hx82, h⟩ := Option.bind_eq_some_iff.mp h
    have f116 := f108.stp S113 rfl rfl
    refine WO.call rfl rfl rfl rfl rfl rfl Try.call34 (s_l31Literals_ok (κ := fun b => mp [] 0 (K112 b)) (Sl.map f116 (mp [] 0) rfl rfl) hx82) ?_
    rintro _ w117 ⟨k118, rfl, e119⟩
    obtain ⟨K120, S121, m122⟩ := Ent.mixed (l := []) (κ := K112) e119 11 rfl
    refine ⟨((S93.tr (S101.tr (S113.tr S121))).cl rfl), ?_⟩
    refine WO.pn 1 rfl ?_
    obtain rfl := Option.some.inj h
    exact WO.met _ ((S93.tr (S101.tr (S113.tr S121))).cl rfl) ⟨rfl, _, (S113.tr S121).wk rfl⟩ fun a ha => (ha.more ha.nil rfl)
   | false =>
    intro h; replace h := cF h
    refine WO.pn 1 rfl ?_
    refine WO.qs rfl rfl rfl rfl ?_
    refine WO.qs rfl rfl rfl rfl ?_
    refine WO.ls rfl rfl rfl rfl ?_
    refine WO.ls rfl rfl rfl rfl ?_
    refine WO.pn 1 rfl ?_
    obtain rfl := Option.some.inj h
    exact WO.met _ ((S93.tr S101).cl rfl) ⟨rfl, _, (Stp.refl _ _).wk rfl⟩ fun a ha => (ha.more ha.nil rfl)
  rintro _ w124 _ ⟨rfl, K125, S126⟩
  have h := hK104
  refine WO.pn 1 rfl ?_
  refine WO.nx ?_
  refine WO.fin ?_
  refine DN.seq ?_
  refine WC.ret ?_
  have f127 := hE.stp (S3.tr (S9.tr (S24.tr (S30.tr (S36.tr (S42.tr (S50.tr (S83.tr (S93.tr (S101.tr S126)))))))))) rfl rfl
  refine DN.res (l := [.tmp 2]) Try.results9 (res_tmp rfl rfl) rfl ?_
  obtain rfl := Option.some.inj h
  exact ⟨K125, rfl, f127⟩

/- loop.example/g00869/spec.l31Choose -/
theorem s_l31Choose_ok {w : World} {κ : Col} {a0_2 : Option Addr} {u0_2 : Nat} {a0_3 : Option Addr} {u0_3 : Nat} {a0_4 : Option Addr} {u0_4 : Nat} {p0 : Circuit} {p1 : Int} {p2 : Int} {p3 : Int} (g0_2 : Rd (Rp.int .i64) κ w 0 a0_2 u0_2 p0.Next) (g0_3 : Oc Gate.ep33 33 κ w 2 a0_3 u0_3 p0.Gates) (g0_4 : Rd (Rp.int .i64) κ w 0 a0_4 u0_4 p0.Outs) {r : Circuit × Int} (h : s_l31Choose p0 p1 p2 p3 = some r) : Ret Try.prog 48 [.agg #[.int .i64 p0.Inputs, .int .i64 p0.Latches, .slice a0_2 p0.Next.length u0_2, .slice a0_3 p0.Gates.length u0_3, .slice a0_4 p0.Outs.length u0_4], .int .i64 p1, .int .i64 p2, .int .i64 p3] w (fun v w' => ∃ (κ' : Col) (ra0 : Option Addr) (ru0 : Nat) (ra1 : Option Addr) (ru1 : Nat) (ra2 : Option Addr) (ru2 : Nat), v = .tuple #[.agg #[.int .i64 r.1.Inputs, .int .i64 r.1.Latches, .slice ra0 r.1.Next.length ru0, .slice ra1 r.1.Gates.length ru1, .slice ra2 r.1.Outs.length ru2], .int .i64 r.2] ∧ Ent κ w κ' w' ∧ Rd (Rp.int .i64) κ' w' 0 ra0 ru0 r.1.Next ∧ Oc Gate.ep33 33 κ' w' 4 ra1 ru1 r.1.Gates ∧ Rd (Rp.int .i64) κ' w' 0 ra2 ru2 r.1.Outs) := by
 unfold s_l31Choose at h
 refine Ret.enter Try.func48 rfl Try.ntmps48 rfl ?_
 dsimp only [envOf]
 have hE := Ent.refl κ w
 refine WC.seq ?_
 refine WC.rs [(0, 1), (1, 1), (2, 2)] rfl ?_
 refine WO.box (κ := κ) 3 rfl rfl rfl rfl rfl rfl rfl fun b4 w1 K2 S3 f4 => ⟨trivial, ?_⟩
 refine WO.alloc (κ := K2) 4 rfl rfl rfl rfl rfl Try.zeroValue27 rfl fun b8 w5 K6 S7 f8 => ⟨trivial, ?_⟩
 refine WO.pn 1 rfl ?_
 refine WO.fin ?_
 refine DN.seq ?_
 refine WC.seq ?_
 refine WC.seq ?_
 refine WC.rs [(0, 2), (1, 2), (2, 2)] rfl ?_
 refine WO.pn 3 rfl ?_
 refine WO.fin ?_
 refine DN.seq ?_
 revert h
 cases ht9 : (p2 == p3) with
 | true =>
  intro h; replace h := cT h
  refine WC.ct rfl ?_
  refine WC.seq ?_
  refine WC.rs [(0, 1), (1, 2), (2, 1), (3, 2)] rfl ?_
  have f10 := f4.stp S7 rfl rfl
  refine WO.k1 trivial rfl rfl rfl rfl (rn_la (cs := [.int .i64 p0.Inputs, .int .i64 p0.Latches, .slice a0_2 p0.Next.length u0_2, .slice a0_3 p0.Gates.length u0_3, .slice a0_4 p0.Outs.length u0_4]) Try.isAgg27 Try.sizeOf27 rfl rfl rfl (haE f10.cells)) ?_
  refine WO.pn 1 rfl ?_
  refine WO.stB0 (κ := K6) 4 (vc := [.int .i64 p0.Inputs, .int .i64 p0.Latches, .slice a0_2 p0.Next.length u0_2, .slice a0_3 p0.Gates.length u0_3, .slice a0_4 p0.Outs.length u0_4]) rfl rfl rfl rfl rfl rfl rfl Try.sizeOf27 rfl rfl f8 rfl fun w11 S12 f13 => ⟨trivial, ?_⟩
  refine WO.pn 1 rfl ?_
  refine WO.fin ?_
  refine DN.seq ?_
  refine WC.ret ?_
  refine DN.retThen ?_
  have f14 := hE.stp (S3.tr (S7.tr S12)) rfl rfl
  have f15 := g0_2.stp (S3.tr (S7.tr S12)) rfl rfl
  have f16 := g0_3.stp (S3.tr (S7.tr S12)) rfl rfl
  have f17 := g0_4.stp (S3.tr (S7.tr S12)) rfl rfl
  refine DN.res (l := [.cell 8 27, .tmp 9]) Try.results48 (res_cellA rfl f13 Try.isAgg27 Try.sizeOf27 rfl (res_tmp rfl rfl)) rfl ?_
  obtain rfl := Option.some.inj h
  exact ⟨(fun b => ren [(2, 4)] (K6 b)), a0_2, u0_2, a0_3, u0_3, a0_4, u0_4, rfl, (f14.map (ren [(2, 4)]) rfl rfl), (f15.map (ren [(2, 4)]) rfl rfl), (f16.map (ren [(2, 4)]) rfl rfl), (f17.map (ren [(2, 4)]) rfl rfl)⟩
 | false =>
  intro h; replace h := cF h
  refine WC.cf rfl ?_
  refine WC.skip ?_
  refine DN.seq ?_
  refine WC.seq ?_
  refine WC.rs [(0, 1), (1, 2), (2, 2), (3, 1), (4, 2), (5, 2), (6, 2), (7, 1), (8, 2)] rfl ?_
  have f18 := f4.stp S7 rfl rfl
  refine WO.k1 trivial rfl rfl rfl rfl (rn_la (cs := [.int .i64 p0.Inputs, .int .i64 p0.Latches, .slice a0_2 p0.Next.length u0_2, .slice a0_3 p0.Gates.length u0_3, .slice a0_4 p0.Outs.length u0_4]) Try.isAgg27 Try.sizeOf27 rfl rfl rfl (haE f18.cells)) ?_
  refine WO.pn 2 rfl ?_
  obtain ⟨x22, hx22, h⟩ := Option.bind_eq_some_iff.mp h
  have f19 := g0_2.stp (S3.tr S7) rfl rfl
  have f20 := g0_3.stp (S3.tr S7) rfl rfl
  have f21 := g0_4.stp (S3.tr S7) rfl rfl
  refine WO.call rfl rfl rfl rfl rfl rfl Try.call46 (s_l31Join_ok (κ := fun b => mp [(2, 2)] 1 (K6 b)) (p0 := p0) (Sl.map f19 (mp [(2, 2)] 1) rfl rfl) (f20.map (mp [(2, 2)] 1) rfl rfl) (Sl.map f21 (mp [(2, 2)] 1) rfl rfl) hx22) ?_
  rintro _ w22 ⟨k23, a22_0, u22_0, a22_1, u22_1, a22_2, u22_2, rfl, e24, f25, f26, f27⟩
  obtain ⟨K28, S29, m30, z31⟩ := Ent.mixed0 (l := [(2, 2)]) (κ := K6) e24 5 rfl
  refine ⟨trivial, ?_⟩
  have f32 := f25.mx z31
  have f33 := f26.mx Gate.no33 m30 rfl (rfl : 5 + 4 = 9)
  have f34 := f27.mx z31
  refine WO.pn 3 rfl ?_
  have f35 := f18.stp S29 rfl rfl
  refine WO.stB0 (κ := K28) 3 (vc := [.int .i64 x22.1.Inputs, .int .i64 x22.1.Latches, .slice a22_0 x22.1.Next.length u22_0, .slice a22_1 x22.1.Gates.length u22_1, .slice a22_2 x22.1.Outs.length u22_2]) rfl rfl rfl rfl rfl rfl rfl Try.sizeOf27 rfl rfl f35 rfl fun w36 S37 f38 => ⟨trivial, ?_⟩
  refine WO.pn 1 rfl ?_
  refine WO.fin ?_
  refine DN.seq ?_
  refine WC.seq ?_
  refine WC.seq ?_
  refine WC.rs [(0, 2), (1, 2)] rfl ?_
  refine WO.pn 2 rfl ?_
  refine WO.fin ?_
  refine DN.seq ?_
  revert h
  cases ht39 : decide (x22.2 < 0) with
  | true =>
   intro h; replace h := cT h
   refine WC.ct rfl ?_
   refine WC.seq ?_
   refine WC.rs [(0, 2), (1, 1), (2, 2)] rfl ?_
   refine WO.k2 rfl rfl rfl rfl (rn_build (parts := []) (cells := [.int .i64 0, .int .i64 0, .slice none 0 0, .slice none 0 0, .slice none 0 0]) rfl rfl (by kernel_rfl)) ?_
   have f40 := f8.stp (S29.tr S37) rfl rfl
   refine WO.stB0 (κ := K28) 4 (vc := [.int .i64 0, .int .i64 0, .slice none 0 0, .slice none 0 0, .slice none 0 0]) rfl rfl rfl rfl rfl rfl rfl Try.sizeOf27 rfl rfl f40 rfl fun w41 S42 f43 => ⟨trivial, ?_⟩
   refine WO.pn 1 rfl ?_
   refine WO.fin ?_
   refine DN.seq ?_
   refine WC.ret ?_
   refine DN.retThen ?_
   have f44 := hE.stp (S3.tr (S7.tr (S29.tr (S37.tr S42)))) rfl rfl
   refine DN.res (l := [.cell 8 27, .tmp 9]) Try.results48 (res_cellA rfl f43 Try.isAgg27 Try.sizeOf27 rfl (res_tmp rfl rfl)) rfl ?_
   obtain rfl := Option.some.inj h
   exact ⟨K28, none, 0, none, 0, none, 0, rfl, f44, Sl.nil, Ow.nil, Sl.nil⟩
  | false =>
   intro h; replace h := cF h
   refine WC.cf rfl ?_
   refine WC.skip ?_
   refine DN.seq ?_
   refine WC.seq ?_
   refine WC.rx (κ := K28) [3] (some 8) [(1, 2), (3, 2), (0, 0), (2, 1), (4, 1), (5, 2), (6, 2), (7, 2)] [(8, 1), (9, 2)] (by kernel_rfl) (by kernel_rfl) fun w46 S45 => ?_
   refine WO.pn 2 rfl ?_
   have f47 := f38.stp S45 rfl rfl
   refine WO.k0 rfl rfl rfl rfl (rn_la (cs := [.int .i64 x22.1.Inputs, .int .i64 x22.1.Latches, .slice a22_0 x22.1.Next.length u22_0, .slice a22_1 x22.1.Gates.length u22_1, .slice a22_2 x22.1.Outs.length u22_2]) Try.isAgg27 Try.sizeOf27 rfl rfl rfl (haC f47.cells rfl)) ?_
   obtain ⟨x31, hx31, h⟩ := Option.bind_eq_some_iff.mp h
   refine WO.call rfl rfl rfl rfl rfl rfl Try.call73 (s_l31Turn_ok (κ := fun b => mp [] 0 (K28 b)) hx31) ?_
   rintro _ w48 ⟨k49, rfl, e50⟩
   obtain ⟨K51, S52, m53⟩ := Ent.mixed (l := []) (κ := K28) e50 11 rfl
   refine ⟨(S52.cl rfl), ?_⟩
   obtain ⟨x33, hx33, h⟩ := Option.bind_eq_some_iff.mp h
   have f55 := f32.stp (S37.tr (S45.tr S52)) rfl rfl
   have f56 := f33.stp (S37.tr (S45.tr S52)) rfl rfl
   have f57 := f34.stp (S37.tr (S45.tr S52)) rfl rfl
   refine WO.call rfl rfl rfl rfl rfl rfl Try.call46 (s_l31Join_ok (κ := fun b => mp [(9, 2)] 1 (K51 b)) (p0 := x22.1) (Sl.map f55 (mp [(9, 2)] 1) rfl rfl) (f56.map (mp [(9, 2)] 1) rfl rfl) (Sl.map f57 (mp [(9, 2)] 1) rfl rfl) hx33) ?_
   rintro _ w58 ⟨k59, a33_0, u33_0, a33_1, u33_1, a33_2, u33_2, rfl, e60, f61, f62, f63⟩
   obtain ⟨K64, S65, m66, z67⟩ := Ent.mixed0 (l := [(9, 2)]) (κ := K51) e60 13 rfl
   refine ⟨((S52.tr S65).cl rfl), ?_⟩
   have f68 := f61.mx z67
   have f69 := f62.mx Gate.no33 m66 rfl (rfl : 13 + 4 = 17)
   have f70 := f63.mx z67
   refine WO.pn 3 rfl ?_
   refine WO.nx ?_
   have f71 := f47.stp (S52.tr S65) rfl rfl
   refine WO.stB0 (κ := K64) 3 (vc := [.int .i64 x33.1.Inputs, .int .i64 x33.1.Latches, .slice a33_0 x33.1.Next.length u33_0, .slice a33_1 x33.1.Gates.length u33_1, .slice a33_2 x33.1.Outs.length u33_2]) rfl rfl rfl rfl rfl rfl rfl Try.sizeOf27 rfl rfl f71 rfl fun w72 S73 f74 => ⟨trivial, ?_⟩
   refine WO.pn 1 rfl ?_
   refine WO.fin ?_
   refine DN.seq ?_
   refine WC.seq ?_
   refine WC.seq ?_
   refine WC.rs [(0, 2), (1, 2)] rfl ?_
   refine WO.pn 2 rfl ?_
   refine WO.fin ?_
   refine DN.seq ?_
   revert h
   cases ht75 : decide (x33.2 < 0) with
   | true =>
    intro h; replace h := cT h
    refine WC.ct rfl ?_
    refine WC.seq ?_
    refine WC.rs [(0, 2), (1, 1), (2, 2)] rfl ?_
    refine WO.k2 rfl rfl rfl rfl (rn_build (parts := []) (cells := [.int .i64 0, .int .i64 0, .slice none 0 0, .slice none 0 0, .slice none 0 0]) rfl rfl (by kernel_rfl)) ?_
    have f76 := f8.stp (S29.tr (S37.tr (S45.tr (S52.tr (S65.tr S73))))) rfl rfl
    refine WO.stB0 (κ := K64) 4 (vc := [.int .i64 0, .int .i64 0, .slice none 0 0, .slice none 0 0, .slice none 0 0]) rfl rfl rfl rfl rfl rfl rfl Try.sizeOf27 rfl rfl f76 rfl fun w77 S78 f79 => ⟨trivial, ?_⟩
    refine WO.pn 1 rfl ?_
    refine WO.fin ?_
    refine DN.seq ?_
    refine WC.ret ?_
    refine DN.retThen ?_
    have f80 := hE.stp (S3.tr (S7.tr (S29.tr (S37.tr (S45.tr (S52.tr (S65.tr (S73.tr S78)))))))) rfl rfl
    refine DN.res (l := [.cell 8 27, .tmp 9]) Try.results48 (res_cellA rfl f79 Try.isAgg27 Try.sizeOf27 rfl (res_tmp rfl rfl)) rfl ?_
    obtain rfl := Option.some.inj h
    exact ⟨K64, none, 0, none, 0, none, 0, rfl, f80, Sl.nil, Ow.nil, Sl.nil⟩
   | false =>
    intro h; replace h := cF h
    refine WC.cf rfl ?_
    refine WC.skip ?_
    refine DN.seq ?_
    refine WC.seq ?_
    refine WC.rx (κ := K64) [3] (some 9) [(1, 2), (3, 2), (0, 0), (2, 1), (4, 1), (5, 1), (6, 2), (7, 2), (8, 2)] [(9, 1), (10, 2)] (by kernel_rfl) (by kernel_rfl) fun w82 S81 => ?_
    refine WO.pn 2 rfl ?_
    have f83 := f74.stp S81 rfl rfl
    refine WO.k0 rfl rfl rfl rfl (rn_la (cs := [.int .i64 x33.1.Inputs, .int .i64 x33.1.Latches, .slice a33_0 x33.1.Next.length u33_0, .slice a33_1 x33.1.Gates.length u33_1, .slice a33_2 x33.1.Outs.length u33_2]) Try.isAgg27 Try.sizeOf27 rfl rfl rfl (haC f83.cells rfl)) ?_
    obtain ⟨x42, hx42, h⟩ := Option.bind_eq_some_iff.mp h
    refine WO.call rfl rfl rfl rfl rfl rfl Try.call73 (s_l31Turn_ok (κ := fun b => mp [] 0 (K64 b)) hx42) ?_
    rintro _ w84 ⟨k85, rfl, e86⟩
    obtain ⟨K87, S88, m89⟩ := Ent.mixed (l := []) (κ := K64) e86 19 rfl
    refine ⟨(S88.cl rfl), ?_⟩
    obtain ⟨x44, hx44, h⟩ := Option.bind_eq_some_iff.mp h
    refine WO.call rfl rfl rfl rfl rfl rfl Try.call73 (s_l31Turn_ok (κ := fun b => mp [] 0 (K87 b)) hx44) ?_
    rintro _ w91 ⟨k92, rfl, e93⟩
    obtain ⟨K94, S95, m96⟩ := Ent.mixed (l := []) (κ := K87) e93 21 rfl
    refine ⟨((S88.tr S95).cl rfl), ?_⟩
    obtain ⟨x45, hx45, h⟩ := Option.bind_eq_some_iff.mp h
    have f98 := f68.stp (S73.tr (S81.tr (S88.tr S95))) rfl rfl
    have f99 := f69.stp (S73.tr (S81.tr (S88.tr S95))) rfl rfl
    have f100 := f70.stp (S73.tr (S81.tr (S88.tr S95))) rfl rfl
    refine WO.call rfl rfl rfl rfl rfl rfl Try.call46 (s_l31Join_ok (κ := fun b => mp [(17, 2)] 1 (K94 b)) (p0 := x33.1) (Sl.map f98 (mp [(17, 2)] 1) rfl rfl) (f99.map (mp [(17, 2)] 1) rfl rfl) (Sl.map f100 (mp [(17, 2)] 1) rfl rfl) hx45) ?_
    rintro _ w101 ⟨k102, a45_0, u45_0, a45_1, u45_1, a45_2, u45_2, rfl, e103, f104, f105, f106⟩
    obtain ⟨K107, S108, m109, z110⟩ := Ent.mixed0 (l := [(17, 2)]) (κ := K94) e103 23 rfl
    refine ⟨((S88.tr (S95.tr S108)).cl rfl), ?_⟩
    have f111 := f104.mx z110
    have f112 := f105.mx Gate.no33 m109 rfl (rfl : 23 + 4 = 27)
    have f113 := f106.mx z110
    refine WO.pn 3 rfl ?_
    refine WO.nx ?_
    have f114 := f83.stp (S88.tr (S95.tr S108)) rfl rfl
    refine WO.stB0 (κ := K107) 3 (vc := [.int .i64 x45.1.Inputs, .int .i64 x45.1.Latches, .slice a45_0 x45.1.Next.length u45_0, .slice a45_1 x45.1.Gates.length u45_1, .slice a45_2 x45.1.Outs.length u45_2]) rfl rfl rfl rfl rfl rfl rfl Try.sizeOf27 rfl rfl f114 rfl fun w115 S116 f117 => ⟨trivial, ?_⟩
    refine WO.pn 1 rfl ?_
    refine WO.fin ?_
    refine DN.seq ?_
    refine WC.seq ?_
    refine WC.seq ?_
    refine WC.rs [(0, 2), (1, 2)] rfl ?_
    refine WO.pn 2 rfl ?_
    refine WO.fin ?_
    refine DN.seq ?_
    revert h
    cases ht118 : decide (x45.2 < 0) with
    | true =>
     intro h; replace h := cT h
     refine WC.ct rfl ?_
     refine WC.seq ?_
     refine WC.rs [(0, 2), (1, 1), (2, 2)] rfl ?_
     refine WO.k2 rfl rfl rfl rfl (rn_build (parts := []) (cells := [.int .i64 0, .int .i64 0, .slice none 0 0, .slice none 0 0, .slice none 0 0]) rfl rfl (by kernel_rfl)) ?_
     have f119 := f8.stp (S29.tr (S37.tr (S45.tr (S52.tr (S65.tr (S73.tr (S81.tr (S88.tr (S95.tr (S108.tr S116)))))))))) rfl rfl
     refine WO.stB0 (κ := K107) 4 (vc := [.int .i64 0, .int .i64 0, .slice none 0 0, .slice none 0 0, .slice none 0 0]) rfl rfl rfl rfl rfl rfl rfl Try.sizeOf27 rfl rfl f119 rfl fun w120 S121 f122 => ⟨trivial, ?_⟩
     refine WO.pn 1 rfl ?_
     refine WO.fin ?_
     refine DN.seq ?_
     refine WC.ret ?_
     refine DN.retThen ?_
     have f123 := hE.stp (S3.tr (S7.tr (S29.tr (S37.tr (S45.tr (S52.tr (S65.tr (S73.tr (S81.tr (S88.tr (S95.tr (S108.tr (S116.tr S121))))))))))))) rfl rfl
     refine DN.res (l := [.cell 8 27, .tmp 9]) Try.results48 (res_cellA rfl f122 Try.isAgg27 Try.sizeOf27 rfl (res_tmp rfl rfl)) rfl ?_
     obtain rfl := Option.some.inj h
     exact ⟨K107, none, 0, none, 0, none, 0, rfl, f123, Sl.nil, Ow.nil, Sl.nil⟩
    | false =>
     intro h; replace h := cF h
     refine WC.cf rfl ?_
     refine WC.skip ?_
     refine DN.seq ?_
     refine WC.seq ?_
     refine WC.rx (κ := K107) [3] none [(1, 2), (0, 0), (2, 1), (3, 1), (4, 2)] [] (by kernel_rfl) (by kernel_rfl) fun w125 S124 => ?_
     refine WO.pn 1 rfl ?_
     have f126 := f117.stp S124 rfl rfl
     refine WO.k0 rfl rfl rfl rfl (rn_la (cs := [.int .i64 x45.1.Inputs, .int .i64 x45.1.Latches, .slice a45_0 x45.1.Next.length u45_0, .slice a45_1 x45.1.Gates.length u45_1, .slice a45_2 x45.1.Outs.length u45_2]) Try.isAgg27 Try.sizeOf27 rfl rfl rfl (haC f126.cells rfl)) ?_
     obtain ⟨x53, hx53, h⟩ := Option.bind_eq_some_iff.mp h
     refine WO.call rfl rfl rfl rfl rfl rfl Try.call73 (s_l31Turn_ok (κ := fun b => mp [] 0 (K107 b)) hx53) ?_
     rintro _ w127 ⟨k128, rfl, e129⟩
     obtain ⟨K130, S131, m132⟩ := Ent.mixed (l := []) (κ := K107) e129 29 rfl
     refine ⟨(S131.cl rfl), ?_⟩
     have f134 := f8.stp (S29.tr (S37.tr (S45.tr (S52.tr (S65.tr (S73.tr (S81.tr (S88.tr (S95.tr (S108.tr (S116.tr (S124.tr S131)))))))))))) rfl rfl
     refine WO.stB0 (κ := K130) 4 (vc := [.int .i64 x45.1.Inputs, .int .i64 x45.1.Latches, .slice a45_0 x45.1.Next.length u45_0, .slice a45_1 x45.1.Gates.length u45_1, .slice a45_2 x45.1.Outs.length u45_2]) rfl rfl rfl rfl rfl rfl rfl Try.sizeOf27 rfl rfl f134 rfl fun w135 S136 f137 => ⟨((S131.tr S136).cl rfl), ?_⟩
     refine WO.pn 1 rfl ?_
     refine WO.nx ?_
     refine WO.fin ?_
     refine DN.seq ?_
     refine WC.ret ?_
     have f138 := hE.stp (S3.tr (S7.tr (S29.tr (S37.tr (S45.tr (S52.tr (S65.tr (S73.tr (S81.tr (S88.tr (S95.tr (S108.tr (S116.tr (S124.tr (S131.tr S136))))))))))))))) rfl rfl
     have f139 := f111.stp (S116.tr (S124.tr (S131.tr S136))) rfl rfl
     have f140 := f112.stp (S116.tr (S124.tr (S131.tr S136))) rfl rfl
     have f141 := f113.stp (S116.tr (S124.tr (S131.tr S136))) rfl rfl
     refine DN.res (l := [.cell 8 27, .tmp 9]) Try.results48 (res_cellA rfl f137 Try.isAgg27 Try.sizeOf27 rfl (res_tmp rfl rfl)) rfl ?_
     obtain rfl := Option.some.inj h
     exact ⟨(fun b => ren [(27, 4)] (K130 b)), a45_0, u45_0, a45_1, u45_1, a45_2, u45_2, rfl, (f138.map (ren [(27, 4)]) rfl rfl), (f139.map (ren [(27, 4)]) rfl rfl), (f140.map (ren [(27, 4)]) rfl rfl), (f141.map (ren [(27, 4)]) rfl rfl)⟩

end Go.Proofs.Ythjkonkcdfdfaaa
