/- The walks, part 0. By program. -/
import Derived.Test.YtnpmbkaoeihdmaaDoorText
import Derived.Test.YtnpmbkaoeihdmaaDoorShelf
import Derived.Test.YtnpmbkaoeihdmaaDoorFnsEM
set_option linter.unusedVariables false
set_option linter.unusedSimpArgs false
namespace Go.Proofs.YtnpmbkaoeihdmaaDoor
open Go Go.Wk Go.Proofs
set_option maxRecDepth 100000
set_option maxHeartbeats 1000000

/- loop.example/g00869/laws.toEdit -/
theorem l_toEdit_ok {w : World} {κ : Col} {p0 : Edit}  {r : Edit} (h : l_toEdit p0 = some r) : Ret Tryd.prog 14 [.agg #[.int .i64 p0.Kind, .int .i64 p0.V, .int .i64 p0.N]] w (fun v w' => ∃ (κ' : Col), v = .agg #[.int .i64 r.Kind, .int .i64 r.V, .int .i64 r.N] ∧ Ent κ w κ' w') := by
 unfold l_toEdit at h
 refine Ret.enter Tryd.func14 rfl Tryd.ntmps14 rfl ?_
 dsimp only [envOf]
 have hE := Ent.refl κ w
 refine WC.seq ?_
 refine WC.rs [(0, 1), (1, 1)] rfl ?_
 refine WO.box (κ := κ) 2 rfl rfl rfl rfl rfl rfl rfl fun b1 w1 K2 S3 f4 => ⟨trivial, ?_⟩
 refine WO.alloc (κ := K2) 3 rfl rfl rfl rfl rfl Tryd.zeroValue25 rfl fun b2 w5 K6 S7 f8 => ⟨trivial, ?_⟩
 refine WO.fin ?_
 refine DN.seq ?_
 refine WC.seq ?_
 refine WC.rs [(0, 1)] rfl ?_
 refine WO.alloc (κ := K6) 4 rfl rfl rfl rfl rfl Tryd.zeroValue25 rfl fun b3 w9 K10 S11 f12 => ⟨trivial, ?_⟩
 refine WO.fin ?_
 refine DN.seq ?_
 refine WC.seq ?_
 refine WC.rs [(0, 2), (1, 1), (2, 2), (3, 1)] rfl ?_
 refine WO.k2 rfl rfl rfl rfl (rn_fieldAddr Tryd.runUnderlying30 rfl Tryd.sizeOf2 rfl rfl) ?_
 have f13 := f4.stp (S7.tr S11) rfl rfl
 refine WO.k1 trivial rfl rfl rfl rfl (rn_ld Tryd.isAgg2 rfl rfl (hvE (f13.ld 0 rfl rfl))) ?_
 refine WO.k2 rfl rfl rfl rfl (rn_fieldAddr Tryd.runUnderlying25 rfl Tryd.sizeOf2 rfl rfl) ?_
 refine WO.stB (κ := K10) 4 (off := 0) (vc := [.int .i64 p0.Kind]) (cs' := [.int .i64 p0.Kind, .int .i64 0, .int .i64 0]) rfl rfl rfl rfl rfl rfl rfl Tryd.sizeOf2 rfl rfl f12 rfl rfl fun w14 S15 f16 => ⟨trivial, ?_⟩
 refine WO.fin ?_
 refine DN.seq ?_
 refine WC.seq ?_
 refine WC.rs [(0, 2), (1, 1), (2, 2), (3, 1)] rfl ?_
 refine WO.k2 rfl rfl rfl rfl (rn_fieldAddr Tryd.runUnderlying30 rfl Tryd.sizeOf2 rfl rfl) ?_
 have f17 := f13.stp S15 rfl rfl
 refine WO.k1 trivial rfl rfl rfl rfl (rn_ld Tryd.isAgg2 rfl rfl (hvE (f17.ld 1 rfl rfl))) ?_
 refine WO.k2 rfl rfl rfl rfl (rn_fieldAddr Tryd.runUnderlying25 rfl Tryd.sizeOf2 rfl rfl) ?_
 refine WO.stB (κ := K10) 4 (off := 1) (vc := [.int .i64 p0.V]) (cs' := [.int .i64 p0.Kind, .int .i64 p0.V, .int .i64 0]) rfl rfl rfl rfl rfl rfl rfl Tryd.sizeOf2 rfl rfl f16 rfl rfl fun w18 S19 f20 => ⟨trivial, ?_⟩
 refine WO.fin ?_
 refine DN.seq ?_
 refine WC.seq ?_
 refine WC.rs [(0, 2), (1, 1), (2, 2), (3, 1)] rfl ?_
 refine WO.k2 rfl rfl rfl rfl (rn_fieldAddr Tryd.runUnderlying30 rfl Tryd.sizeOf2 rfl rfl) ?_
 have f21 := f17.stp S19 rfl rfl
 refine WO.k1 trivial rfl rfl rfl rfl (rn_ld Tryd.isAgg2 rfl rfl (hvE (f21.ld 2 rfl rfl))) ?_
 refine WO.k2 rfl rfl rfl rfl (rn_fieldAddr Tryd.runUnderlying25 rfl Tryd.sizeOf2 rfl rfl) ?_
 refine WO.stB (κ := K10) 4 (off := 2) (vc := [.int .i64 p0.N]) (cs' := [.int .i64 p0.Kind, .int .i64 p0.V, .int .i64 p0.N]) rfl rfl rfl rfl rfl rfl rfl Tryd.sizeOf2 rfl rfl f20 rfl rfl fun w22 S23 f24 => ⟨trivial, ?_⟩
 refine WO.fin ?_
 refine DN.seq ?_
 refine WC.seq ?_
 refine WC.rs [(0, 1), (1, 1)] rfl ?_
 refine WO.k1 trivial rfl rfl rfl rfl (rn_la (cs := [.int .i64 p0.Kind, .int .i64 p0.V, .int .i64 p0.N]) Tryd.isAgg25 Tryd.sizeOf25 rfl rfl rfl (haE f24.cells)) ?_
 have f25 := f8.stp (S11.tr (S15.tr (S19.tr S23))) rfl rfl
 refine WO.stB0 (κ := K10) 3 (vc := [.int .i64 p0.Kind, .int .i64 p0.V, .int .i64 p0.N]) rfl rfl rfl rfl rfl rfl rfl Tryd.sizeOf25 rfl rfl f25 rfl fun w26 S27 f28 => ⟨trivial, ?_⟩
 refine WO.fin ?_
 refine DN.seq ?_
 refine WC.ret ?_
 have f29 := hE.stp (S3.tr (S7.tr (S11.tr (S15.tr (S19.tr (S23.tr S27)))))) rfl rfl
 refine DN.res (l := [.cell 2 25]) Tryd.results14 (res_cellA rfl f28 Tryd.isAgg25 Tryd.sizeOf25 rfl rfl) rfl ?_
 obtain rfl := Option.some.inj h
 exact ⟨K10, rfl, f29⟩

/- loop.example/g00869/spec.l1In -/
theorem s_l1In_ok {w : World} {κ : Col} {p0 : Int} {p1 : Int} {p2 : Int}  {r : Bool} (h : s_l1In p0 p1 p2 = some r) : Ret Tryd.prog 37 [.int .i64 p0, .int .i64 p1, .int .i64 p2] w (fun v w' => ∃ (κ' : Col), v = .bool r ∧ Ent κ w κ' w') := by
 unfold s_l1In at h
 refine Ret.enter Tryd.func37 rfl Tryd.ntmps37 rfl ?_
 dsimp only [envOf]
 have hE := Ent.refl κ w
 refine WC.seq ?_
 refine WC.rs [(0, 2)] rfl ?_
 refine WO.pn 1 rfl ?_
 refine WO.fin ?_
 refine DN.seq ?_
 refine WC.seq ?_
 refine WC.rs [(0, 2), (1, 2), (2, 2), (3, 2), (4, 2), (5, 2), (6, 2), (7, 2), (8, 2)] rfl ?_
 refine WO.pn 4 rfl ?_
 obtain ⟨p14, h, hK1⟩ := Option.bind_eq_some_iff.mp h
 refine WO.meet [(4, 2), (5, 2), (6, 2), (7, 2)] [(8, 2)] (fun L w' => L = [(6, .bool false), (14, .bool p14)] ∧ ∃ κ', Stp [] κ w κ' w') trivial ?_ ?_
 ·
  revert h
  cases ht2 : decide (p1 ≤ p0) with
  | true =>
   intro h; replace h := cT h
   refine WO.pn 4 rfl ?_
   obtain rfl := Option.some.inj h
   exact WO.met _ trivial ⟨rfl, _, (Stp.refl _ _).wk rfl⟩ fun a ha => (ha.more (ha.more ha.nil rfl) rfl)
  | false =>
   intro h; replace h := cF h
   refine WO.pn 4 rfl ?_
   obtain rfl := Option.some.inj h
   exact WO.met _ trivial ⟨rfl, _, (Stp.refl _ _).wk rfl⟩ fun a ha => (ha.more (ha.more ha.nil rfl) rfl)
 rintro _ w3 _ ⟨rfl, K4, S5⟩
 have h := hK1
 refine WO.pn 1 rfl ?_
 refine WO.fin ?_
 refine DN.seq ?_
 refine WC.ret ?_
 have f6 := hE.stp S5 rfl rfl
 refine DN.res (l := [.tmp 6]) Tryd.results37 (res_tmp rfl rfl) rfl ?_
 obtain rfl := Option.some.inj h
 exact ⟨K4, rfl, f6⟩

/- loop.example/g00869/spec.l32Words -/
theorem s_l32Words_ok {w : World} {κ : Col}  {r : (List ByteArray)} (h : s_l32Words  = some r) : Ret Tryd.prog 38 [] w (fun v w' => ∃ (κ' : Col) (ra0 : Option Addr) (ru0 : Nat), v = .slice ra0 r.length ru0 ∧ Ent κ w κ' w' ∧ Oc Ep.str 9 κ' w' 2 ra0 ru0 r) := by
 unfold s_l32Words at h
 refine Ret.enter Tryd.func38 rfl Tryd.ntmps38 rfl ?_
 dsimp only [envOf]
 have hE := Ent.refl κ w
 refine WC.seq ?_
 refine WC.rs [(0, 2)] rfl ?_
 refine WO.pn 1 rfl ?_
 refine WO.fin ?_
 refine DN.seq ?_
 refine WC.seq ?_
 refine WC.rs [(0, 1), (1, 2)] rfl ?_
 refine WO.bl (κ := κ) (E := Ep.str) 2 [] (parts := [(0, .const (.string (ByteArray.mk #[]))), (1, .const (.string (ByteArray.mk #[112, 114, 105, 111]))), (2, .const (.string (ByteArray.mk #[111, 119, 110, 101, 114]))), (3, .const (.string (ByteArray.mk #[97, 100, 100]))), (4, .const (.string (ByteArray.mk #[99, 117, 116])))]) (cells := [.string (ByteArray.mk #[]), .string (ByteArray.mk #[112, 114, 105, 111]), .string (ByteArray.mk #[111, 119, 110, 101, 114]), .string (ByteArray.mk #[97, 100, 100]), .string (ByteArray.mk #[99, 117, 116])]) (xs := ([(ByteArray.mk #[]), (ByteArray.mk #[112, 114, 105, 111]), (ByteArray.mk #[111, 119, 110, 101, 114]), (ByteArray.mk #[97, 100, 100]), (ByteArray.mk #[99, 117, 116])] : List ByteArray)) rfl rfl rfl rfl rfl rfl Tryd.underlying57 Trydinfo9 rfl rfl rfl rfl rfl rfl rfl rfl rfl rfl ⟨[.string (ByteArray.mk #[])], [.string (ByteArray.mk #[112, 114, 105, 111]), .string (ByteArray.mk #[111, 119, 110, 101, 114]), .string (ByteArray.mk #[97, 100, 100]), .string (ByteArray.mk #[99, 117, 116])], Zl κ w [], Zl κ w [], rfl, Zl.sp (l1 := []) (l2 := []) rfl, Zl.sr (l1 := []) (l2 := []), rfl, ⟨[.string (ByteArray.mk #[112, 114, 105, 111])], [.string (ByteArray.mk #[111, 119, 110, 101, 114]), .string (ByteArray.mk #[97, 100, 100]), .string (ByteArray.mk #[99, 117, 116])], Zl κ w [], Zl κ w [], rfl, Zl.sp (l1 := []) (l2 := []) rfl, Zl.sr (l1 := []) (l2 := []), rfl, ⟨[.string (ByteArray.mk #[111, 119, 110, 101, 114])], [.string (ByteArray.mk #[97, 100, 100]), .string (ByteArray.mk #[99, 117, 116])], Zl κ w [], Zl κ w [], rfl, Zl.sp (l1 := []) (l2 := []) rfl, Zl.sr (l1 := []) (l2 := []), rfl, ⟨[.string (ByteArray.mk #[97, 100, 100])], [.string (ByteArray.mk #[99, 117, 116])], Zl κ w [], Zl κ w [], rfl, Zl.sp (l1 := []) (l2 := []) rfl, Zl.sr (l1 := []) (l2 := []), rfl, ⟨[.string (ByteArray.mk #[99, 117, 116])], [], Zl κ w [], Zl κ w [], rfl, Zl.sp (l1 := []) (l2 := []) rfl, Zl.sr (l1 := []) (l2 := []), rfl, rfl⟩⟩⟩⟩⟩ fun a1 u1 w1 K2 S3 f4 => ⟨trivial, ?_⟩
 refine WO.pn 1 rfl ?_
 refine WO.fin ?_
 refine DN.seq ?_
 refine WC.ret ?_
 have f5 := hE.stp S3 rfl rfl
 refine DN.res (l := [.tmp 0]) Tryd.results38 (res_tmp rfl rfl) rfl ?_
 obtain rfl := Option.some.inj h
 exact ⟨K2, a1, u1, rfl, f5, f4⟩

/- loop.example/g00869/spec.l1Int -/
theorem s_l1Int_ok {w : World} {κ : Col} {p0 : Int}  {r : ByteArray} (h : s_l1Int p0 = some r) : Ret Tryd.prog 39 [.int .i64 p0] w (fun v w' => ∃ (κ' : Col), v = .string r ∧ Ent κ w κ' w') := by
 unfold s_l1Int at h
 refine Ret.enter Tryd.func39 rfl Tryd.ntmps39 rfl ?_
 dsimp only [envOf]
 have hE := Ent.refl κ w
 refine WC.seq ?_
 refine WC.rs [(0, 2)] rfl ?_
 refine WO.pn 1 rfl ?_
 refine WO.fin ?_
 refine DN.seq ?_
 refine WC.seq ?_
 refine WC.rs [(0, 2)] rfl ?_
 refine WO.pn 1 rfl ?_
 refine WO.fin ?_
 refine DN.seq ?_
 refine WC.seq ?_
 refine WC.rs [(0, 2), (1, 2), (2, 2)] rfl ?_
 refine WO.pn 3 rfl ?_
 refine WO.fin ?_
 refine DN.seq ?_
 refine WC.seq ?_
 obtain ⟨q2, hq3, hK2⟩ := Option.bind_eq_some_iff.mp h
 clear h
 refine WC.meet (fun L w' => ∃ (κ' : Col) (s3 : Int × ByteArray), L = [(3, .string s3.2), (4, .bool (decide (p0 < 0)))] ∧ Stp [] κ w κ' w' ∧ q2 = Sum.inr s3) ?_ ?_
 ·
  refine WC.block ?_
  refine WC.loop (fun k L w' => ∃ (κ' : Col) (s1 : Int × ByteArray), L = [(0, .int .i64 s1.1), (3, .string s1.2), (4, .bool (decide (p0 < 0)))] ∧ Stp [] κ w κ' w' ∧ whileM s_l1Int_b0 k s1 = some q2) ⟨_, _, ⟨κ, ((p0 : Int), ((ByteArray.mk #[]) : ByteArray)), rfl, (Stp.refl _ _).wk rfl, hq3⟩, fun a ha => (ha.more (ha.more (ha.more ha.nil rfl) rfl) rfl)⟩ ?_
  rintro k _ w7 ⟨K8, s1, rfl, S9, h⟩
  rcases k with _ | k
  ·
   cases h
  ·
   obtain ⟨o1, h, hk10⟩ := Option.bind_eq_some_iff.mp h; unfold s_l1Int_b0 at h
   refine WC.seq ?_
   refine WC.seq ?_
   refine WC.rs [(0, 2), (1, 2), (2, 2), (3, 2), (4, 2), (5, 2)] rfl ?_
   refine WO.pn 1 rfl ?_
   refine WO.k2 rfl rfl rfl rfl (rn_eqlSt rfl rfl rfl) ?_
   refine WO.pn 1 rfl ?_
   obtain ⟨p13, h, hK11⟩ := Option.bind_eq_some_iff.mp h
   refine WO.meet [(3, 2), (4, 2), (5, 2)] [] (fun L w' => L = [(0, .int .i64 s1.1), (3, .string s1.2), (4, .bool (decide (p0 < 0))), (13, .bool p13)] ∧ ∃ κ', Stp [] K8 w7 κ' w') trivial ?_ ?_
   ·
    revert h
    cases ht12 : (eqB s1.2 (ByteArray.mk #[])) with
    | true =>
     intro h; replace h := cT h
     refine WO.pn 3 rfl ?_
     obtain rfl := Option.some.inj h
     exact WO.met _ trivial ⟨rfl, _, (Stp.refl _ _).wk rfl⟩ fun a ha => (ha.more (ha.more (ha.more (ha.more ha.nil rfl) rfl) rfl) rfl)
    | false =>
     intro h; replace h := cF h
     refine WO.pn 3 rfl ?_
     obtain rfl := Option.some.inj h
     exact WO.met _ trivial ⟨rfl, _, (Stp.refl _ _).wk rfl⟩ fun a ha => (ha.more (ha.more (ha.more (ha.more ha.nil rfl) rfl) rfl) rfl)
   rintro _ w13 _ ⟨rfl, K14, S15⟩
   have h := hK11
   refine WO.fin ?_
   refine DN.seq ?_
   revert h
   cases ht16 : p13 with
   | true =>
    intro h; replace h := cT h
    refine WC.ct rfl ?_
    refine WC.skip ?_
    refine DN.seq ?_
    refine WC.block ?_
    refine WC.seq ?_
    refine WC.rs [(0, 2), (1, 2), (2, 2)] rfl ?_
    refine WO.pn 1 rfl ?_
    refine WO.k2 rfl rfl rfl rfl (rn_rem rfl rfl rfl (by decide)) ?_
    refine WO.pn 1 rfl ?_
    refine WO.fin ?_
    refine DN.seq ?_
    refine WC.seq ?_
    refine WC.seq ?_
    refine WC.rs [(0, 2), (1, 2)] rfl ?_
    refine WO.pn 2 rfl ?_
    refine WO.fin ?_
    refine DN.seq ?_
    obtain ⟨q4, h, hK17⟩ := Option.bind_eq_some_iff.mp h
    refine WC.meet (fun L w' => ∃ (κ' : Col), L = [(0, .int .i64 s1.1), (3, .string s1.2), (4, .bool (decide (p0 < 0))), (5, .int .i64 q4)] ∧ Stp [] K14 w13 κ' w') ?_ ?_
    ·
     revert h
     cases ht21 : decide ((Int.tmod s1.1 10) < 0) with
     | true =>
      intro h; replace h := cT h
      refine WC.ct rfl ?_
      refine WC.rs [(0, 2), (1, 2), (2, 2)] rfl ?_
      refine WO.pn 1 rfl ?_
      refine WO.k2 rfl rfl rfl rfl (rn_neg rfl rfl) ?_
      refine WO.pn 1 rfl ?_
      refine WO.fin ?_
      obtain rfl := Option.some.inj h
      exact DN.meet _ ⟨K14, rfl, (Stp.refl _ _).wk rfl⟩ fun a ha => (ha.more (ha.more (ha.more (ha.more ha.nil rfl) rfl) rfl) rfl)
     | false =>
      intro h; replace h := cF h
      refine WC.cf rfl ?_
      refine WC.skip ?_
      obtain rfl := Option.some.inj h
      exact DN.meet _ ⟨K14, rfl, (Stp.refl _ _).wk rfl⟩ fun a ha => (ha.more (ha.more (ha.more (ha.more ha.nil rfl) rfl) rfl) rfl)
    rintro _ w18 ⟨K19, rfl, S20⟩
    have h := hK17
    refine DN.seq ?_
    refine WC.seq ?_
    refine WC.rs [(0, 2), (1, 2), (2, 2), (3, 1), (4, 1), (5, 2), (6, 2), (7, 2)] rfl ?_
    refine WO.pn 2 rfl ?_
    refine WO.k2 rfl rfl rfl rfl (rn_conv Tryd.runUnderlying2 Tryd.runUnderlying5 rfl rfl) ?_
    refine WO.bl (κ := K19) (E := (Ep.int .u8)) 2 [] (parts := [(0, .tmp 22)]) (cells := [.int .u8 (IntKind.u8.wrap (IntKind.i64.wrap (48 + q4)))]) (xs := ([(IntKind.u8.wrap (IntKind.i64.wrap (48 + q4)))] : List Int)) rfl rfl rfl rfl rfl rfl Tryd.underlying22 Trydinfo5 rfl rfl rfl rfl rfl rfl rfl rfl rfl rfl ⟨[.int .u8 (IntKind.u8.wrap (IntKind.i64.wrap (48 + q4)))], [], Zl K19 w18 [], Zl K19 w18 [], rfl, Zl.sp (l1 := []) (l2 := []) rfl, Zl.sr (l1 := []) (l2 := []), rfl, rfl⟩ fun a23 u23 w22 K23 S24 f25 => ⟨trivial, ?_⟩
    refine WO.k1 trivial rfl rfl rfl rfl (rn_b2s Tryd.underlying22 Tryd.underlying5 Tryd.underlying9 rfl (svE f25.rdc) rfl rfl) ?_
    refine WO.pn 1 rfl ?_
    obtain ⟨x26, hx26, h⟩ := Option.bind_eq_some_iff.mp h
    refine WO.k2 rfl rfl rfl rfl (rn_addS rfl rfl rfl hx26) ?_
    refine WO.pn 1 rfl ?_
    refine WO.fin ?_
    refine DN.seq ?_
    refine WC.rs [(0, 2), (1, 2), (2, 2)] rfl ?_
    refine WO.pn 1 rfl ?_
    refine WO.k2 rfl rfl rfl rfl (rn_quo rfl rfl rfl (by decide)) ?_
    refine WO.pn 1 rfl ?_
    refine WO.fin ?_
    refine DN.block ?_
    obtain rfl := Option.some.inj h
    refine DN.round fun a ha => ?_
    exact ⟨k, _, Nat.lt_succ_self _, ⟨K23, (((IntKind.i64.wrap (Int.tdiv s1.1 10)) : Int), (x26 : ByteArray)), rfl, (S9.tr (S15.tr (S20.tr S24))).wk rfl, hk10⟩, (ha.more (ha.more (ha.more ha.nil rfl) rfl) rfl)⟩
   | false =>
    intro h; replace h := cF h
    refine WC.cf rfl ?_
    refine WC.exit ?_
    refine DN.exitThen ?_
    refine DN.exitThen ?_
    obtain rfl := Option.some.inj h
    have h := hk10
    refine DN.hit ?_
    obtain rfl := Option.some.inj h
    exact DN.meet _ ⟨K14, ((s1.1 : Int), (s1.2 : ByteArray)), rfl, (S9.tr S15).wk rfl, rfl⟩ fun a ha => (ha.more (ha.more ha.nil rfl) rfl)
 rintro _ w4 ⟨K5, s3, rfl, S6, rfl⟩
 have h := hK2
 dsimp only [aft] at h
 refine DN.seq ?_
 refine WC.seq ?_
 refine WC.seq ?_
 refine WC.rs [(0, 2)] rfl ?_
 refine WO.pn 1 rfl ?_
 refine WO.fin ?_
 refine DN.seq ?_
 obtain ⟨q5, h, hK26⟩ := Option.bind_eq_some_iff.mp h
 refine WC.meet (fun L w' => ∃ (κ' : Col), L = [(3, .string q5)] ∧ Stp [] K5 w4 κ' w') ?_ ?_
 ·
  revert h
  cases ht30 : decide (p0 < 0) with
  | true =>
   intro h; replace h := cT h
   refine WC.ct rfl ?_
   refine WC.rs [(0, 2), (1, 2), (2, 2)] rfl ?_
   refine WO.pn 1 rfl ?_
   obtain ⟨x31, hx31, h⟩ := Option.bind_eq_some_iff.mp h
   refine WO.k2 rfl rfl rfl rfl (rn_addS rfl rfl rfl hx31) ?_
   refine WO.pn 1 rfl ?_
   refine WO.fin ?_
   obtain rfl := Option.some.inj h
   exact DN.meet _ ⟨K5, rfl, (Stp.refl _ _).wk rfl⟩ fun a ha => (ha.more ha.nil rfl)
  | false =>
   intro h; replace h := cF h
   refine WC.cf rfl ?_
   refine WC.skip ?_
   obtain rfl := Option.some.inj h
   exact DN.meet _ ⟨K5, rfl, (Stp.refl _ _).wk rfl⟩ fun a ha => (ha.more ha.nil rfl)
 rintro _ w27 ⟨K28, rfl, S29⟩
 have h := hK26
 refine DN.seq ?_
 refine WC.seq ?_
 refine WC.rs [(0, 2), (1, 2)] rfl ?_
 refine WO.pn 2 rfl ?_
 refine WO.fin ?_
 refine DN.seq ?_
 refine WC.ret ?_
 have f31 := hE.stp (S6.tr S29) rfl rfl
 refine DN.res (l := [.tmp 2]) Tryd.results39 (res_tmp rfl rfl) rfl ?_
 obtain rfl := Option.some.inj h
 exact ⟨K28, rfl, f31⟩

/- loop.example/g00869/spec.EditText -/
theorem s_EditText_ok {w : World} {κ : Col} {p0 : Edit}  {r : ByteArray} (h : s_EditText p0 = some r) : Ret Tryd.prog 12 [.agg #[.int .i64 p0.Kind, .int .i64 p0.V, .int .i64 p0.N]] w (fun v w' => ∃ (κ' : Col), v = .string r ∧ Ent κ w κ' w') := by
 unfold s_EditText at h
 refine Ret.enter Tryd.func12 rfl Tryd.ntmps12 rfl ?_
 dsimp only [envOf]
 have hE := Ent.refl κ w
 refine WC.seq ?_
 refine WC.rs [(0, 1), (1, 2)] rfl ?_
 refine WO.box (κ := κ) 2 rfl rfl rfl rfl rfl rfl rfl fun b1 w1 K2 S3 f4 => ⟨trivial, ?_⟩
 refine WO.pn 1 rfl ?_
 refine WO.fin ?_
 refine DN.seq ?_
 refine WC.seq ?_
 refine WC.seq ?_
 refine WC.rs [(0, 2), (1, 1), (2, 1), (3, 2), (4, 2), (5, 2), (6, 1), (7, 1), (8, 2), (9, 2), (10, 2), (11, 2), (12, 1), (13, 1), (14, 2), (15, 2)] rfl ?_
 refine WO.k2 rfl rfl rfl rfl (rn_fieldAddr Tryd.runUnderlying25 rfl Tryd.sizeOf2 rfl rfl) ?_
 refine WO.k1 trivial rfl rfl rfl rfl (rn_ld Tryd.isAgg2 rfl rfl (hvE (f4.ld 0 rfl rfl))) ?_
 obtain ⟨x5, hx5, h⟩ := Option.bind_eq_some_iff.mp h
 refine WO.call rfl rfl rfl rfl rfl rfl Tryd.call37 (s_l1In_ok (κ := fun b => mp [] 0 (K2 b)) hx5) ?_
 rintro _ w5 ⟨k6, rfl, e7⟩
 obtain ⟨K8, S9, m10⟩ := Ent.mixed (l := []) (κ := K2) e7 3 rfl
 refine ⟨trivial, ?_⟩
 refine WO.pn 2 rfl ?_
 obtain ⟨p12, h, hK12⟩ := Option.bind_eq_some_iff.mp h
 refine WO.meet [(5, 2), (6, 1), (7, 1), (8, 2), (9, 2)] [(10, 2), (11, 2), (12, 1), (13, 1), (14, 2), (15, 2)] (fun L w' => L = [(1, .pointer (some ⟨b1, 0, none⟩)), (12, .bool p12)] ∧ ∃ κ', Stp [] K8 w5 κ' w') trivial ?_ ?_
 ·
  revert h
  cases ht13 : (!x5) with
  | true =>
   intro h; replace h := cT h
   refine WO.pn 1 rfl ?_
   refine WO.ls rfl rfl rfl rfl ?_
   refine WO.ls rfl rfl rfl rfl ?_
   refine WO.pn 2 rfl ?_
   obtain rfl := Option.some.inj h
   exact WO.met _ trivial ⟨rfl, _, (Stp.refl _ _).wk rfl⟩ fun a ha => (ha.more (ha.more ha.nil rfl) rfl)
  | false =>
   intro h; replace h := cF h
   refine WO.k2 rfl rfl rfl rfl (rn_fieldAddr Tryd.runUnderlying25 rfl Tryd.sizeOf2 rfl rfl) ?_
   have f14 := f4.stp S9 rfl rfl
   refine WO.k1 trivial rfl rfl rfl rfl (rn_ld Tryd.isAgg2 rfl rfl (hvE (f14.ld 1 rfl rfl))) ?_
   obtain ⟨x10, hx10, h⟩ := Option.bind_eq_some_iff.mp h
   refine WO.call rfl rfl rfl rfl rfl rfl Tryd.call37 (s_l1In_ok (κ := fun b => mp [] 0 (K8 b)) hx10) ?_
   rintro _ w15 ⟨k16, rfl, e17⟩
   obtain ⟨K18, S19, m20⟩ := Ent.mixed (l := []) (κ := K8) e17 5 rfl
   refine ⟨trivial, ?_⟩
   refine WO.pn 2 rfl ?_
   obtain rfl := Option.some.inj h
   exact WO.met _ trivial ⟨rfl, _, S19.wk rfl⟩ fun a ha => (ha.more (ha.more ha.nil rfl) rfl)
 rintro _ w22 _ ⟨rfl, K23, S24⟩
 have h := hK12
 refine WO.pn 1 rfl ?_
 obtain ⟨p18, h, hK25⟩ := Option.bind_eq_some_iff.mp h
 refine WO.meet [(11, 2), (12, 1), (13, 1), (14, 2), (15, 2)] [] (fun L w' => L = [(1, .pointer (some ⟨b1, 0, none⟩)), (18, .bool p18)] ∧ ∃ κ', Stp [] K23 w22 κ' w') trivial ?_ ?_
 ·
  revert h
  cases ht26 : p12 with
  | true =>
   intro h; replace h := cT h
   refine WO.pn 1 rfl ?_
   refine WO.ls rfl rfl rfl rfl ?_
   refine WO.ls rfl rfl rfl rfl ?_
   refine WO.pn 2 rfl ?_
   obtain rfl := Option.some.inj h
   exact WO.met _ trivial ⟨rfl, _, (Stp.refl _ _).wk rfl⟩ fun a ha => (ha.more (ha.more ha.nil rfl) rfl)
  | false =>
   intro h; replace h := cF h
   refine WO.k2 rfl rfl rfl rfl (rn_fieldAddr Tryd.runUnderlying25 rfl Tryd.sizeOf2 rfl rfl) ?_
   have f27 := f4.stp (S9.tr S24) rfl rfl
   refine WO.k1 trivial rfl rfl rfl rfl (rn_ld Tryd.isAgg2 rfl rfl (hvE (f27.ld 2 rfl rfl))) ?_
   obtain ⟨x16, hx16, h⟩ := Option.bind_eq_some_iff.mp h
   refine WO.call rfl rfl rfl rfl rfl rfl Tryd.call37 (s_l1In_ok (κ := fun b => mp [] 0 (K23 b)) hx16) ?_
   rintro _ w28 ⟨k29, rfl, e30⟩
   obtain ⟨K31, S32, m33⟩ := Ent.mixed (l := []) (κ := K23) e30 5 rfl
   refine ⟨trivial, ?_⟩
   refine WO.pn 2 rfl ?_
   obtain rfl := Option.some.inj h
   exact WO.met _ trivial ⟨rfl, _, S32.wk rfl⟩ fun a ha => (ha.more (ha.more ha.nil rfl) rfl)
 rintro _ w35 _ ⟨rfl, K36, S37⟩
 have h := hK25
 refine WO.fin ?_
 refine DN.seq ?_
 revert h
 cases ht38 : p18 with
 | true =>
  intro h; replace h := cT h
  refine WC.ct rfl ?_
  refine WC.seq ?_
  refine WC.rs [(0, 2)] rfl ?_
  refine WO.pn 1 rfl ?_
  refine WO.fin ?_
  refine DN.seq ?_
  refine WC.ret ?_
  refine DN.retThen ?_
  have f39 := hE.stp (S3.tr (S9.tr (S24.tr S37))) rfl rfl
  refine DN.res (l := [.tmp 2]) Tryd.results12 (res_tmp rfl rfl) rfl ?_
  obtain rfl := Option.some.inj h
  exact ⟨K36, rfl, f39⟩
 | false =>
  intro h; replace h := cF h
  refine WC.cf rfl ?_
  refine WC.skip ?_
  refine DN.seq ?_
  refine WC.seq ?_
  obtain ⟨x19, hx19, h⟩ := Option.bind_eq_some_iff.mp h
  obtain ⟨x22, hx22, h⟩ := Option.bind_eq_some_iff.mp h
  obtain ⟨x24, hx24, h⟩ := Option.bind_eq_some_iff.mp h
  obtain ⟨x27, hx27, h⟩ := Option.bind_eq_some_iff.mp h
  obtain ⟨x28, hx28, h⟩ := Option.bind_eq_some_iff.mp h
  obtain ⟨x29, hx29, h⟩ := Option.bind_eq_some_iff.mp h
  obtain ⟨x32, hx32, h⟩ := Option.bind_eq_some_iff.mp h
  obtain ⟨x33, hx33, h⟩ := Option.bind_eq_some_iff.mp h
  refine WC.meet (fun L w' => ∃ (κ' : Col), L = [(2, .string x33)] ∧ Stp [] K36 w35 κ' w') ?_ ?_
  ·
   refine WC.rxt (κ := K36) [2] none (by kernel_rfl) fun w44 S45 => ?_
   refine WA.seg (fuel := 8) [(1, 2), (6, 2), (11, 2), (2, 0), (7, 0), (12, 0), (0, 1), (3, 2)] (by kernel_rfl) (by kernel_rfl) rfl ?_
   refine WO.k2 rfl rfl rfl rfl (rn_fieldAddr Tryd.runUnderlying25 rfl Tryd.sizeOf2 rfl rfl) ?_
   refine WO.k2 rfl rfl rfl rfl (rn_fieldAddr Tryd.runUnderlying25 rfl Tryd.sizeOf2 rfl rfl) ?_
   refine WO.k2 rfl rfl rfl rfl (rn_fieldAddr Tryd.runUnderlying25 rfl Tryd.sizeOf2 rfl rfl) ?_
   have f46 := f4.stp (S9.tr (S24.tr (S37.tr S45))) rfl rfl
   refine WO.k0 rfl rfl rfl rfl (rn_ld Tryd.isAgg2 rfl rfl (hvC (f46.ld 0 rfl rfl) rfl)) ?_
   refine WO.k0 rfl rfl rfl rfl (rn_ld Tryd.isAgg2 rfl rfl (hvC (f46.ld 1 rfl rfl) rfl)) ?_
   refine WO.k0 rfl rfl rfl rfl (rn_ld Tryd.isAgg2 rfl rfl (hvC (f46.ld 2 rfl rfl) rfl)) ?_
   refine WO.call rfl rfl rfl rfl rfl rfl Tryd.call38 (s_l32Words_ok (κ := fun b => mp [] 0 (K36 b)) hx19) ?_
   rintro _ w47 ⟨k48, a19_0, u19_0, rfl, e49, f50⟩
   obtain ⟨K51, S52, m53⟩ := Ent.mixed (l := []) (κ := K36) e49 5 rfl
   refine ⟨(S52.cl rfl), ?_⟩
   have f55 := f50.mx no_str m53 rfl (rfl : 5 + 2 = 7)
   refine WO.k2 rfl rfl rfl rfl (rn_index f55.rdc hx22 Tryd.runUnderlying57 Tryd.sizeOf9 rfl rfl rfl rfl) ?_
   refine WO.wa ?_
   refine WA.fork2 (fuel := 7) 4 8 (by kernel_rfl) rfl ?_ ?_
   ·
    refine WO.k1 (S52.cl rfl) rfl rfl rfl rfl (rn_ld Tryd.isAgg9 rfl rfl (hvE (f55.rdc.gStr hx22))) ?_
    refine WO.wa ?_
    refine WA.seg (fuel := 0) [(5, 2), (8, 1), (9, 2), (10, 2), (13, 1), (14, 2), (15, 2)] (by kernel_rfl) (by kernel_rfl) rfl ?_
    refine WO.k2 rfl rfl rfl rfl (rn_addS rfl rfl rfl hx24) ?_
    refine WO.call rfl rfl rfl rfl rfl rfl Tryd.call39 (s_l1Int_ok (κ := fun b => mp [] 0 (K51 b)) hx27) ?_
    rintro _ w56 ⟨k57, rfl, e58⟩
    obtain ⟨K59, S60, m61⟩ := Ent.mixed (l := []) (κ := K51) e58 8 rfl
    refine ⟨((S52.tr S60).cl rfl), ?_⟩
    refine WO.k2 rfl rfl rfl rfl (rn_addS rfl rfl rfl hx28) ?_
    refine WO.k2 rfl rfl rfl rfl (rn_addS rfl rfl rfl hx29) ?_
    refine WO.call rfl rfl rfl rfl rfl rfl Tryd.call39 (s_l1Int_ok (κ := fun b => mp [] 0 (K59 b)) hx32) ?_
    rintro _ w63 ⟨k64, rfl, e65⟩
    obtain ⟨K66, S67, m68⟩ := Ent.mixed (l := []) (κ := K59) e65 10 rfl
    refine ⟨((S52.tr (S60.tr S67)).cl rfl), ?_⟩
    refine WO.k2 rfl rfl rfl rfl (rn_addS rfl rfl rfl hx33) ?_
    refine WO.pn 1 rfl ?_
    refine WO.wa ?_
    refine WA.last [] (by kernel_rfl) (by kernel_rfl) rfl ?_
    refine WO.fin ?_
    exact DN.meet _ ⟨K66, rfl, (S45.tr (S52.tr (S60.tr S67))).wk rfl⟩ fun a ha => (ha.more ha.nil rfl)
   ·
    refine WO.call rfl rfl rfl rfl rfl rfl Tryd.call39 (s_l1Int_ok (κ := fun b => mp [] 0 (K51 b)) hx27) ?_
    rintro _ w70 ⟨k71, rfl, e72⟩
    obtain ⟨K73, S74, m75⟩ := Ent.mixed (l := []) (κ := K51) e72 8 rfl
    refine ⟨((S52.tr S74).cl rfl), ?_⟩
    refine WO.wa ?_
    refine WA.fork2 (fuel := 6) 4 13 (by kernel_rfl) rfl ?_ ?_
    ·
     have f77 := f55.stp S74 rfl rfl
     refine WO.k1 ((S52.tr S74).cl rfl) rfl rfl rfl rfl (rn_ld Tryd.isAgg9 rfl rfl (hvE (f77.rdc.gStr hx22))) ?_
     refine WO.wa ?_
     refine WA.seg (fuel := 0) [(5, 2), (9, 2), (10, 2), (13, 1), (14, 2), (15, 2)] (by kernel_rfl) (by kernel_rfl) rfl ?_
     refine WO.k2 rfl rfl rfl rfl (rn_addS rfl rfl rfl hx24) ?_
     refine WO.k2 rfl rfl rfl rfl (rn_addS rfl rfl rfl hx28) ?_
     refine WO.k2 rfl rfl rfl rfl (rn_addS rfl rfl rfl hx29) ?_
     refine WO.call rfl rfl rfl rfl rfl rfl Tryd.call39 (s_l1Int_ok (κ := fun b => mp [] 0 (K73 b)) hx32) ?_
     rintro _ w78 ⟨k79, rfl, e80⟩
     obtain ⟨K81, S82, m83⟩ := Ent.mixed (l := []) (κ := K73) e80 10 rfl
     refine ⟨((S52.tr (S74.tr S82)).cl rfl), ?_⟩
     refine WO.k2 rfl rfl rfl rfl (rn_addS rfl rfl rfl hx33) ?_
     refine WO.pn 1 rfl ?_
     refine WO.wa ?_
     refine WA.last [] (by kernel_rfl) (by kernel_rfl) rfl ?_
     refine WO.fin ?_
     exact DN.meet _ ⟨K81, rfl, (S45.tr (S52.tr (S74.tr S82))).wk rfl⟩ fun a ha => (ha.more ha.nil rfl)
    ·
     refine WO.call rfl rfl rfl rfl rfl rfl Tryd.call39 (s_l1Int_ok (κ := fun b => mp [] 0 (K73 b)) hx32) ?_
     rintro _ w85 ⟨k86, rfl, e87⟩
     obtain ⟨K88, S89, m90⟩ := Ent.mixed (l := []) (κ := K73) e87 10 rfl
     refine ⟨((S52.tr (S74.tr S89)).cl rfl), ?_⟩
     refine WO.wa ?_
     refine WA.seg (fuel := 0) [(4, 1), (5, 2), (9, 2), (10, 2), (14, 2), (15, 2)] (by kernel_rfl) (by kernel_rfl) rfl ?_
     have f92 := f55.stp (S74.tr S89) rfl rfl
     refine WO.k1 ((S52.tr (S74.tr S89)).cl rfl) rfl rfl rfl rfl (rn_ld Tryd.isAgg9 rfl rfl (hvE (f92.rdc.gStr hx22))) ?_
     refine WO.k2 rfl rfl rfl rfl (rn_addS rfl rfl rfl hx24) ?_
     refine WO.k2 rfl rfl rfl rfl (rn_addS rfl rfl rfl hx28) ?_
     refine WO.k2 rfl rfl rfl rfl (rn_addS rfl rfl rfl hx29) ?_
     refine WO.k2 rfl rfl rfl rfl (rn_addS rfl rfl rfl hx33) ?_
     refine WO.pn 1 rfl ?_
     refine WO.wa ?_
     refine WA.last [] (by kernel_rfl) (by kernel_rfl) rfl ?_
     refine WO.fin ?_
     exact DN.meet _ ⟨K88, rfl, (S45.tr (S52.tr (S74.tr S89))).wk rfl⟩ fun a ha => (ha.more ha.nil rfl)
  rintro _ w40 ⟨K41, rfl, S42⟩
  refine DN.seq ?_
  refine WC.ret ?_
  have f93 := hE.stp (S3.tr (S9.tr (S24.tr (S37.tr S42)))) rfl rfl
  refine DN.res (l := [.tmp 2]) Tryd.results12 (res_tmp rfl rfl) rfl ?_
  obtain rfl := Option.some.inj h
  exact ⟨K41, rfl, f93⟩

/- strconv.FormatInt -/
theorem strconv_FormatInt_ok {w : World} {κ : Col} {p0 p1 : Int} (gGT : Tb Tryd.prog "internal/strconv.uint64pow10" .u64 Lib.pow10Tab κ w) {r : ByteArray} (h : strconv_FormatInt p0 p1 = some r) : Ret Tryd.prog 62 [.int .i64 p0, .int .i64 p1] w (fun v w' => ∃ (κ' : Col), v = .string r ∧ Ent κ w κ' w') := fmt_ok Tryd.strconv_FormatInt_10 gGT h


/- loop.example/g00869/impl.decimal -/
theorem i_decimal_ok {w : World} {κ : Col} {p0 : Int} (gGT : Tb Tryd.prog "internal/strconv.uint64pow10" .u64 Lib.pow10Tab κ w) {r : ByteArray} (h : i_decimal p0 = some r) : Ret Tryd.prog 36 [.int .i64 p0] w (fun v w' => ∃ (κ' : Col), v = .string r ∧ Ent κ w κ' w') := by
 unfold i_decimal at h
 refine Ret.enter Tryd.func36 rfl Tryd.ntmps36 rfl ?_
 dsimp only [envOf]
 have hE := Ent.refl κ w
 refine WC.seq ?_
 refine WC.rs [(0, 2)] rfl ?_
 refine WO.pn 1 rfl ?_
 refine WO.fin ?_
 refine DN.seq ?_
 refine WC.seq ?_
 refine WC.rs [(0, 2), (1, 1), (2, 2)] rfl ?_
 refine WO.pn 1 rfl ?_
 obtain ⟨x4, hx4, h⟩ := Option.bind_eq_some_iff.mp h
 refine WO.call rfl rfl rfl rfl rfl rfl Tryd.call62 (strconv_FormatInt_ok (κ := fun b => mp [] 0 (κ b)) (gGT.map (mp [] 0) rfl rfl) hx4) ?_
 rintro _ w1 ⟨k2, rfl, e3⟩
 obtain ⟨K4, S5, m6⟩ := Ent.mixed (l := []) (κ := κ) e3 2 rfl
 refine ⟨trivial, ?_⟩
 refine WO.pn 1 rfl ?_
 refine WO.fin ?_
 refine DN.seq ?_
 refine WC.ret ?_
 have f8 := hE.stp S5 rfl rfl
 refine DN.res (l := [.tmp 2]) Tryd.results36 (res_tmp rfl rfl) rfl ?_
 obtain rfl := Option.some.inj h
 exact ⟨K4, rfl, f8⟩

/- loop.example/g00869/impl.EditText -/
theorem i_EditText_ok {w : World} {κ : Col} {p0 : Edit} (gGE0 : Rd Rp.str κ w 0 (some ⟨0, 0, none⟩) 4 namesE0) (gGT : Tb Tryd.prog "internal/strconv.uint64pow10" .u64 Lib.pow10Tab κ w) {r : ByteArray} (h : i_EditText p0 = some r) : Ret Tryd.prog 11 [.agg #[.int .i64 p0.Kind, .int .i64 p0.V, .int .i64 p0.N]] w (fun v w' => ∃ (κ' : Col), v = .string r ∧ Ent κ w κ' w') := by
 unfold i_EditText at h
 refine Ret.enter Tryd.func11 rfl Tryd.ntmps11 rfl ?_
 dsimp only [envOf]
 have hE := Ent.refl κ w
 refine WC.seq ?_
 refine WC.rs [(0, 1), (1, 2)] rfl ?_
 refine WO.box (κ := κ) 2 rfl rfl rfl rfl rfl rfl rfl fun b1 w1 K2 S3 f4 => ⟨trivial, ?_⟩
 refine WO.pn 1 rfl ?_
 refine WO.fin ?_
 refine DN.seq ?_
 refine WC.seq ?_
 refine WC.seq ?_
 refine WC.rs [(0, 2), (1, 1), (2, 2), (3, 2), (4, 2), (5, 1), (6, 2), (7, 2), (8, 2), (9, 2), (10, 1), (11, 2), (12, 2), (13, 2), (14, 2), (15, 1), (16, 2), (17, 2), (18, 2), (19, 2), (20, 1), (21, 2), (22, 2), (23, 2), (24, 2), (25, 1), (26, 2), (27, 2)] rfl ?_
 refine WO.k2 rfl rfl rfl rfl (rn_fieldAddr Tryd.runUnderlying25 rfl Tryd.sizeOf2 rfl rfl) ?_
 refine WO.k1 trivial rfl rfl rfl rfl (rn_ld Tryd.isAgg2 rfl rfl (hvE (f4.ld 0 rfl rfl))) ?_
 refine WO.pn 2 rfl ?_
 obtain ⟨p10, h, hK5⟩ := Option.bind_eq_some_iff.mp h
 refine WO.meet [(4, 2), (5, 1), (6, 2), (7, 2)] [(8, 2), (9, 2), (10, 1), (11, 2), (12, 2), (13, 2), (14, 2), (15, 1), (16, 2), (17, 2), (18, 2), (19, 2), (20, 1), (21, 2), (22, 2), (23, 2), (24, 2), (25, 1), (26, 2), (27, 2)] (fun L w' => L = [(1, .pointer (some ⟨b1, 0, none⟩)), (10, .bool p10)] ∧ ∃ κ', Stp [] K2 w1 κ' w') trivial ?_ ?_
 ·
  revert h
  cases ht6 : decide (p0.Kind < 1) with
  | true =>
   intro h; replace h := cT h
   refine WO.pn 1 rfl ?_
   refine WO.ls rfl rfl rfl rfl ?_
   refine WO.pn 2 rfl ?_
   obtain rfl := Option.some.inj h
   exact WO.met _ trivial ⟨rfl, _, (Stp.refl _ _).wk rfl⟩ fun a ha => (ha.more (ha.more ha.nil rfl) rfl)
  | false =>
   intro h; replace h := cF h
   refine WO.k2 rfl rfl rfl rfl (rn_fieldAddr Tryd.runUnderlying25 rfl Tryd.sizeOf2 rfl rfl) ?_
   refine WO.k1 trivial rfl rfl rfl rfl (rn_ld Tryd.isAgg2 rfl rfl (hvE (f4.ld 0 rfl rfl))) ?_
   refine WO.pn 2 rfl ?_
   obtain rfl := Option.some.inj h
   exact WO.met _ trivial ⟨rfl, _, (Stp.refl _ _).wk rfl⟩ fun a ha => (ha.more (ha.more ha.nil rfl) rfl)
 rintro _ w7 _ ⟨rfl, K8, S9⟩
 have h := hK5
 refine WO.pn 1 rfl ?_
 obtain ⟨p15, h, hK10⟩ := Option.bind_eq_some_iff.mp h
 refine WO.meet [(9, 2), (10, 1), (11, 2), (12, 2)] [(13, 2), (14, 2), (15, 1), (16, 2), (17, 2), (18, 2), (19, 2), (20, 1), (21, 2), (22, 2), (23, 2), (24, 2), (25, 1), (26, 2), (27, 2)] (fun L w' => L = [(1, .pointer (some ⟨b1, 0, none⟩)), (15, .bool p15)] ∧ ∃ κ', Stp [] K8 w7 κ' w') trivial ?_ ?_
 ·
  revert h
  cases ht11 : p10 with
  | true =>
   intro h; replace h := cT h
   refine WO.pn 1 rfl ?_
   refine WO.ls rfl rfl rfl rfl ?_
   refine WO.pn 2 rfl ?_
   obtain rfl := Option.some.inj h
   exact WO.met _ trivial ⟨rfl, _, (Stp.refl _ _).wk rfl⟩ fun a ha => (ha.more (ha.more ha.nil rfl) rfl)
  | false =>
   intro h; replace h := cF h
   refine WO.k2 rfl rfl rfl rfl (rn_fieldAddr Tryd.runUnderlying25 rfl Tryd.sizeOf2 rfl rfl) ?_
   have f12 := f4.stp S9 rfl rfl
   refine WO.k1 trivial rfl rfl rfl rfl (rn_ld Tryd.isAgg2 rfl rfl (hvE (f12.ld 1 rfl rfl))) ?_
   refine WO.pn 2 rfl ?_
   obtain rfl := Option.some.inj h
   exact WO.met _ trivial ⟨rfl, _, (Stp.refl _ _).wk rfl⟩ fun a ha => (ha.more (ha.more ha.nil rfl) rfl)
 rintro _ w13 _ ⟨rfl, K14, S15⟩
 have h := hK10
 refine WO.pn 1 rfl ?_
 obtain ⟨p20, h, hK16⟩ := Option.bind_eq_some_iff.mp h
 refine WO.meet [(14, 2), (15, 1), (16, 2), (17, 2)] [(18, 2), (19, 2), (20, 1), (21, 2), (22, 2), (23, 2), (24, 2), (25, 1), (26, 2), (27, 2)] (fun L w' => L = [(1, .pointer (some ⟨b1, 0, none⟩)), (20, .bool p20)] ∧ ∃ κ', Stp [] K14 w13 κ' w') trivial ?_ ?_
 ·
  revert h
  cases ht17 : p15 with
  | true =>
   intro h; replace h := cT h
   refine WO.pn 1 rfl ?_
   refine WO.ls rfl rfl rfl rfl ?_
   refine WO.pn 2 rfl ?_
   obtain rfl := Option.some.inj h
   exact WO.met _ trivial ⟨rfl, _, (Stp.refl _ _).wk rfl⟩ fun a ha => (ha.more (ha.more ha.nil rfl) rfl)
  | false =>
   intro h; replace h := cF h
   refine WO.k2 rfl rfl rfl rfl (rn_fieldAddr Tryd.runUnderlying25 rfl Tryd.sizeOf2 rfl rfl) ?_
   have f18 := f4.stp (S9.tr S15) rfl rfl
   refine WO.k1 trivial rfl rfl rfl rfl (rn_ld Tryd.isAgg2 rfl rfl (hvE (f18.ld 1 rfl rfl))) ?_
   refine WO.pn 2 rfl ?_
   obtain rfl := Option.some.inj h
   exact WO.met _ trivial ⟨rfl, _, (Stp.refl _ _).wk rfl⟩ fun a ha => (ha.more (ha.more ha.nil rfl) rfl)
 rintro _ w19 _ ⟨rfl, K20, S21⟩
 have h := hK16
 refine WO.pn 1 rfl ?_
 obtain ⟨p25, h, hK22⟩ := Option.bind_eq_some_iff.mp h
 refine WO.meet [(19, 2), (20, 1), (21, 2), (22, 2)] [(23, 2), (24, 2), (25, 1), (26, 2), (27, 2)] (fun L w' => L = [(1, .pointer (some ⟨b1, 0, none⟩)), (25, .bool p25)] ∧ ∃ κ', Stp [] K20 w19 κ' w') trivial ?_ ?_
 ·
  revert h
  cases ht23 : p20 with
  | true =>
   intro h; replace h := cT h
   refine WO.pn 1 rfl ?_
   refine WO.ls rfl rfl rfl rfl ?_
   refine WO.pn 2 rfl ?_
   obtain rfl := Option.some.inj h
   exact WO.met _ trivial ⟨rfl, _, (Stp.refl _ _).wk rfl⟩ fun a ha => (ha.more (ha.more ha.nil rfl) rfl)
  | false =>
   intro h; replace h := cF h
   refine WO.k2 rfl rfl rfl rfl (rn_fieldAddr Tryd.runUnderlying25 rfl Tryd.sizeOf2 rfl rfl) ?_
   have f24 := f4.stp (S9.tr (S15.tr S21)) rfl rfl
   refine WO.k1 trivial rfl rfl rfl rfl (rn_ld Tryd.isAgg2 rfl rfl (hvE (f24.ld 2 rfl rfl))) ?_
   refine WO.pn 2 rfl ?_
   obtain rfl := Option.some.inj h
   exact WO.met _ trivial ⟨rfl, _, (Stp.refl _ _).wk rfl⟩ fun a ha => (ha.more (ha.more ha.nil rfl) rfl)
 rintro _ w25 _ ⟨rfl, K26, S27⟩
 have h := hK22
 refine WO.pn 1 rfl ?_
 obtain ⟨p30, h, hK28⟩ := Option.bind_eq_some_iff.mp h
 refine WO.meet [(24, 2), (25, 1), (26, 2), (27, 2)] [] (fun L w' => L = [(1, .pointer (some ⟨b1, 0, none⟩)), (30, .bool p30)] ∧ ∃ κ', Stp [] K26 w25 κ' w') trivial ?_ ?_
 ·
  revert h
  cases ht29 : p25 with
  | true =>
   intro h; replace h := cT h
   refine WO.pn 1 rfl ?_
   refine WO.ls rfl rfl rfl rfl ?_
   refine WO.pn 2 rfl ?_
   obtain rfl := Option.some.inj h
   exact WO.met _ trivial ⟨rfl, _, (Stp.refl _ _).wk rfl⟩ fun a ha => (ha.more (ha.more ha.nil rfl) rfl)
  | false =>
   intro h; replace h := cF h
   refine WO.k2 rfl rfl rfl rfl (rn_fieldAddr Tryd.runUnderlying25 rfl Tryd.sizeOf2 rfl rfl) ?_
   have f30 := f4.stp (S9.tr (S15.tr (S21.tr S27))) rfl rfl
   refine WO.k1 trivial rfl rfl rfl rfl (rn_ld Tryd.isAgg2 rfl rfl (hvE (f30.ld 2 rfl rfl))) ?_
   refine WO.pn 2 rfl ?_
   obtain rfl := Option.some.inj h
   exact WO.met _ trivial ⟨rfl, _, (Stp.refl _ _).wk rfl⟩ fun a ha => (ha.more (ha.more ha.nil rfl) rfl)
 rintro _ w31 _ ⟨rfl, K32, S33⟩
 have h := hK28
 refine WO.fin ?_
 refine DN.seq ?_
 revert h
 cases ht34 : p30 with
 | true =>
  intro h; replace h := cT h
  refine WC.ct rfl ?_
  refine WC.seq ?_
  refine WC.rs [(0, 2)] rfl ?_
  refine WO.pn 1 rfl ?_
  refine WO.fin ?_
  refine DN.seq ?_
  refine WC.ret ?_
  refine DN.retThen ?_
  have f35 := hE.stp (S3.tr (S9.tr (S15.tr (S21.tr (S27.tr S33))))) rfl rfl
  refine DN.res (l := [.tmp 2]) Tryd.results11 (res_tmp rfl rfl) rfl ?_
  obtain rfl := Option.some.inj h
  exact ⟨K32, rfl, f35⟩
 | false =>
  intro h; replace h := cF h
  refine WC.cf rfl ?_
  refine WC.skip ?_
  refine DN.seq ?_
  refine WC.seq ?_
  refine WC.rx (κ := K32) [0, 2] none [(0, 2), (6, 2), (11, 2), (1, 0), (2, 2), (3, 2), (4, 0), (5, 2), (7, 0), (12, 0), (8, 1), (9, 2), (10, 2), (13, 1), (14, 2), (15, 2)] [] (by kernel_rfl) (by kernel_rfl) fun w37 S36 => ?_
  refine WO.k2 rfl rfl rfl rfl (rn_fieldAddr Tryd.runUnderlying25 rfl Tryd.sizeOf2 rfl rfl) ?_
  refine WO.k2 rfl rfl rfl rfl (rn_fieldAddr Tryd.runUnderlying25 rfl Tryd.sizeOf2 rfl rfl) ?_
  refine WO.k2 rfl rfl rfl rfl (rn_fieldAddr Tryd.runUnderlying25 rfl Tryd.sizeOf2 rfl rfl) ?_
  have f38 := f4.stp (S9.tr (S15.tr (S21.tr (S27.tr (S33.tr S36))))) rfl rfl
  refine WO.k0 rfl rfl rfl rfl (rn_ld Tryd.isAgg2 rfl rfl (hvC (f38.ld 0 rfl rfl) rfl)) ?_
  refine WO.pn 1 rfl ?_
  obtain ⟨x34, hx34, h⟩ := Option.bind_eq_some_iff.mp h
  refine WO.k2 rfl rfl rfl rfl (rn_indexG hx34 rfl Tryd.runUnderlying71 Tryd.sizeOf9 rfl rfl rfl) ?_
  have f39 := gGE0.stp (S3.tr (S9.tr (S15.tr (S21.tr (S27.tr (S33.tr S36)))))) rfl rfl
  refine WO.k0 rfl rfl rfl rfl (rn_ld Tryd.isAgg9 rfl rfl (hvC (f39.gStr hx34) rfl)) ?_
  obtain ⟨x36, hx36, h⟩ := Option.bind_eq_some_iff.mp h
  refine WO.k2 rfl rfl rfl rfl (rn_addS rfl rfl rfl hx36) ?_
  refine WO.k0 rfl rfl rfl rfl (rn_ld Tryd.isAgg2 rfl rfl (hvC (f38.ld 1 rfl rfl) rfl)) ?_
  refine WO.k0 rfl rfl rfl rfl (rn_ld Tryd.isAgg2 rfl rfl (hvC (f38.ld 2 rfl rfl) rfl)) ?_
  obtain ⟨x39, hx39, h⟩ := Option.bind_eq_some_iff.mp h
  have f40 := gGT.stp (S3.tr (S9.tr (S15.tr (S21.tr (S27.tr (S33.tr S36)))))) rfl rfl
  refine WO.call rfl rfl rfl rfl rfl rfl Tryd.call36 (i_decimal_ok (κ := fun b => mp [] 0 (K32 b)) (f40.map (mp [] 0) rfl rfl) hx39) ?_
  rintro _ w41 ⟨k42, rfl, e43⟩
  obtain ⟨K44, S45, m46⟩ := Ent.mixed (l := []) (κ := K32) e43 3 rfl
  refine ⟨(S45.cl rfl), ?_⟩
  obtain ⟨x40, hx40, h⟩ := Option.bind_eq_some_iff.mp h
  refine WO.k2 rfl rfl rfl rfl (rn_addS rfl rfl rfl hx40) ?_
  obtain ⟨x41, hx41, h⟩ := Option.bind_eq_some_iff.mp h
  refine WO.k2 rfl rfl rfl rfl (rn_addS rfl rfl rfl hx41) ?_
  obtain ⟨x44, hx44, h⟩ := Option.bind_eq_some_iff.mp h
  have f48 := f40.stp S45 rfl rfl
  refine WO.call rfl rfl rfl rfl rfl rfl Tryd.call36 (i_decimal_ok (κ := fun b => mp [] 0 (K44 b)) (f48.map (mp [] 0) rfl rfl) hx44) ?_
  rintro _ w49 ⟨k50, rfl, e51⟩
  obtain ⟨K52, S53, m54⟩ := Ent.mixed (l := []) (κ := K44) e51 5 rfl
  refine ⟨((S45.tr S53).cl rfl), ?_⟩
  obtain ⟨x45, hx45, h⟩ := Option.bind_eq_some_iff.mp h
  refine WO.k2 rfl rfl rfl rfl (rn_addS rfl rfl rfl hx45) ?_
  refine WO.pn 1 rfl ?_
  refine WO.nx ?_
  refine WO.fin ?_
  refine DN.seq ?_
  refine WC.ret ?_
  have f56 := hE.stp (S3.tr (S9.tr (S15.tr (S21.tr (S27.tr (S33.tr (S36.tr (S45.tr S53)))))))) rfl rfl
  refine DN.res (l := [.tmp 2]) Tryd.results11 (res_tmp rfl rfl) rfl ?_
  obtain rfl := Option.some.inj h
  exact ⟨K52, rfl, f56⟩

/- loop.example/g00869/laws.FnExactEditText -/
theorem l_FnExactEditText_ok {w : World} {κ : Col} {p0 : Edit} (gGE0 : Rd Rp.str κ w 0 (some ⟨0, 0, none⟩) 4 namesE0) (gGT : Tb Tryd.prog "internal/strconv.uint64pow10" .u64 Lib.pow10Tab κ w) {r : Bool} (h : l_FnExactEditText p0 = some r) : Ret Tryd.prog 4 [.agg #[.int .i64 p0.Kind, .int .i64 p0.V, .int .i64 p0.N]] w (fun v w' => ∃ (κ' : Col), v = .bool r ∧ Ent κ w κ' w') := by
 unfold l_FnExactEditText at h
 refine Ret.enter Tryd.func4 rfl Tryd.ntmps4 rfl ?_
 dsimp only [envOf]
 have hE := Ent.refl κ w
 refine WC.seq ?_
 refine WC.rs [(0, 1), (1, 2)] rfl ?_
 refine WO.box (κ := κ) 2 rfl rfl rfl rfl rfl rfl rfl fun b1 w1 K2 S3 f4 => ⟨trivial, ?_⟩
 refine WO.pn 1 rfl ?_
 refine WO.fin ?_
 refine DN.seq ?_
 refine WC.seq ?_
 refine WC.rs [(0, 1), (1, 1), (2, 1), (3, 2)] rfl ?_
 refine WO.k1 trivial rfl rfl rfl rfl (rn_la (cs := [.int .i64 p0.Kind, .int .i64 p0.V, .int .i64 p0.N]) Tryd.isAgg30 Tryd.sizeOf30 rfl rfl rfl (haE f4.cells)) ?_
 obtain ⟨x6, hx6, h⟩ := Option.bind_eq_some_iff.mp h
 refine WO.call rfl rfl rfl rfl rfl rfl Tryd.call14 (l_toEdit_ok (κ := fun b => mp [] 0 (K2 b)) (p0 := p0) hx6) ?_
 rintro _ w5 ⟨k6, rfl, e7⟩
 obtain ⟨K8, S9, m10⟩ := Ent.mixed (l := []) (κ := K2) e7 3 rfl
 refine ⟨trivial, ?_⟩
 obtain ⟨x7, hx7, h⟩ := Option.bind_eq_some_iff.mp h
 refine WO.call rfl rfl rfl rfl rfl rfl Tryd.call12 (s_EditText_ok (κ := fun b => mp [] 0 (K8 b)) (p0 := x6) hx7) ?_
 rintro _ w12 ⟨k13, rfl, e14⟩
 obtain ⟨K15, S16, m17⟩ := Ent.mixed (l := []) (κ := K8) e14 5 rfl
 refine ⟨trivial, ?_⟩
 refine WO.pn 1 rfl ?_
 refine WO.fin ?_
 refine DN.seq ?_
 refine WC.seq ?_
 refine WC.rs [(0, 1), (1, 1), (2, 1), (3, 2)] rfl ?_
 have f19 := f4.stp (S9.tr S16) rfl rfl
 refine WO.k1 trivial rfl rfl rfl rfl (rn_la (cs := [.int .i64 p0.Kind, .int .i64 p0.V, .int .i64 p0.N]) Tryd.isAgg30 Tryd.sizeOf30 rfl rfl rfl (haE f19.cells)) ?_
 obtain ⟨x9, hx9, h⟩ := Option.bind_eq_some_iff.mp h
 refine WO.call rfl rfl rfl rfl rfl rfl Tryd.call14 (l_toEdit_ok (κ := fun b => mp [] 0 (K15 b)) (p0 := p0) hx9) ?_
 rintro _ w20 ⟨k21, rfl, e22⟩
 obtain ⟨K23, S24, m25⟩ := Ent.mixed (l := []) (κ := K15) e22 7 rfl
 refine ⟨trivial, ?_⟩
 obtain ⟨x10, hx10, h⟩ := Option.bind_eq_some_iff.mp h
 have f27 := gGE0.stp (S3.tr (S9.tr (S16.tr S24))) rfl rfl
 have f28 := gGT.stp (S3.tr (S9.tr (S16.tr S24))) rfl rfl
 refine WO.call rfl rfl rfl rfl rfl rfl Tryd.call11 (i_EditText_ok (κ := fun b => mp [] 0 (K23 b)) (p0 := x9) (f27.map (mp [] 0) rfl rfl) (f28.map (mp [] 0) rfl rfl) hx10) ?_
 rintro _ w29 ⟨k30, rfl, e31⟩
 obtain ⟨K32, S33, m34⟩ := Ent.mixed (l := []) (κ := K23) e31 9 rfl
 refine ⟨trivial, ?_⟩
 refine WO.pn 1 rfl ?_
 refine WO.fin ?_
 refine DN.seq ?_
 refine WC.seq ?_
 refine WC.seq ?_
 refine WC.rs [(0, 2), (1, 2), (2, 2)] rfl ?_
 refine WO.pn 2 rfl ?_
 refine WO.k2 rfl rfl rfl rfl (rn_neqSt rfl rfl rfl) ?_
 refine WO.fin ?_
 refine DN.seq ?_
 revert h
 cases ht36 : (!(eqB x10 x7)) with
 | true =>
  intro h; replace h := cT h
  refine WC.ct rfl ?_
  refine WC.seq ?_
  refine WC.rs [(0, 2)] rfl ?_
  refine WO.pn 1 rfl ?_
  refine WO.fin ?_
  refine DN.seq ?_
  refine WC.ret ?_
  refine DN.retThen ?_
  have f37 := hE.stp (S3.tr (S9.tr (S16.tr (S24.tr S33)))) rfl rfl
  refine DN.res (l := [.tmp 2]) Tryd.results4 (res_tmp rfl rfl) rfl ?_
  obtain rfl := Option.some.inj h
  exact ⟨K32, rfl, f37⟩
 | false =>
  intro h; replace h := cF h
  refine WC.cf rfl ?_
  refine WC.skip ?_
  refine DN.seq ?_
  refine WC.seq ?_
  refine WC.rs [(0, 2)] rfl ?_
  refine WO.pn 1 rfl ?_
  refine WO.fin ?_
  refine DN.seq ?_
  refine WC.ret ?_
  have f38 := hE.stp (S3.tr (S9.tr (S16.tr (S24.tr S33)))) rfl rfl
  refine DN.res (l := [.tmp 2]) Tryd.results4 (res_tmp rfl rfl) rfl ?_
  obtain rfl := Option.some.inj h
  exact ⟨K32, rfl, f38⟩

end Go.Proofs.YtnpmbkaoeihdmaaDoor
