/- The walks, part 3. By program. -/
import Derived.Test.YtfmkhnlnomkcfaaFnsC122
set_option linter.unusedVariables false
set_option linter.unusedSimpArgs false
namespace Go.Proofs.Ytfmkhnlnomkcfaa
open Go Go.Wk Go.Proofs
set_option maxRecDepth 100000
set_option maxHeartbeats 1000000

/- loop.example/g00869/impl.LeastOf -/
theorem i_LeastOf_ok {w : World} {κ : Col} {p0 : Sig} {a1_0 : Option Addr} {u1_0 : Nat} {a1_1 : Option Addr} {u1_1 : Nat} {p1 : Machine} (g1_0 : Rd (Rp.sl (Rp.int .i64)) κ w 0 a1_0 u1_0 p1.Next) (g1_1 : Rd (Rp.sl (Rp.int .i64)) κ w 0 a1_1 u1_1 p1.Out) {r : Machine} (h : i_LeastOf p0 p1 = some r) : Ret Try.prog 75 [.agg #[.int .i64 p0.In, .int .i64 p0.Out], .agg #[.slice a1_0 p1.Next.length u1_0, .slice a1_1 p1.Out.length u1_1]] w (fun v w' => ∃ (κ' : Col) (ra0 : Option Addr) (ru0 : Nat) (ra1 : Option Addr) (ru1 : Nat), v = .agg #[.slice ra0 r.Next.length ru0, .slice ra1 r.Out.length ru1] ∧ Ent κ w κ' w' ∧ Oc (Ep.own (Ep.int .i64) 2) 22 κ' w' 2 ra0 ru0 r.Next ∧ Oc (Ep.own (Ep.int .i64) 2) 22 κ' w' 3 ra1 ru1 r.Out) := by
 unfold i_LeastOf at h
 refine Ret.enter Try.func75 rfl Try.ntmps75 rfl ?_
 dsimp only [envOf]
 have hE := Ent.refl κ w
 refine WC.seq ?_
 refine WC.rs [(0, 1), (1, 1), (2, 1)] rfl ?_
 refine WO.box (κ := κ) 2 rfl rfl rfl rfl rfl rfl rfl fun b2 w1 K2 S3 f4 => ⟨trivial, ?_⟩
 refine WO.box (κ := K2) 3 rfl rfl rfl rfl rfl rfl rfl fun b3 w5 K6 S7 f8 => ⟨trivial, ?_⟩
 refine WO.alloc (κ := K6) 4 rfl rfl rfl rfl rfl Try.zeroValue50 rfl fun b4 w9 K10 S11 f12 => ⟨trivial, ?_⟩
 refine WO.fin ?_
 refine DN.seq ?_
 refine WC.seq ?_
 refine WC.seq ?_
 refine WC.rs [(0, 1), (1, 1), (2, 2), (3, 2), (4, 1), (5, 1), (6, 1), (7, 2), (8, 2)] rfl ?_
 have f13 := f4.stp (S7.tr S11) rfl rfl
 refine WO.k1 trivial rfl rfl rfl rfl (rn_la (cs := [.int .i64 p0.In, .int .i64 p0.Out]) Try.isAgg53 Try.sizeOf53 rfl rfl rfl (haE f13.cells)) ?_
 obtain ⟨x14, hx14, h⟩ := Option.bind_eq_some_iff.mp h
 refine WO.call rfl rfl rfl rfl rfl rfl Try.call104 (i_isSig_ok (κ := fun b => mp [] 0 (K10 b)) (p0 := p0) hx14) ?_
 rintro _ w14 ⟨k15, rfl, e16⟩
 obtain ⟨K17, S18, m19⟩ := Ent.mixed (l := []) (κ := K10) e16 5 rfl
 refine ⟨trivial, ?_⟩
 refine WO.pn 2 rfl ?_
 obtain ⟨p21, h, hK21⟩ := Option.bind_eq_some_iff.mp h
 refine WO.meet [(4, 1), (5, 1), (6, 1), (7, 2), (8, 2)] [] (fun L w' => L = [(3, .pointer (some ⟨b3, 0, none⟩)), (4, .pointer (some ⟨b4, 0, none⟩)), (21, .bool p21)] ∧ ∃ κ', Stp [] K17 w14 κ' w') trivial ?_ ?_
 ·
  revert h
  cases ht22 : (!x14) with
  | true =>
   intro h; replace h := cT h
   refine WO.ls rfl rfl rfl rfl ?_
   refine WO.ls rfl rfl rfl rfl ?_
   refine WO.ls rfl rfl rfl rfl ?_
   refine WO.pn 2 rfl ?_
   obtain rfl := Option.some.inj h
   exact WO.met _ trivial ⟨rfl, _, (Stp.refl _ _).wk rfl⟩ fun a ha => (ha.more (ha.more (ha.more ha.nil rfl) rfl) rfl)
  | false =>
   intro h; replace h := cF h
   have f23 := f13.stp S18 rfl rfl
   refine WO.k1 trivial rfl rfl rfl rfl (rn_la (cs := [.int .i64 p0.In, .int .i64 p0.Out]) Try.isAgg53 Try.sizeOf53 rfl rfl rfl (haE f23.cells)) ?_
   have f24 := f8.stp (S11.tr S18) rfl rfl
   refine WO.k1 trivial rfl rfl rfl rfl (rn_la (cs := [.slice a1_0 p1.Next.length u1_0, .slice a1_1 p1.Out.length u1_1]) Try.isAgg50 Try.sizeOf50 rfl rfl rfl (haE f24.cells)) ?_
   obtain ⟨x19, hx19, h⟩ := Option.bind_eq_some_iff.mp h
   have f25 := g1_0.stp (S3.tr (S7.tr (S11.tr S18))) rfl rfl
   have f26 := g1_1.stp (S3.tr (S7.tr (S11.tr S18))) rfl rfl
   refine WO.call rfl rfl rfl rfl rfl rfl Try.call113 (i_isMachine_ok (κ := fun b => mp [] 0 (K17 b)) (p0 := p0) (p1 := p1) (Sl.map f25 (mp [] 0) rfl rfl) (Sl.map f26 (mp [] 0) rfl rfl) hx19) ?_
   rintro _ w27 ⟨k28, rfl, e29⟩
   obtain ⟨K30, S31, m32⟩ := Ent.mixed (l := []) (κ := K17) e29 7 rfl
   refine ⟨trivial, ?_⟩
   refine WO.pn 2 rfl ?_
   obtain rfl := Option.some.inj h
   exact WO.met _ trivial ⟨rfl, _, S31.wk rfl⟩ fun a ha => (ha.more (ha.more (ha.more ha.nil rfl) rfl) rfl)
 rintro _ w34 _ ⟨rfl, K35, S36⟩
 have h := hK21
 refine WO.fin ?_
 refine DN.seq ?_
 revert h
 cases ht37 : p21 with
 | true =>
  intro h; replace h := cT h
  refine WC.ct rfl ?_
  refine WC.seq ?_
  refine WC.rs [(0, 2), (1, 1)] rfl ?_
  refine WO.k2 rfl rfl rfl rfl (rn_build (parts := []) (cells := [.slice none 0 0, .slice none 0 0]) rfl rfl (by kernel_rfl)) ?_
  have f38 := f12.stp (S18.tr S36) rfl rfl
  refine WO.stB0 (κ := K35) 4 (vc := [.slice none 0 0, .slice none 0 0]) rfl rfl rfl rfl rfl rfl rfl Try.sizeOf50 rfl rfl f38 rfl fun w39 S40 f41 => ⟨trivial, ?_⟩
  refine WO.fin ?_
  refine DN.seq ?_
  refine WC.ret ?_
  refine DN.retThen ?_
  have f42 := hE.stp (S3.tr (S7.tr (S11.tr (S18.tr (S36.tr S40))))) rfl rfl
  refine DN.res (l := [.cell 4 50]) Try.results75 (res_cellA rfl f41 Try.isAgg50 Try.sizeOf50 rfl rfl) rfl ?_
  obtain rfl := Option.some.inj h
  exact ⟨K35, none, 0, none, 0, rfl, f42, Ow.nil, Ow.nil⟩
 | false =>
  intro h; replace h := cF h
  refine WC.cf rfl ?_
  refine WC.skip ?_
  refine DN.seq ?_
  refine WC.seq ?_
  refine WC.rs [(0, 1), (1, 1), (2, 2)] rfl ?_
  have f43 := f8.stp (S11.tr (S18.tr S36)) rfl rfl
  refine WO.k1 trivial rfl rfl rfl rfl (rn_la (cs := [.slice a1_0 p1.Next.length u1_0, .slice a1_1 p1.Out.length u1_1]) Try.isAgg50 Try.sizeOf50 rfl rfl rfl (haE f43.cells)) ?_
  obtain ⟨x24, hx24, h⟩ := Option.bind_eq_some_iff.mp h
  have f44 := g1_0.stp (S3.tr (S7.tr (S11.tr (S18.tr S36)))) rfl rfl
  have f45 := g1_1.stp (S3.tr (S7.tr (S11.tr (S18.tr S36)))) rfl rfl
  refine WO.call rfl rfl rfl rfl rfl rfl Try.call149 (i_alikeStates_ok (κ := fun b => mp [] 0 (K35 b)) (p0 := p1) (Sl.map f44 (mp [] 0) rfl rfl) (Sl.map f45 (mp [] 0) rfl rfl) hx24) ?_
  rintro _ w46 ⟨k47, a24_0, u24_0, rfl, e48, f49⟩
  obtain ⟨K50, S51, m52⟩ := Ent.mixed (l := []) (κ := K35) e48 7 rfl
  refine ⟨trivial, ?_⟩
  have f54 := f49.mx (no_int _) m52 rfl (rfl : 7 + 2 = 9)
  refine WO.pn 1 rfl ?_
  refine WO.fin ?_
  refine DN.seq ?_
  refine WC.seq ?_
  refine WC.rs [(0, 2), (1, 2), (2, 1), (3, 1), (4, 2)] rfl ?_
  refine WO.pn 1 rfl ?_
  obtain ⟨x26, hx26, h⟩ := Option.bind_eq_some_iff.mp h
  refine WO.k2 rfl rfl rfl rfl (rn_index f54.rdc hx26 Try.runUnderlying22 Try.sizeOf2 rfl rfl rfl rfl) ?_
  refine WO.k1 trivial rfl rfl rfl rfl (rn_ld Try.isAgg2 rfl rfl (hvE (f54.rdc.gInt hx26))) ?_
  refine WO.bl (κ := K50) (E := (Ep.int .i64)) 10 [] (parts := [(0, .tmp 27)]) (cells := [.int .i64 x26]) (xs := ([x26] : List Int)) rfl rfl rfl rfl rfl rfl Try.underlying22 Tryinfo2 rfl rfl rfl rfl rfl rfl rfl rfl rfl rfl ⟨[.int .i64 x26], [], Zl K50 w46 [], Zl K50 w46 [], rfl, Zl.sp (l1 := []) (l2 := []) rfl, Zl.sr (l1 := []) (l2 := []), rfl, rfl⟩ fun a28 u28 w55 K56 S57 f58 => ⟨trivial, ?_⟩
  refine WO.pn 1 rfl ?_
  refine WO.fin ?_
  refine DN.seq ?_
  refine WC.seq ?_
  refine WC.rs [(0, 2), (1, 1), (2, 1)] rfl ?_
  refine WO.k2 rfl rfl rfl rfl (rn_build (parts := []) (cells := [.slice none 0 0, .slice none 0 0]) rfl rfl (by kernel_rfl)) ?_
  refine WO.alloc (κ := K56) 11 rfl rfl rfl rfl rfl Try.zeroValue50 rfl fun b7 w59 K60 S61 f62 => ⟨trivial, ?_⟩
  refine WO.stB0 (κ := K60) 11 (vc := [.slice none 0 0, .slice none 0 0]) rfl rfl rfl rfl rfl rfl rfl Try.sizeOf50 rfl rfl f62 rfl fun w63 S64 f65 => ⟨trivial, ?_⟩
  refine WO.fin ?_
  refine DN.seq ?_
  refine WC.seq ?_
  refine WC.seq ?_
  refine WC.rs [(0, 2)] rfl ?_
  refine WO.pn 1 rfl ?_
  refine WO.fin ?_
  refine DN.seq ?_
  obtain ⟨q2, hq68, hK67⟩ := Option.bind_eq_some_iff.mp h
  clear h
  refine WC.meet (fun L w' => ∃ (κ' : Col) (s3 : (List Int) × Int × (List (List Int)) × (List (List Int))) (las3_0 : Option Addr) (lus3_0 : Nat) (las3_1 : Option Addr) (lus3_1 : Nat) (las3_2 : Option Addr) (lus3_2 : Nat), L = [(4, .pointer (some ⟨b4, 0, none⟩)), (7, .pointer (some ⟨b7, 0, none⟩))] ∧ Stp [10, 11, 12, 13, 14, 15, 16, 17] K60 w63 κ' w' ∧ Oc (Ep.int .i64) 2 κ' w' 10 las3_0 lus3_0 s3.1 ∧ Oc (Ep.own (Ep.int .i64) 2) 22 κ' w' 12 las3_1 lus3_1 s3.2.2.1 ∧ Oc (Ep.own (Ep.int .i64) 2) 22 κ' w' 13 las3_2 lus3_2 s3.2.2.2 ∧ Bc κ' w' 11 b7 50 [.slice las3_1 s3.2.2.1.length lus3_1, .slice las3_2 s3.2.2.2.length lus3_2] ∧ q2 = Sum.inr s3) ?_ ?_
  ·
   refine WC.block ?_
   have f83 := f58.stp (S61.tr S64) rfl rfl
   refine WC.loop (fun k L w' => ∃ (κ' : Col) (s1 : (List Int) × Int × (List (List Int)) × (List (List Int))) (las1_0 : Option Addr) (lus1_0 : Nat) (las1_1 : Option Addr) (lus1_1 : Nat) (las1_2 : Option Addr) (lus1_2 : Nat), L = [(3, .pointer (some ⟨b3, 0, none⟩)), (4, .pointer (some ⟨b4, 0, none⟩)), (5, .slice a24_0 x24.length u24_0), (6, .slice las1_0 s1.1.length lus1_0), (7, .pointer (some ⟨b7, 0, none⟩)), (8, .int .i64 s1.2.1)] ∧ Stp [10, 11, 12, 13, 14, 15, 16, 17] K60 w63 κ' w' ∧ Oc (Ep.int .i64) 2 κ' w' 10 las1_0 lus1_0 s1.1 ∧ Oc (Ep.own (Ep.int .i64) 2) 22 κ' w' 12 las1_1 lus1_1 s1.2.2.1 ∧ Oc (Ep.own (Ep.int .i64) 2) 22 κ' w' 13 las1_2 lus1_2 s1.2.2.2 ∧ Bc κ' w' 11 b7 50 [.slice las1_1 s1.2.2.1.length lus1_1, .slice las1_2 s1.2.2.2.length lus1_2] ∧ whileM (i_LeastOf_b0 p1 x24) k s1 = some q2) ⟨_, _, ⟨K60, ((([x26] : List Int) : (List Int)), (0 : Int), (([] : List (List Int)) : (List (List Int))), (([] : List (List Int)) : (List (List Int)))), a28, u28, none, 0, none, 0, rfl, (Stp.refl _ _).wk rfl, f83, Ow.nil, Ow.nil, f65, hq68⟩, fun a ha => (ha.more (ha.more (ha.more (ha.more (ha.more (ha.more ha.nil rfl) rfl) rfl) rfl) rfl) rfl)⟩ ?_
   rintro k _ w76 ⟨K77, s1, las1_0, lus1_0, las1_1, lus1_1, las1_2, lus1_2, rfl, S78, f79, f80, f81, f82, h⟩
   rcases k with _ | k
   ·
    cases h
   ·
    obtain ⟨o66, h, hk84⟩ := Option.bind_eq_some_iff.mp h; unfold i_LeastOf_b0 at h
    refine WC.seq ?_
    refine WC.seq ?_
    refine WC.rs [(0, 2), (1, 2), (2, 2), (3, 2)] rfl ?_
    refine WO.pn 2 rfl ?_
    refine WO.k2 rfl rfl rfl rfl (rn_len Try.runUnderlying22 rfl rfl) ?_
    refine WO.pn 1 rfl ?_
    refine WO.fin ?_
    refine DN.seq ?_
    revert h
    cases ht85 : decide (s1.2.1 < (s1.1.length : Int)) with
    | true =>
     intro h; replace h := cT h
     refine WC.ct rfl ?_
     refine WC.skip ?_
     refine DN.seq ?_
     refine WC.seq ?_
     refine WC.block ?_
     refine WC.seq ?_
     refine WC.rs [(0, 1), (1, 2)] rfl ?_
     refine WO.bl0 (κ := K77) (E := (Ep.int .i64)) 14 rfl rfl rfl rfl rfl Try.underlying22 Tryinfo2 rfl fun a36 u36 w86 K87 S88 f89 => ⟨trivial, ?_⟩
     refine WO.pn 1 rfl ?_
     refine WO.fin ?_
     refine DN.seq ?_
     refine WC.seq ?_
     refine WC.seq ?_
     refine WC.rx (κ := K87) [0, 3, 10] none [(0, 2), (2, 2), (3, 2), (4, 2), (9, 2), (1, 0), (5, 0), (6, 2), (7, 0), (8, 2)] [] (by kernel_rfl) (by kernel_rfl) fun w91 S90 => ?_
     refine WO.k2 rfl rfl rfl rfl (rn_fieldAddr Try.runUnderlying50 rfl Try.sizeOf23 rfl rfl) ?_
     refine WO.pn 2 rfl ?_
     obtain ⟨x41, hx41, h⟩ := Option.bind_eq_some_iff.mp h
     refine WO.k2 rfl rfl rfl rfl (rn_index f79.rdc hx41 Try.runUnderlying22 Try.sizeOf2 rfl rfl rfl rfl) ?_
     refine WO.pn 1 rfl ?_
     have f92 := f43.stp (S51.tr (S57.tr (S61.tr (S64.tr (S78.tr (S88.tr S90)))))) rfl rfl
     refine WO.k0 rfl rfl rfl rfl (rn_ld Try.isAgg23 rfl rfl (hvC (f92.ld 0 rfl rfl) rfl)) ?_
     have f93 := f79.stp (S88.tr S90) rfl rfl
     refine WO.k0 rfl rfl rfl rfl (rn_ld Try.isAgg2 rfl rfl (hvC (f93.rdc.gInt hx41) rfl)) ?_
     obtain ⟨x43, hx43, h⟩ := Option.bind_eq_some_iff.mp h
     refine WO.k2 rfl rfl rfl rfl (rn_index f44 hx43 Try.runUnderlying23 Try.sizeOf22 rfl rfl rfl rfl) ?_
     have f94 := f44.stp (S51.tr (S57.tr (S61.tr (S64.tr (S78.tr (S88.tr S90)))))) rfl rfl
     obtain ⟨ax43, ux43, f95, hl96⟩ := f94.gSl hx43
     refine WO.k0 rfl rfl rfl rfl (rn_ld Try.isAgg22 rfl rfl (hvC hl96 rfl)) ?_
     refine WO.k2 rfl rfl rfl rfl (rn_len Try.runUnderlying22 rfl rfl) ?_
     refine WO.nx ?_
     refine WO.fin ?_
     refine DN.seq ?_
     have hN97 : (x43.length : Int) ≤ 9223372036854775807 := f95.len_le
     obtain ⟨q5, hq99, hK98⟩ := Option.bind_eq_some_iff.mp h
     clear h
     refine WC.meet (fun L w' => ∃ (κ' : Col) (s6 : (List Int) × (List Int)) (las6_0 : Option Addr) (lus6_0 : Nat) (las6_1 : Option Addr) (lus6_1 : Nat), L = [(3, .pointer (some ⟨b3, 0, none⟩)), (4, .pointer (some ⟨b4, 0, none⟩)), (5, .slice a24_0 x24.length u24_0), (6, .slice las6_0 s6.1.length lus6_0), (7, .pointer (some ⟨b7, 0, none⟩)), (8, .int .i64 s1.2.1), (9, .slice las6_1 s6.2.length lus6_1)] ∧ Stp [10, 14] K87 w91 κ' w' ∧ Oc (Ep.int .i64) 2 κ' w' 10 las6_0 lus6_0 s6.1 ∧ Oc (Ep.int .i64) 2 κ' w' 14 las6_1 lus6_1 s6.2 ∧ q5 = Sum.inr s6) ?_ ?_
     ·
      refine WC.block ?_
      have f110 := f89.stp S90 rfl rfl
      refine WC.loop (fun k L w' => ∃ (κ' : Col) (v46 : Int) (s4 : (List Int) × (List Int)) (las4_0 : Option Addr) (lus4_0 : Nat) (las4_1 : Option Addr) (lus4_1 : Nat), L = [(3, .pointer (some ⟨b3, 0, none⟩)), (4, .pointer (some ⟨b4, 0, none⟩)), (5, .slice a24_0 x24.length u24_0), (6, .slice las4_0 s4.1.length lus4_0), (7, .pointer (some ⟨b7, 0, none⟩)), (8, .int .i64 s1.2.1), (9, .slice las4_1 s4.2.length lus4_1), (44, .slice ax43 x43.length ux43), (45, .int .i64 (x43.length : Int)), (46, .int .i64 v46)] ∧ Stp [10, 14] K87 w91 κ' w' ∧ Oc (Ep.int .i64) 2 κ' w' 10 las4_0 lus4_0 s4.1 ∧ Oc (Ep.int .i64) 2 κ' w' 14 las4_1 lus4_1 s4.2 ∧ 0 ≤ v46 ∧ Int.toNat ((x43.length : Int) - v46) = k ∧ cntM (i_LeastOf_b2 x24 x43) k v46 s4 = some q5) ⟨_, _, ⟨K87, 0, ((s1.1 : (List Int)), (([] : List Int) : (List Int))), las1_0, lus1_0, a36, u36, rfl, (Stp.refl _ _).wk rfl, f93, f110, (by decide), (by simp), hq99⟩, fun a ha => (ha.more (ha.more (ha.more (ha.more (ha.more (ha.more (ha.more (ha.more (ha.more (ha.more ha.nil rfl) rfl) rfl) rfl) rfl) rfl) rfl) rfl) rfl) rfl)⟩ ?_
      rintro k _ w105 ⟨K106, v46, s4, las4_0, lus4_0, las4_1, lus4_1, rfl, S107, f108, f109, hj97, hJ97, h⟩
      rcases k with _ | k
      ·
       have hk111 := h; obtain ⟨o97, h⟩ := ex_eq (Sum.inr (Sum.inl s4) : Machine ⊕ (((List Int) × (List Int)) ⊕ ((List Int) × (List Int))))
       have hc97 : decide (v46 < (x43.length : Int)) = false := decide_eq_false (by omega)
       refine WC.seq ?_
       refine WC.rs [(0, 2)] rfl ?_
       refine WO.pn 1 rfl ?_
       refine WO.fin ?_
       refine DN.seq ?_
       refine WC.seq ?_
       refine WC.cf' rfl hc97 ?_
       refine WC.exit ?_
       refine DN.exitThen ?_
       refine DN.exitThen ?_
       obtain rfl := Option.some.inj h
       have h := hk111
       refine DN.hit ?_
       obtain rfl := Option.some.inj h
       exact DN.meet _ ⟨K106, ((s4.1 : (List Int)), (s4.2 : (List Int))), las4_0, lus4_0, las4_1, lus4_1, rfl, S107.wk rfl, f108, f109, rfl⟩ fun a ha => (ha.more (ha.more (ha.more (ha.more (ha.more (ha.more (ha.more ha.nil rfl) rfl) rfl) rfl) rfl) rfl) rfl)
      ·
       obtain ⟨o97, h, hk111⟩ := Option.bind_eq_some_iff.mp h; unfold i_LeastOf_b2 at h
       have hc97 : decide (v46 < (x43.length : Int)) = true := decide_eq_true (by omega)
       refine WC.seq ?_
       refine WC.rs [(0, 2)] rfl ?_
       refine WO.pn 1 rfl ?_
       refine WO.fin ?_
       refine DN.seq ?_
       refine WC.seq ?_
       refine WC.ct' rfl hc97 ?_
       refine WC.skip ?_
       refine DN.seq ?_
       refine WC.seq ?_
       refine WC.block ?_
       refine WC.seq ?_
       refine WC.rs [(0, 2), (1, 1), (2, 2)] rfl ?_
       obtain ⟨x48, hx48, h⟩ := Option.bind_eq_some_iff.mp h
       refine WO.k2 rfl rfl rfl rfl (rn_index f95 hx48 Try.runUnderlying22 Try.sizeOf2 rfl rfl rfl rfl) ?_
       have f112 := f95.stp S107 rfl rfl
       refine WO.k1 trivial rfl rfl rfl rfl (rn_ld Try.isAgg2 rfl rfl (hvE (f112.gInt hx48))) ?_
       refine WO.pn 1 rfl ?_
       refine WO.fin ?_
       refine DN.seq ?_
       refine WC.seq ?_
       refine WC.rs [(0, 2), (1, 2), (2, 2), (3, 2), (4, 1), (5, 1), (6, 2)] rfl ?_
       refine WO.pn 3 rfl ?_
       obtain ⟨x53, hx53, h⟩ := Option.bind_eq_some_iff.mp h
       refine WO.k2 rfl rfl rfl rfl (rn_index f54.rdc hx53 Try.runUnderlying22 Try.sizeOf2 rfl rfl rfl rfl) ?_
       have f113 := f54.stp (S57.tr (S61.tr (S64.tr (S78.tr (S88.tr (S90.tr S107)))))) rfl rfl
       refine WO.k1 trivial rfl rfl rfl rfl (rn_ld Try.isAgg2 rfl rfl (hvE (f113.rdc.gInt hx53))) ?_
       obtain ⟨x55, hx55, h⟩ := Option.bind_eq_some_iff.mp h
       refine WO.call rfl rfl rfl rfl rfl rfl Try.call108 (slices_Index_I_int64_ok (κ := fun b => mp [] 0 (K106 b)) (Sl.map f108.rdc (mp [] 0) rfl rfl) hx55) ?_
       rintro _ w114 ⟨k115, rfl, e116⟩
       obtain ⟨K117, S118, m119⟩ := Ent.mixed (l := []) (κ := K106) e116 15 rfl
       refine ⟨trivial, ?_⟩
       refine WO.pn 1 rfl ?_
       refine WO.fin ?_
       refine DN.seq ?_
       refine WC.seq ?_
       refine WC.seq ?_
       refine WC.rs [(0, 2), (1, 2)] rfl ?_
       refine WO.pn 2 rfl ?_
       refine WO.fin ?_
       refine DN.seq ?_
       obtain ⟨q7, h, hK121⟩ := Option.bind_eq_some_iff.mp h
       refine WC.meet (fun L w' => ∃ (κ' : Col) (laq7_0 : Option Addr) (luq7_0 : Nat), L = [(3, .pointer (some ⟨b3, 0, none⟩)), (4, .pointer (some ⟨b4, 0, none⟩)), (5, .slice a24_0 x24.length u24_0), (6, .slice laq7_0 q7.1.length luq7_0), (7, .pointer (some ⟨b7, 0, none⟩)), (8, .int .i64 s1.2.1), (9, .slice las4_1 s4.2.length lus4_1), (12, .int .i64 q7.2), (44, .slice ax43 x43.length ux43), (45, .int .i64 (x43.length : Int)), (46, .int .i64 v46)] ∧ Stp [10] K117 w114 κ' w' ∧ Oc (Ep.int .i64) 2 κ' w' 10 laq7_0 luq7_0 q7.1) ?_ ?_
       ·
        revert h
        cases ht126 : decide (x55 < 0) with
        | true =>
         intro h; replace h := cT h
         refine WC.ct rfl ?_
         refine WC.seq ?_
         refine WC.rs [(0, 2), (1, 2), (2, 2)] rfl ?_
         refine WO.pn 1 rfl ?_
         refine WO.k2 rfl rfl rfl rfl (rn_len Try.runUnderlying22 rfl rfl) ?_
         refine WO.pn 1 rfl ?_
         refine WO.fin ?_
         refine DN.seq ?_
         refine WC.rs [(0, 2), (1, 2), (2, 2), (3, 2), (4, 1), (5, 1), (6, 1), (7, 2)] rfl ?_
         refine WO.pn 3 rfl ?_
         obtain ⟨x63, hx63, h⟩ := Option.bind_eq_some_iff.mp h
         refine WO.k2 rfl rfl rfl rfl (rn_index f113.rdc hx63 Try.runUnderlying22 Try.sizeOf2 rfl rfl rfl rfl) ?_
         have f127 := f113.stp S118 rfl rfl
         refine WO.k1 trivial rfl rfl rfl rfl (rn_ld Try.isAgg2 rfl rfl (hvE (f127.rdc.gInt hx63))) ?_
         refine WO.bl (κ := K117) (E := (Ep.int .i64)) 17 [] (parts := [(0, .tmp 64)]) (cells := [.int .i64 x63]) (xs := ([x63] : List Int)) rfl rfl rfl rfl rfl rfl Try.underlying22 Tryinfo2 rfl rfl rfl rfl rfl rfl rfl rfl rfl rfl ⟨[.int .i64 x63], [], Zl K117 w114 [], Zl K117 w114 [], rfl, Zl.sp (l1 := []) (l2 := []) rfl, Zl.sr (l1 := []) (l2 := []), rfl, rfl⟩ fun a65 u65 w128 K129 S130 f131 => ⟨trivial, ?_⟩
         obtain ⟨x66, hx66, h⟩ := Option.bind_eq_some_iff.mp h
         have f132 := f108.stp (S118.tr S130) rfl rfl
         refine WO.app (κ := K129) (E := (Ep.int .i64)) 10 [] rfl rfl rfl rfl rfl rfl rfl rfl rfl Try.underlying22 Tryinfo2 rfl rfl rfl rfl f132 (Sl.srcP (pu_int _) f131.rdc) sy_false hx66 rfl fun a66 u66 w133 K134 S135 f136 => ⟨trivial, ?_⟩
         refine WO.pn 1 rfl ?_
         refine WO.fin ?_
         obtain rfl := Option.some.inj h
         exact DN.meet _ ⟨K134, a66, u66, rfl, (S130.tr S135).wk rfl, f136⟩ fun a ha => (ha.more (ha.more (ha.more (ha.more (ha.more (ha.more (ha.more (ha.more (ha.more (ha.more (ha.more ha.nil rfl) rfl) rfl) rfl) rfl) rfl) rfl) rfl) rfl) rfl) rfl)
        | false =>
         intro h; replace h := cF h
         refine WC.cf rfl ?_
         refine WC.skip ?_
         have f137 := f108.stp S118 rfl rfl
         obtain rfl := Option.some.inj h
         exact DN.meet _ ⟨K117, las4_0, lus4_0, rfl, (Stp.refl _ _).wk rfl, f137⟩ fun a ha => (ha.more (ha.more (ha.more (ha.more (ha.more (ha.more (ha.more (ha.more (ha.more (ha.more (ha.more ha.nil rfl) rfl) rfl) rfl) rfl) rfl) rfl) rfl) rfl) rfl) rfl)
       rintro _ w122 ⟨K123, laq7_0, luq7_0, rfl, S124, f125⟩
       have h := hK121
       refine DN.seq ?_
       refine WC.rs [(0, 2), (1, 2), (2, 1), (3, 1), (4, 2)] rfl ?_
       refine WO.pn 2 rfl ?_
       refine WO.bl (κ := K123) (E := (Ep.int .i64)) 17 [] (parts := [(0, .tmp 68)]) (cells := [.int .i64 q7.2]) (xs := ([q7.2] : List Int)) rfl rfl rfl rfl rfl rfl Try.underlying22 Tryinfo2 rfl rfl rfl rfl rfl rfl rfl rfl rfl rfl ⟨[.int .i64 q7.2], [], Zl K123 w122 [], Zl K123 w122 [], rfl, Zl.sp (l1 := []) (l2 := []) rfl, Zl.sr (l1 := []) (l2 := []), rfl, rfl⟩ fun a69 u69 w138 K139 S140 f141 => ⟨trivial, ?_⟩
       obtain ⟨x70, hx70, h⟩ := Option.bind_eq_some_iff.mp h
       have f142 := f109.stp (S118.tr (S124.tr S140)) rfl rfl
       refine WO.app (κ := K139) (E := (Ep.int .i64)) 14 [] rfl rfl rfl rfl rfl rfl rfl rfl rfl Try.underlying22 Tryinfo2 rfl rfl rfl rfl f142 (Sl.srcP (pu_int _) f141.rdc) sy_false hx70 rfl fun a70 u70 w143 K144 S145 f146 => ⟨trivial, ?_⟩
       refine WO.pn 1 rfl ?_
       refine WO.fin ?_
       refine DN.block ?_
       refine DN.seq ?_
       refine WC.rs [(0, 2), (1, 2)] rfl ?_
       refine WO.pn 2 rfl ?_
       refine WO.fin ?_
       have hw97 : IntKind.wrap .i64 (v46 + 1) = v46 + 1 := wr1 hj97 (of_decide_eq_true hc97) hN97
       rw [hw97]
       have hc97 := of_decide_eq_true hc97
       have f147 := f125.stp (S140.tr S145) rfl rfl
       obtain rfl := Option.some.inj h
       refine DN.round fun a ha => ?_
       exact ⟨k, _, Nat.lt_succ_self _, ⟨K144, v46 + 1, ((q7.1 : (List Int)), (x70 : (List Int))), laq7_0, luq7_0, a70, u70, rfl, (S107.tr (S118.tr (S124.tr (S140.tr S145)))).wk rfl, f147, f146, by omega, by omega, hk111⟩, (ha.more (ha.more (ha.more (ha.more (ha.more (ha.more (ha.more (ha.more (ha.more (ha.more ha.nil rfl) rfl) rfl) rfl) rfl) rfl) rfl) rfl) rfl) rfl)⟩
     rintro _ w100 ⟨K101, s6, las6_0, lus6_0, las6_1, lus6_1, rfl, S102, f103, f104, rfl⟩
     have h := hK98
     dsimp only [aft] at h
     refine DN.seq ?_
     refine WC.seq ?_
     refine WC.rs [(0, 2), (1, 1), (2, 2), (3, 1), (4, 1), (5, 2), (6, 1)] rfl ?_
     refine WO.k2 rfl rfl rfl rfl (rn_fieldAddr Try.runUnderlying50 rfl Try.sizeOf23 rfl rfl) ?_
     have f148 := f82.stp (S88.tr (S90.tr S102)) rfl rfl
     refine WO.k1 trivial rfl rfl rfl rfl (rn_ld Try.isAgg23 rfl rfl (hvE (f148.ld 0 rfl rfl))) ?_
     refine WO.pn 1 rfl ?_
     refine WO.bl (κ := K101) (E := (Ep.own (Ep.int .i64) 2)) 15 [14] (parts := [(0, .tmp 74)]) (cells := [.slice las6_1 s6.2.length lus6_1]) (xs := ([s6.2] : List (List Int))) rfl rfl rfl rfl rfl rfl Try.underlying23 Tryinfo22 rfl rfl rfl rfl rfl rfl rfl rfl rfl rfl ⟨[.slice las6_1 s6.2.length lus6_1], [], Zl K101 w100 [14], Zl K101 w100 [], rfl, Zl.sp (l1 := [14]) (l2 := []) rfl, Zl.sr (l1 := [14]) (l2 := []), ⟨_, _, rfl, f104⟩, rfl⟩ fun a75 u75 w149 K150 S151 f152 => ⟨trivial, ?_⟩
     obtain ⟨x76, hx76, h⟩ := Option.bind_eq_some_iff.mp h
     have f153 := f80.stp (S88.tr (S90.tr (S102.tr S151))) rfl rfl
     refine WO.app (κ := K150) (E := (Ep.own (Ep.int .i64) 2)) 12 [15] rfl rfl rfl rfl rfl rfl rfl rfl rfl Try.underlying23 Tryinfo22 rfl rfl rfl rfl f153 f152.src (sy_one rfl) hx76 rfl fun a76 u76 w154 K155 S156 f157 => ⟨trivial, ?_⟩
     refine WO.k2 rfl rfl rfl rfl (rn_fieldAddr Try.runUnderlying50 rfl Try.sizeOf23 rfl rfl) ?_
     have f158 := f148.stp (S151.tr S156) rfl rfl
     refine WO.stB (κ := K155) 11 (off := 0) (vc := [.slice a76 x76.length u76]) (cs' := [.slice a76 x76.length u76, .slice las1_2 s1.2.2.2.length lus1_2]) rfl rfl rfl rfl rfl rfl rfl Try.sizeOf23 rfl rfl f158 rfl rfl fun w159 S160 f161 => ⟨trivial, ?_⟩
     refine WO.fin ?_
     refine DN.seq ?_
     refine WC.rx (κ := K155) [0, 3, 10, 11] (some 15) [(0, 2), (3, 2), (5, 2), (6, 2), (7, 2), (1, 0), (4, 0), (8, 0), (9, 2), (10, 0), (2, 1), (11, 1), (12, 1), (13, 1), (14, 2)] [(15, 1)] (by kernel_rfl) (by kernel_rfl) fun w163 S162 => ?_
     refine WO.k2 rfl rfl rfl rfl (rn_fieldAddr Try.runUnderlying50 rfl Try.sizeOf23 rfl rfl) ?_
     refine WO.k2 rfl rfl rfl rfl (rn_fieldAddr Try.runUnderlying50 rfl Try.sizeOf23 rfl rfl) ?_
     refine WO.pn 2 rfl ?_
     obtain ⟨x85, hx85, h⟩ := Option.bind_eq_some_iff.mp h
     refine WO.k2 rfl rfl rfl rfl (rn_index f103.rdc hx85 Try.runUnderlying22 Try.sizeOf2 rfl rfl rfl rfl) ?_
     have f164 := f161.stp S162 rfl rfl
     refine WO.k0 rfl rfl rfl rfl (rn_ld Try.isAgg23 rfl rfl (hvC (f164.ld 1 rfl rfl) rfl)) ?_
     have f165 := f92.stp (S102.tr (S151.tr (S156.tr (S160.tr S162)))) rfl rfl
     refine WO.k0 rfl rfl rfl rfl (rn_ld Try.isAgg23 rfl rfl (hvC (f165.ld 1 rfl rfl) rfl)) ?_
     have f166 := f103.stp (S151.tr (S156.tr (S160.tr S162))) rfl rfl
     refine WO.k0 rfl rfl rfl rfl (rn_ld Try.isAgg2 rfl rfl (hvC (f166.rdc.gInt hx85) rfl)) ?_
     obtain ⟨x87, hx87, h⟩ := Option.bind_eq_some_iff.mp h
     refine WO.k2 rfl rfl rfl rfl (rn_index f45 hx87 Try.runUnderlying23 Try.sizeOf22 rfl rfl rfl rfl) ?_
     have f167 := f45.stp (S51.tr (S57.tr (S61.tr (S64.tr (S78.tr (S88.tr (S90.tr (S102.tr (S151.tr (S156.tr (S160.tr S162))))))))))) rfl rfl
     obtain ⟨ax87, ux87, f168, hl169⟩ := f167.gSl hx87
     refine WO.k0 rfl rfl rfl rfl (rn_ld Try.isAgg22 rfl rfl (hvC hl169 rfl)) ?_
     refine WO.bl0 (κ := K155) (E := (Ep.int .i64)) 16 rfl rfl rfl rfl rfl Try.underlying22 Tryinfo2 rfl fun a80 u80 w170 K171 S172 f173 => ⟨(S172.cl rfl), ?_⟩
     obtain ⟨x89, hx89, h⟩ := Option.bind_eq_some_iff.mp h
     have f174 := f168.stp S172 rfl rfl
     refine WO.app (κ := K171) (E := (Ep.int .i64)) 16 [] rfl rfl rfl rfl rfl rfl rfl rfl rfl Try.underlying22 Tryinfo2 rfl rfl rfl rfl f173 (Sl.srcP (pu_int _) f174) sy_false hx89 rfl fun a89 u89 w175 K176 S177 f178 => ⟨((S172.tr S177).cl rfl), ?_⟩
     refine WO.bl (κ := K176) (E := (Ep.own (Ep.int .i64) 2)) 17 [16] (parts := [(0, .tmp 89)]) (cells := [.slice a89 x89.length u89]) (xs := ([x89] : List (List Int))) rfl rfl rfl rfl rfl rfl Try.underlying23 Tryinfo22 rfl rfl rfl rfl rfl rfl rfl rfl rfl rfl ⟨[.slice a89 x89.length u89], [], Zl K176 w175 [16], Zl K176 w175 [], rfl, Zl.sp (l1 := [16]) (l2 := []) rfl, Zl.sr (l1 := [16]) (l2 := []), ⟨_, _, rfl, f178⟩, rfl⟩ fun a90 u90 w179 K180 S181 f182 => ⟨((S172.tr (S177.tr S181)).cl rfl), ?_⟩
     obtain ⟨x91, hx91, h⟩ := Option.bind_eq_some_iff.mp h
     have f183 := f81.stp (S88.tr (S90.tr (S102.tr (S151.tr (S156.tr (S160.tr (S162.tr (S172.tr (S177.tr S181))))))))) rfl rfl
     refine WO.app (κ := K180) (E := (Ep.own (Ep.int .i64) 2)) 13 [17] rfl rfl rfl rfl rfl rfl rfl rfl rfl Try.underlying23 Tryinfo22 rfl rfl rfl rfl f183 f182.src (sy_one rfl) hx91 rfl fun a91 u91 w184 K185 S186 f187 => ⟨((S172.tr (S177.tr (S181.tr S186))).cl rfl), ?_⟩
     refine WO.k2 rfl rfl rfl rfl (rn_fieldAddr Try.runUnderlying50 rfl Try.sizeOf23 rfl rfl) ?_
     refine WO.nx ?_
     have f188 := f164.stp (S172.tr (S177.tr (S181.tr S186))) rfl rfl
     refine WO.stB (κ := K185) 11 (off := 1) (vc := [.slice a91 x91.length u91]) (cs' := [.slice a76 x76.length u76, .slice a91 x91.length u91]) rfl rfl rfl rfl rfl rfl rfl Try.sizeOf23 rfl rfl f188 rfl rfl fun w189 S190 f191 => ⟨trivial, ?_⟩
     refine WO.fin ?_
     refine DN.block ?_
     refine DN.seq ?_
     refine WC.rs [(0, 2), (1, 2), (2, 2)] rfl ?_
     refine WO.pn 3 rfl ?_
     refine WO.fin ?_
     have f192 := f166.stp (S172.tr (S177.tr (S181.tr (S186.tr S190)))) rfl rfl
     have f193 := f157.stp (S160.tr (S162.tr (S172.tr (S177.tr (S181.tr (S186.tr S190)))))) rfl rfl
     have f194 := f187.stp S190 rfl rfl
     obtain rfl := Option.some.inj h
     refine DN.round fun a ha => ?_
     exact ⟨k, _, Nat.lt_succ_self _, ⟨K185, ((s6.1 : (List Int)), ((IntKind.i64.wrap (s1.2.1 + 1)) : Int), (x76 : (List (List Int))), (x91 : (List (List Int)))), las6_0, lus6_0, a76, u76, a91, u91, rfl, (S78.tr (S88.tr (S90.tr (S102.tr (S151.tr (S156.tr (S160.tr (S162.tr (S172.tr (S177.tr (S181.tr (S186.tr S190)))))))))))).wk rfl, f192, f193, f194, f191, hk84⟩, (ha.more (ha.more (ha.more (ha.more (ha.more (ha.more ha.nil rfl) rfl) rfl) rfl) rfl) rfl)⟩
    | false =>
     intro h; replace h := cF h
     refine WC.cf rfl ?_
     refine WC.exit ?_
     refine DN.exitThen ?_
     refine DN.exitThen ?_
     obtain rfl := Option.some.inj h
     have h := hk84
     refine DN.hit ?_
     obtain rfl := Option.some.inj h
     exact DN.meet _ ⟨K77, ((s1.1 : (List Int)), (s1.2.1 : Int), (s1.2.2.1 : (List (List Int))), (s1.2.2.2 : (List (List Int)))), las1_0, lus1_0, las1_1, lus1_1, las1_2, lus1_2, rfl, S78.wk rfl, f79, f80, f81, f82, rfl⟩ fun a ha => (ha.more (ha.more ha.nil rfl) rfl)
  rintro _ w69 ⟨K70, s3, las3_0, lus3_0, las3_1, lus3_1, las3_2, lus3_2, rfl, S71, f72, f73, f74, f75, rfl⟩
  have h := hK67
  dsimp only [aft] at h
  refine DN.seq ?_
  refine WC.seq ?_
  refine WC.rs [(0, 1), (1, 1)] rfl ?_
  refine WO.k1 trivial rfl rfl rfl rfl (rn_la (cs := [.slice las3_1 s3.2.2.1.length lus3_1, .slice las3_2 s3.2.2.2.length lus3_2]) Try.isAgg50 Try.sizeOf50 rfl rfl rfl (haE f75.cells)) ?_
  have f195 := f12.stp (S18.tr (S36.tr (S51.tr (S57.tr (S61.tr (S64.tr S71)))))) rfl rfl
  refine WO.stB0 (κ := K70) 4 (vc := [.slice las3_1 s3.2.2.1.length lus3_1, .slice las3_2 s3.2.2.2.length lus3_2]) rfl rfl rfl rfl rfl rfl rfl Try.sizeOf50 rfl rfl f195 rfl fun w196 S197 f198 => ⟨trivial, ?_⟩
  refine WO.fin ?_
  refine DN.seq ?_
  refine WC.ret ?_
  have f199 := hE.stp (S3.tr (S7.tr (S11.tr (S18.tr (S36.tr (S51.tr (S57.tr (S61.tr (S64.tr (S71.tr S197)))))))))) rfl rfl
  have f200 := f73.stp S197 rfl rfl
  have f201 := f74.stp S197 rfl rfl
  refine DN.res (l := [.cell 4 50]) Try.results75 (res_cellA rfl f198 Try.isAgg50 Try.sizeOf50 rfl rfl) rfl ?_
  obtain rfl := Option.some.inj h
  exact ⟨(fun b => ren [(12, 2), (13, 3)] (K70 b)), las3_1, lus3_1, las3_2, lus3_2, rfl, (f199.map (ren [(12, 2), (13, 3)]) rfl rfl), (f200.map (ren [(12, 2), (13, 3)]) rfl rfl), (f201.map (ren [(12, 2), (13, 3)]) rfl rfl)⟩

/- loop.example/g00869/impl.canRun -/
theorem i_canRun_ok {w : World} {κ : Col} {p0 : Sig} {a1_0 : Option Addr} {u1_0 : Nat} {a1_1 : Option Addr} {u1_1 : Nat} {p1 : Machine} {a2 : Option Addr} {u2 : Nat} {p2 : (List Int)} (g1_0 : Rd (Rp.sl (Rp.int .i64)) κ w 0 a1_0 u1_0 p1.Next) (g1_1 : Rd (Rp.sl (Rp.int .i64)) κ w 0 a1_1 u1_1 p1.Out) (g2 : Rd (Rp.int .i64) κ w 0 a2 u2 p2) {r : Bool} (h : i_canRun p0 p1 p2 = some r) : Ret Try.prog 154 [.agg #[.int .i64 p0.In, .int .i64 p0.Out], .agg #[.slice a1_0 p1.Next.length u1_0, .slice a1_1 p1.Out.length u1_1], .slice a2 p2.length u2] w (fun v w' => ∃ (κ' : Col), v = .bool r ∧ Ent κ w κ' w') := by
 unfold i_canRun at h
 refine Ret.enter Try.func154 rfl Try.ntmps154 rfl ?_
 dsimp only [envOf]
 have hE := Ent.refl κ w
 refine WC.seq ?_
 refine WC.rs [(0, 1), (1, 1), (2, 2)] rfl ?_
 refine WO.box (κ := κ) 2 rfl rfl rfl rfl rfl rfl rfl fun b3 w1 K2 S3 f4 => ⟨trivial, ?_⟩
 refine WO.box (κ := K2) 3 rfl rfl rfl rfl rfl rfl rfl fun b4 w5 K6 S7 f8 => ⟨trivial, ?_⟩
 refine WO.pn 1 rfl ?_
 refine WO.fin ?_
 refine DN.seq ?_
 refine WC.seq ?_
 refine WC.rs [(0, 1), (1, 1), (2, 2), (3, 1), (4, 1), (5, 1), (6, 2), (7, 2), (8, 2), (9, 2), (10, 2), (11, 2), (12, 2), (13, 2), (14, 1), (15, 1), (16, 1), (17, 2), (18, 2)] rfl ?_
 have f9 := f4.stp S7 rfl rfl
 refine WO.k1 trivial rfl rfl rfl rfl (rn_la (cs := [.int .i64 p0.In, .int .i64 p0.Out]) Try.isAgg53 Try.sizeOf53 rfl rfl rfl (haE f9.cells)) ?_
 obtain ⟨x8, hx8, h⟩ := Option.bind_eq_some_iff.mp h
 refine WO.call rfl rfl rfl rfl rfl rfl Try.call104 (i_isSig_ok (κ := fun b => mp [] 0 (K6 b)) (p0 := p0) hx8) ?_
 rintro _ w10 ⟨k11, rfl, e12⟩
 obtain ⟨K13, S14, m15⟩ := Ent.mixed (l := []) (κ := K6) e12 4 rfl
 refine ⟨trivial, ?_⟩
 refine WO.pn 1 rfl ?_
 obtain ⟨p13, h, hK17⟩ := Option.bind_eq_some_iff.mp h
 refine WO.meet [(3, 1), (4, 1), (5, 1), (6, 2)] [(7, 2), (8, 2), (9, 2), (10, 2), (11, 2), (12, 2), (13, 2), (14, 1), (15, 1), (16, 1), (17, 2), (18, 2)] (fun L w' => L = [(2, .slice a2 p2.length u2), (3, .pointer (some ⟨b3, 0, none⟩)), (6, .bool false), (13, .bool p13)] ∧ ∃ κ', Stp [] K13 w10 κ' w') trivial ?_ ?_
 ·
  revert h
  cases ht18 : x8 with
  | true =>
   intro h; replace h := cT h
   have f19 := f9.stp S14 rfl rfl
   refine WO.k1 trivial rfl rfl rfl rfl (rn_la (cs := [.int .i64 p0.In, .int .i64 p0.Out]) Try.isAgg53 Try.sizeOf53 rfl rfl rfl (haE f19.cells)) ?_
   have f20 := f8.stp S14 rfl rfl
   refine WO.k1 trivial rfl rfl rfl rfl (rn_la (cs := [.slice a1_0 p1.Next.length u1_0, .slice a1_1 p1.Out.length u1_1]) Try.isAgg50 Try.sizeOf50 rfl rfl rfl (haE f20.cells)) ?_
   obtain ⟨x12, hx12, h⟩ := Option.bind_eq_some_iff.mp h
   have f21 := g1_0.stp (S3.tr (S7.tr S14)) rfl rfl
   have f22 := g1_1.stp (S3.tr (S7.tr S14)) rfl rfl
   refine WO.call rfl rfl rfl rfl rfl rfl Try.call113 (i_isMachine_ok (κ := fun b => mp [] 0 (K13 b)) (p0 := p0) (p1 := p1) (Sl.map f21 (mp [] 0) rfl rfl) (Sl.map f22 (mp [] 0) rfl rfl) hx12) ?_
   rintro _ w23 ⟨k24, rfl, e25⟩
   obtain ⟨K26, S27, m28⟩ := Ent.mixed (l := []) (κ := K13) e25 6 rfl
   refine ⟨trivial, ?_⟩
   refine WO.pn 1 rfl ?_
   obtain rfl := Option.some.inj h
   exact WO.met _ trivial ⟨rfl, _, S27.wk rfl⟩ fun a ha => (ha.more (ha.more (ha.more (ha.more ha.nil rfl) rfl) rfl) rfl)
  | false =>
   intro h; replace h := cF h
   refine WO.ls rfl rfl rfl rfl ?_
   refine WO.ls rfl rfl rfl rfl ?_
   refine WO.ls rfl rfl rfl rfl ?_
   refine WO.pn 1 rfl ?_
   obtain rfl := Option.some.inj h
   exact WO.met _ trivial ⟨rfl, _, (Stp.refl _ _).wk rfl⟩ fun a ha => (ha.more (ha.more (ha.more (ha.more ha.nil rfl) rfl) rfl) rfl)
 rintro _ w30 _ ⟨rfl, K31, S32⟩
 have h := hK17
 refine WO.pn 1 rfl ?_
 obtain ⟨p18, h, hK33⟩ := Option.bind_eq_some_iff.mp h
 refine WO.meet [(8, 2), (9, 2), (10, 2), (11, 2)] [(12, 2), (13, 2), (14, 1), (15, 1), (16, 1), (17, 2), (18, 2)] (fun L w' => L = [(2, .slice a2 p2.length u2), (3, .pointer (some ⟨b3, 0, none⟩)), (6, .bool false), (18, .bool p18)] ∧ ∃ κ', Stp [] K31 w30 κ' w') trivial ?_ ?_
 ·
  revert h
  cases ht34 : p13 with
  | true =>
   intro h; replace h := cT h
   refine WO.pn 1 rfl ?_
   refine WO.k2 rfl rfl rfl rfl (rn_len Try.runUnderlying22 rfl rfl) ?_
   refine WO.pn 2 rfl ?_
   obtain rfl := Option.some.inj h
   exact WO.met _ trivial ⟨rfl, _, (Stp.refl _ _).wk rfl⟩ fun a ha => (ha.more (ha.more (ha.more (ha.more ha.nil rfl) rfl) rfl) rfl)
  | false =>
   intro h; replace h := cF h
   refine WO.pn 4 rfl ?_
   obtain rfl := Option.some.inj h
   exact WO.met _ trivial ⟨rfl, _, (Stp.refl _ _).wk rfl⟩ fun a ha => (ha.more (ha.more (ha.more (ha.more ha.nil rfl) rfl) rfl) rfl)
 rintro _ w35 _ ⟨rfl, K36, S37⟩
 have h := hK33
 refine WO.pn 1 rfl ?_
 obtain ⟨p24, h, hK38⟩ := Option.bind_eq_some_iff.mp h
 refine WO.meet [(13, 2), (14, 1), (15, 1), (16, 1), (17, 2)] [(18, 2)] (fun L w' => L = [(6, .bool false), (24, .bool p24)] ∧ ∃ κ', Stp [] K36 w35 κ' w') trivial ?_ ?_
 ·
  revert h
  cases ht39 : p18 with
  | true =>
   intro h; replace h := cT h
   refine WO.pn 1 rfl ?_
   have f40 := f9.stp (S14.tr (S32.tr S37)) rfl rfl
   refine WO.k1 trivial rfl rfl rfl rfl (rn_la (cs := [.int .i64 p0.In, .int .i64 p0.Out]) Try.isAgg53 Try.sizeOf53 rfl rfl rfl (haE f40.cells)) ?_
   obtain ⟨x22, hx22, h⟩ := Option.bind_eq_some_iff.mp h
   refine WO.call rfl rfl rfl rfl rfl rfl Try.call106 (i_inputsOf_ok (κ := fun b => mp [] 0 (K36 b)) (p0 := p0) hx22) ?_
   rintro _ w41 ⟨k42, rfl, e43⟩
   obtain ⟨K44, S45, m46⟩ := Ent.mixed (l := []) (κ := K36) e43 6 rfl
   refine ⟨trivial, ?_⟩
   obtain ⟨x23, hx23, h⟩ := Option.bind_eq_some_iff.mp h
   have f48 := g2.stp (S3.tr (S7.tr (S14.tr (S32.tr (S37.tr S45))))) rfl rfl
   refine WO.call rfl rfl rfl rfl rfl rfl Try.call170 (i_areLetters_ok (κ := fun b => mp [] 0 (K44 b)) (Sl.map f48 (mp [] 0) rfl rfl) hx23) ?_
   rintro _ w49 ⟨k50, rfl, e51⟩
   obtain ⟨K52, S53, m54⟩ := Ent.mixed (l := []) (κ := K44) e51 8 rfl
   refine ⟨trivial, ?_⟩
   refine WO.pn 1 rfl ?_
   obtain rfl := Option.some.inj h
   exact WO.met _ trivial ⟨rfl, _, (S45.tr S53).wk rfl⟩ fun a ha => (ha.more (ha.more ha.nil rfl) rfl)
  | false =>
   intro h; replace h := cF h
   refine WO.pn 1 rfl ?_
   refine WO.ls rfl rfl rfl rfl ?_
   refine WO.ls rfl rfl rfl rfl ?_
   refine WO.ls rfl rfl rfl rfl ?_
   refine WO.pn 1 rfl ?_
   obtain rfl := Option.some.inj h
   exact WO.met _ trivial ⟨rfl, _, (Stp.refl _ _).wk rfl⟩ fun a ha => (ha.more (ha.more ha.nil rfl) rfl)
 rintro _ w56 _ ⟨rfl, K57, S58⟩
 have h := hK38
 refine WO.pn 1 rfl ?_
 refine WO.fin ?_
 refine DN.seq ?_
 refine WC.ret ?_
 have f59 := hE.stp (S3.tr (S7.tr (S14.tr (S32.tr (S37.tr S58))))) rfl rfl
 refine DN.res (l := [.tmp 6]) Try.results154 (res_tmp rfl rfl) rfl ?_
 obtain rfl := Option.some.inj h
 exact ⟨K57, rfl, f59⟩

/- loop.example/g00869/impl.OutputsFor -/
theorem i_OutputsFor_ok {w : World} {κ : Col} {p0 : Sig} {a1_0 : Option Addr} {u1_0 : Nat} {a1_1 : Option Addr} {u1_1 : Nat} {p1 : Machine} {a2 : Option Addr} {u2 : Nat} {p2 : (List Int)} (g1_0 : Rd (Rp.sl (Rp.int .i64)) κ w 0 a1_0 u1_0 p1.Next) (g1_1 : Rd (Rp.sl (Rp.int .i64)) κ w 0 a1_1 u1_1 p1.Out) (g2 : Rd (Rp.int .i64) κ w 0 a2 u2 p2) {r : (List Int)} (h : i_OutputsFor p0 p1 p2 = some r) : Ret Try.prog 79 [.agg #[.int .i64 p0.In, .int .i64 p0.Out], .agg #[.slice a1_0 p1.Next.length u1_0, .slice a1_1 p1.Out.length u1_1], .slice a2 p2.length u2] w (fun v w' => ∃ (κ' : Col) (ra0 : Option Addr) (ru0 : Nat), v = .slice ra0 r.length ru0 ∧ Ent κ w κ' w' ∧ Oc (Ep.int .i64) 2 κ' w' 2 ra0 ru0 r) := by
 unfold i_OutputsFor at h
 refine Ret.enter Try.func79 rfl Try.ntmps79 rfl ?_
 dsimp only [envOf]
 have hE := Ent.refl κ w
 refine WC.seq ?_
 refine WC.rs [(0, 1), (1, 1), (2, 2)] rfl ?_
 refine WO.box (κ := κ) 2 rfl rfl rfl rfl rfl rfl rfl fun b3 w1 K2 S3 f4 => ⟨trivial, ?_⟩
 refine WO.box (κ := K2) 3 rfl rfl rfl rfl rfl rfl rfl fun b4 w5 K6 S7 f8 => ⟨trivial, ?_⟩
 refine WO.pn 1 rfl ?_
 refine WO.fin ?_
 refine DN.seq ?_
 refine WC.seq ?_
 refine WC.seq ?_
 refine WC.rs [(0, 1), (1, 1), (2, 2), (3, 1), (4, 2)] rfl ?_
 have f9 := f4.stp S7 rfl rfl
 refine WO.k1 trivial rfl rfl rfl rfl (rn_la (cs := [.int .i64 p0.In, .int .i64 p0.Out]) Try.isAgg53 Try.sizeOf53 rfl rfl rfl (haE f9.cells)) ?_
 refine WO.k1 trivial rfl rfl rfl rfl (rn_la (cs := [.slice a1_0 p1.Next.length u1_0, .slice a1_1 p1.Out.length u1_1]) Try.isAgg50 Try.sizeOf50 rfl rfl rfl (haE f8.cells)) ?_
 refine WO.pn 1 rfl ?_
 obtain ⟨x14, hx14, h⟩ := Option.bind_eq_some_iff.mp h
 have f10 := g1_0.stp (S3.tr S7) rfl rfl
 have f11 := g1_1.stp (S3.tr S7) rfl rfl
 have f12 := g2.stp (S3.tr S7) rfl rfl
 refine WO.call rfl rfl rfl rfl rfl rfl Try.call154 (i_canRun_ok (κ := fun b => mp [] 0 (K6 b)) (p0 := p0) (p1 := p1) (Sl.map f10 (mp [] 0) rfl rfl) (Sl.map f11 (mp [] 0) rfl rfl) (Sl.map f12 (mp [] 0) rfl rfl) hx14) ?_
 rintro _ w13 ⟨k14, rfl, e15⟩
 obtain ⟨K16, S17, m18⟩ := Ent.mixed (l := []) (κ := K6) e15 4 rfl
 refine ⟨trivial, ?_⟩
 refine WO.pn 1 rfl ?_
 refine WO.fin ?_
 refine DN.seq ?_
 revert h
 cases ht20 : (!x14) with
 | true =>
  intro h; replace h := cT h
  refine WC.ct rfl ?_
  refine WC.seq ?_
  refine WC.rs [(0, 2)] rfl ?_
  refine WO.pn 1 rfl ?_
  refine WO.fin ?_
  refine DN.seq ?_
  refine WC.ret ?_
  refine DN.retThen ?_
  have f21 := hE.stp (S3.tr (S7.tr S17)) rfl rfl
  refine DN.res (l := [.tmp 6]) Try.results79 (res_tmp rfl rfl) rfl ?_
  obtain rfl := Option.some.inj h
  exact ⟨K16, none, 0, rfl, f21, Ow.nil⟩
 | false =>
  intro h; replace h := cF h
  refine WC.cf rfl ?_
  refine WC.skip ?_
  refine DN.seq ?_
  refine WC.seq ?_
  refine WC.rs [(0, 1), (1, 2)] rfl ?_
  refine WO.bl0 (κ := K16) (E := (Ep.int .i64)) 6 rfl rfl rfl rfl rfl Try.underlying22 Tryinfo2 rfl fun a16 u16 w22 K23 S24 f25 => ⟨trivial, ?_⟩
  refine WO.pn 1 rfl ?_
  refine WO.fin ?_
  refine DN.seq ?_
  refine WC.seq ?_
  refine WC.rs [(0, 2)] rfl ?_
  refine WO.pn 1 rfl ?_
  refine WO.fin ?_
  refine DN.seq ?_
  refine WC.seq ?_
  refine WC.seq ?_
  refine WC.rs [(0, 2), (1, 2), (2, 2)] rfl ?_
  refine WO.pn 1 rfl ?_
  refine WO.k2 rfl rfl rfl rfl (rn_len Try.runUnderlying22 rfl rfl) ?_
  refine WO.pn 1 rfl ?_
  refine WO.fin ?_
  refine DN.seq ?_
  have hN26 : (p2.length : Int) ≤ 9223372036854775807 := f12.len_le
  obtain ⟨q2, hq28, hK27⟩ := Option.bind_eq_some_iff.mp h
  clear h
  refine WC.meet (fun L w' => ∃ (κ' : Col) (s3 : (List Int) × Int) (las3_0 : Option Addr) (lus3_0 : Nat), L = [(7, .slice las3_0 s3.1.length lus3_0)] ∧ Stp [6] K23 w22 κ' w' ∧ Oc (Ep.int .i64) 2 κ' w' 6 las3_0 lus3_0 s3.1 ∧ q2 = Sum.inr s3) ?_ ?_
  ·
   refine WC.block ?_
   refine WC.loop (fun k L w' => ∃ (κ' : Col) (v19 : Int) (s1 : (List Int) × Int) (las1_0 : Option Addr) (lus1_0 : Nat), L = [(4, .pointer (some ⟨b4, 0, none⟩)), (7, .slice las1_0 s1.1.length lus1_0), (8, .int .i64 s1.2), (17, .slice a2 p2.length u2), (18, .int .i64 (p2.length : Int)), (19, .int .i64 v19)] ∧ Stp [6] K23 w22 κ' w' ∧ Oc (Ep.int .i64) 2 κ' w' 6 las1_0 lus1_0 s1.1 ∧ 0 ≤ v19 ∧ Int.toNat ((p2.length : Int) - v19) = k ∧ cntM (i_OutputsFor_b0 p1 p2) k v19 s1 = some q2) ⟨_, _, ⟨K23, 0, ((([] : List Int) : (List Int)), (0 : Int)), a16, u16, rfl, (Stp.refl _ _).wk rfl, f25, (by decide), (by simp), hq28⟩, fun a ha => (ha.more (ha.more (ha.more (ha.more (ha.more (ha.more ha.nil rfl) rfl) rfl) rfl) rfl) rfl)⟩ ?_
   rintro k _ w33 ⟨K34, v19, s1, las1_0, lus1_0, rfl, S35, f36, hj26, hJ26, h⟩
   rcases k with _ | k
   ·
    have hk37 := h; obtain ⟨o26, h⟩ := ex_eq (Sum.inr (Sum.inl s1) : (List Int) ⊕ (((List Int) × Int) ⊕ ((List Int) × Int)))
    have hc26 : decide (v19 < (p2.length : Int)) = false := decide_eq_false (by omega)
    refine WC.seq ?_
    refine WC.rs [(0, 2)] rfl ?_
    refine WO.pn 1 rfl ?_
    refine WO.fin ?_
    refine DN.seq ?_
    refine WC.seq ?_
    refine WC.cf' rfl hc26 ?_
    refine WC.exit ?_
    refine DN.exitThen ?_
    refine DN.exitThen ?_
    obtain rfl := Option.some.inj h
    have h := hk37
    refine DN.hit ?_
    obtain rfl := Option.some.inj h
    exact DN.meet _ ⟨K34, ((s1.1 : (List Int)), (s1.2 : Int)), las1_0, lus1_0, rfl, S35.wk rfl, f36, rfl⟩ fun a ha => (ha.more ha.nil rfl)
   ·
    obtain ⟨o26, h, hk37⟩ := Option.bind_eq_some_iff.mp h; unfold i_OutputsFor_b0 at h
    have hc26 : decide (v19 < (p2.length : Int)) = true := decide_eq_true (by omega)
    refine WC.seq ?_
    refine WC.rs [(0, 2)] rfl ?_
    refine WO.pn 1 rfl ?_
    refine WO.fin ?_
    refine DN.seq ?_
    refine WC.seq ?_
    refine WC.ct' rfl hc26 ?_
    refine WC.skip ?_
    refine DN.seq ?_
    refine WC.seq ?_
    refine WC.block ?_
    refine WC.seq ?_
    refine WC.rs [(0, 2), (1, 1), (2, 2)] rfl ?_
    obtain ⟨x21, hx21, h⟩ := Option.bind_eq_some_iff.mp h
    refine WO.k2 rfl rfl rfl rfl (rn_index f12 hx21 Try.runUnderlying22 Try.sizeOf2 rfl rfl rfl rfl) ?_
    have f38 := f12.stp (S17.tr (S24.tr S35)) rfl rfl
    refine WO.k1 trivial rfl rfl rfl rfl (rn_ld Try.isAgg2 rfl rfl (hvE (f38.gInt hx21))) ?_
    refine WO.pn 1 rfl ?_
    refine WO.fin ?_
    refine DN.seq ?_
    refine WC.seq ?_
    refine WC.rs [(0, 2), (1, 2), (2, 1), (3, 2), (4, 2), (5, 1), (6, 2), (7, 2), (8, 1), (9, 1), (10, 1), (11, 2)] rfl ?_
    refine WO.pn 1 rfl ?_
    refine WO.k2 rfl rfl rfl rfl (rn_fieldAddr Try.runUnderlying50 rfl Try.sizeOf23 rfl rfl) ?_
    have f39 := f8.stp (S17.tr (S24.tr S35)) rfl rfl
    refine WO.k1 trivial rfl rfl rfl rfl (rn_ld Try.isAgg23 rfl rfl (hvE (f39.ld 1 rfl rfl))) ?_
    refine WO.pn 1 rfl ?_
    obtain ⟨x27, hx27, h⟩ := Option.bind_eq_some_iff.mp h
    refine WO.k2 rfl rfl rfl rfl (rn_index f11 hx27 Try.runUnderlying23 Try.sizeOf22 rfl rfl rfl rfl) ?_
    have f40 := f11.stp (S17.tr (S24.tr S35)) rfl rfl
    obtain ⟨ax27, ux27, f41, hl42⟩ := f40.gSl hx27
    refine WO.k1 trivial rfl rfl rfl rfl (rn_ld Try.isAgg22 rfl rfl (hvE hl42)) ?_
    refine WO.pn 1 rfl ?_
    obtain ⟨x30, hx30, h⟩ := Option.bind_eq_some_iff.mp h
    refine WO.k2 rfl rfl rfl rfl (rn_index f41 hx30 Try.runUnderlying22 Try.sizeOf2 rfl rfl rfl rfl) ?_
    refine WO.k1 trivial rfl rfl rfl rfl (rn_ld Try.isAgg2 rfl rfl (hvE (f41.gInt hx30))) ?_
    refine WO.bl (κ := K34) (E := (Ep.int .i64)) 7 [] (parts := [(0, .tmp 31)]) (cells := [.int .i64 x30]) (xs := ([x30] : List Int)) rfl rfl rfl rfl rfl rfl Try.underlying22 Tryinfo2 rfl rfl rfl rfl rfl rfl rfl rfl rfl rfl ⟨[.int .i64 x30], [], Zl K34 w33 [], Zl K34 w33 [], rfl, Zl.sp (l1 := []) (l2 := []) rfl, Zl.sr (l1 := []) (l2 := []), rfl, rfl⟩ fun a32 u32 w43 K44 S45 f46 => ⟨trivial, ?_⟩
    obtain ⟨x33, hx33, h⟩ := Option.bind_eq_some_iff.mp h
    have f47 := f36.stp S45 rfl rfl
    refine WO.app (κ := K44) (E := (Ep.int .i64)) 6 [] rfl rfl rfl rfl rfl rfl rfl rfl rfl Try.underlying22 Tryinfo2 rfl rfl rfl rfl f47 (Sl.srcP (pu_int _) f46.rdc) sy_false hx33 rfl fun a33 u33 w48 K49 S50 f51 => ⟨trivial, ?_⟩
    refine WO.pn 1 rfl ?_
    refine WO.fin ?_
    refine DN.seq ?_
    refine WC.rs [(0, 2), (1, 1), (2, 2), (3, 2), (4, 1), (5, 2), (6, 2), (7, 1), (8, 2)] rfl ?_
    refine WO.k2 rfl rfl rfl rfl (rn_fieldAddr Try.runUnderlying50 rfl Try.sizeOf23 rfl rfl) ?_
    have f52 := f39.stp (S45.tr S50) rfl rfl
    refine WO.k1 trivial rfl rfl rfl rfl (rn_ld Try.isAgg23 rfl rfl (hvE (f52.ld 0 rfl rfl))) ?_
    refine WO.pn 1 rfl ?_
    obtain ⟨x37, hx37, h⟩ := Option.bind_eq_some_iff.mp h
    refine WO.k2 rfl rfl rfl rfl (rn_index f10 hx37 Try.runUnderlying23 Try.sizeOf22 rfl rfl rfl rfl) ?_
    have f53 := f10.stp (S17.tr (S24.tr (S35.tr (S45.tr S50)))) rfl rfl
    obtain ⟨ax37, ux37, f54, hl55⟩ := f53.gSl hx37
    refine WO.k1 trivial rfl rfl rfl rfl (rn_ld Try.isAgg22 rfl rfl (hvE hl55)) ?_
    refine WO.pn 1 rfl ?_
    obtain ⟨x40, hx40, h⟩ := Option.bind_eq_some_iff.mp h
    refine WO.k2 rfl rfl rfl rfl (rn_index f54 hx40 Try.runUnderlying22 Try.sizeOf2 rfl rfl rfl rfl) ?_
    refine WO.k1 trivial rfl rfl rfl rfl (rn_ld Try.isAgg2 rfl rfl (hvE (f54.gInt hx40))) ?_
    refine WO.pn 1 rfl ?_
    refine WO.fin ?_
    refine DN.block ?_
    refine DN.seq ?_
    refine WC.rs [(0, 2), (1, 2)] rfl ?_
    refine WO.pn 2 rfl ?_
    refine WO.fin ?_
    have hw26 : IntKind.wrap .i64 (v19 + 1) = v19 + 1 := wr1 hj26 (of_decide_eq_true hc26) hN26
    rw [hw26]
    have hc26 := of_decide_eq_true hc26
    obtain rfl := Option.some.inj h
    refine DN.round fun a ha => ?_
    exact ⟨k, _, Nat.lt_succ_self _, ⟨K49, v19 + 1, ((x33 : (List Int)), (x40 : Int)), a33, u33, rfl, (S35.tr (S45.tr S50)).wk rfl, f51, by omega, by omega, hk37⟩, (ha.more (ha.more (ha.more (ha.more (ha.more (ha.more ha.nil rfl) rfl) rfl) rfl) rfl) rfl)⟩
  rintro _ w29 ⟨K30, s3, las3_0, lus3_0, rfl, S31, f32, rfl⟩
  have h := hK27
  dsimp only [aft] at h
  refine DN.seq ?_
  refine WC.seq ?_
  refine WC.rs [(0, 2), (1, 2)] rfl ?_
  refine WO.pn 2 rfl ?_
  refine WO.fin ?_
  refine DN.seq ?_
  refine WC.ret ?_
  have f56 := hE.stp (S3.tr (S7.tr (S17.tr (S24.tr S31)))) rfl rfl
  refine DN.res (l := [.tmp 6]) Try.results79 (res_tmp rfl rfl) rfl ?_
  obtain rfl := Option.some.inj h
  exact ⟨(fun b => ren [(6, 2)] (K30 b)), las3_0, lus3_0, rfl, (f56.map (ren [(6, 2)]) rfl rfl), (f32.map (ren [(6, 2)]) rfl rfl)⟩

/- loop.example/g00869/impl.SameMachine -/
theorem i_SameMachine_ok {w : World} {κ : Col} {p0 : Sig} {a1_0 : Option Addr} {u1_0 : Nat} {a1_1 : Option Addr} {u1_1 : Nat} {p1 : Machine} {a2_0 : Option Addr} {u2_0 : Nat} {a2_1 : Option Addr} {u2_1 : Nat} {p2 : Machine} (g1_0 : Rd (Rp.sl (Rp.int .i64)) κ w 0 a1_0 u1_0 p1.Next) (g1_1 : Rd (Rp.sl (Rp.int .i64)) κ w 0 a1_1 u1_1 p1.Out) (g2_0 : Rd (Rp.sl (Rp.int .i64)) κ w 0 a2_0 u2_0 p2.Next) (g2_1 : Rd (Rp.sl (Rp.int .i64)) κ w 0 a2_1 u2_1 p2.Out) {r : Bool} (h : i_SameMachine p0 p1 p2 = some r) : Ret Try.prog 81 [.agg #[.int .i64 p0.In, .int .i64 p0.Out], .agg #[.slice a1_0 p1.Next.length u1_0, .slice a1_1 p1.Out.length u1_1], .agg #[.slice a2_0 p2.Next.length u2_0, .slice a2_1 p2.Out.length u2_1]] w (fun v w' => ∃ (κ' : Col), v = .bool r ∧ Ent κ w κ' w') := by
 unfold i_SameMachine at h
 refine Ret.enter Try.func81 rfl Try.ntmps81 rfl ?_
 dsimp only [envOf]
 have hE := Ent.refl κ w
 refine WC.seq ?_
 refine WC.rs [(0, 1), (1, 1), (2, 1), (3, 2)] rfl ?_
 refine WO.box (κ := κ) 2 rfl rfl rfl rfl rfl rfl rfl fun b3 w1 K2 S3 f4 => ⟨trivial, ?_⟩
 refine WO.box (κ := K2) 3 rfl rfl rfl rfl rfl rfl rfl fun b4 w5 K6 S7 f8 => ⟨trivial, ?_⟩
 refine WO.box (κ := K6) 4 rfl rfl rfl rfl rfl rfl rfl fun b5 w9 K10 S11 f12 => ⟨trivial, ?_⟩
 refine WO.pn 1 rfl ?_
 refine WO.fin ?_
 refine DN.seq ?_
 refine WC.seq ?_
 refine WC.seq ?_
 refine WC.rs [(0, 1), (1, 1), (2, 2), (3, 2), (4, 1), (5, 1), (6, 1), (7, 2), (8, 2), (9, 2), (10, 1), (11, 1), (12, 1), (13, 2), (14, 2)] rfl ?_
 have f13 := f4.stp (S7.tr S11) rfl rfl
 refine WO.k1 trivial rfl rfl rfl rfl (rn_la (cs := [.int .i64 p0.In, .int .i64 p0.Out]) Try.isAgg53 Try.sizeOf53 rfl rfl rfl (haE f13.cells)) ?_
 obtain ⟨x14, hx14, h⟩ := Option.bind_eq_some_iff.mp h
 refine WO.call rfl rfl rfl rfl rfl rfl Try.call104 (i_isSig_ok (κ := fun b => mp [] 0 (K10 b)) (p0 := p0) hx14) ?_
 rintro _ w14 ⟨k15, rfl, e16⟩
 obtain ⟨K17, S18, m19⟩ := Ent.mixed (l := []) (κ := K10) e16 5 rfl
 refine ⟨trivial, ?_⟩
 refine WO.pn 2 rfl ?_
 obtain ⟨p21, h, hK21⟩ := Option.bind_eq_some_iff.mp h
 refine WO.meet [(4, 1), (5, 1), (6, 1), (7, 2), (8, 2)] [(9, 2), (10, 1), (11, 1), (12, 1), (13, 2), (14, 2)] (fun L w' => L = [(3, .pointer (some ⟨b3, 0, none⟩)), (4, .pointer (some ⟨b4, 0, none⟩)), (5, .pointer (some ⟨b5, 0, none⟩)), (21, .bool p21)] ∧ ∃ κ', Stp [] K17 w14 κ' w') trivial ?_ ?_
 ·
  revert h
  cases ht22 : (!x14) with
  | true =>
   intro h; replace h := cT h
   refine WO.ls rfl rfl rfl rfl ?_
   refine WO.ls rfl rfl rfl rfl ?_
   refine WO.ls rfl rfl rfl rfl ?_
   refine WO.pn 2 rfl ?_
   obtain rfl := Option.some.inj h
   exact WO.met _ trivial ⟨rfl, _, (Stp.refl _ _).wk rfl⟩ fun a ha => (ha.more (ha.more (ha.more (ha.more ha.nil rfl) rfl) rfl) rfl)
  | false =>
   intro h; replace h := cF h
   have f23 := f13.stp S18 rfl rfl
   refine WO.k1 trivial rfl rfl rfl rfl (rn_la (cs := [.int .i64 p0.In, .int .i64 p0.Out]) Try.isAgg53 Try.sizeOf53 rfl rfl rfl (haE f23.cells)) ?_
   have f24 := f8.stp (S11.tr S18) rfl rfl
   refine WO.k1 trivial rfl rfl rfl rfl (rn_la (cs := [.slice a1_0 p1.Next.length u1_0, .slice a1_1 p1.Out.length u1_1]) Try.isAgg50 Try.sizeOf50 rfl rfl rfl (haE f24.cells)) ?_
   obtain ⟨x19, hx19, h⟩ := Option.bind_eq_some_iff.mp h
   have f25 := g1_0.stp (S3.tr (S7.tr (S11.tr S18))) rfl rfl
   have f26 := g1_1.stp (S3.tr (S7.tr (S11.tr S18))) rfl rfl
   refine WO.call rfl rfl rfl rfl rfl rfl Try.call113 (i_isMachine_ok (κ := fun b => mp [] 0 (K17 b)) (p0 := p0) (p1 := p1) (Sl.map f25 (mp [] 0) rfl rfl) (Sl.map f26 (mp [] 0) rfl rfl) hx19) ?_
   rintro _ w27 ⟨k28, rfl, e29⟩
   obtain ⟨K30, S31, m32⟩ := Ent.mixed (l := []) (κ := K17) e29 7 rfl
   refine ⟨trivial, ?_⟩
   refine WO.pn 2 rfl ?_
   obtain rfl := Option.some.inj h
   exact WO.met _ trivial ⟨rfl, _, S31.wk rfl⟩ fun a ha => (ha.more (ha.more (ha.more (ha.more ha.nil rfl) rfl) rfl) rfl)
 rintro _ w34 _ ⟨rfl, K35, S36⟩
 have h := hK21
 refine WO.pn 1 rfl ?_
 obtain ⟨p27, h, hK37⟩ := Option.bind_eq_some_iff.mp h
 refine WO.meet [(10, 1), (11, 1), (12, 1), (13, 2), (14, 2)] [] (fun L w' => L = [(4, .pointer (some ⟨b4, 0, none⟩)), (5, .pointer (some ⟨b5, 0, none⟩)), (27, .bool p27)] ∧ ∃ κ', Stp [] K35 w34 κ' w') trivial ?_ ?_
 ·
  revert h
  cases ht38 : p21 with
  | true =>
   intro h; replace h := cT h
   refine WO.ls rfl rfl rfl rfl ?_
   refine WO.ls rfl rfl rfl rfl ?_
   refine WO.ls rfl rfl rfl rfl ?_
   refine WO.pn 2 rfl ?_
   obtain rfl := Option.some.inj h
   exact WO.met _ trivial ⟨rfl, _, (Stp.refl _ _).wk rfl⟩ fun a ha => (ha.more (ha.more (ha.more ha.nil rfl) rfl) rfl)
  | false =>
   intro h; replace h := cF h
   have f39 := f13.stp (S18.tr S36) rfl rfl
   refine WO.k1 trivial rfl rfl rfl rfl (rn_la (cs := [.int .i64 p0.In, .int .i64 p0.Out]) Try.isAgg53 Try.sizeOf53 rfl rfl rfl (haE f39.cells)) ?_
   have f40 := f12.stp (S18.tr S36) rfl rfl
   refine WO.k1 trivial rfl rfl rfl rfl (rn_la (cs := [.slice a2_0 p2.Next.length u2_0, .slice a2_1 p2.Out.length u2_1]) Try.isAgg50 Try.sizeOf50 rfl rfl rfl (haE f40.cells)) ?_
   obtain ⟨x25, hx25, h⟩ := Option.bind_eq_some_iff.mp h
   have f41 := g2_0.stp (S3.tr (S7.tr (S11.tr (S18.tr S36)))) rfl rfl
   have f42 := g2_1.stp (S3.tr (S7.tr (S11.tr (S18.tr S36)))) rfl rfl
   refine WO.call rfl rfl rfl rfl rfl rfl Try.call113 (i_isMachine_ok (κ := fun b => mp [] 0 (K35 b)) (p0 := p0) (p1 := p2) (Sl.map f41 (mp [] 0) rfl rfl) (Sl.map f42 (mp [] 0) rfl rfl) hx25) ?_
   rintro _ w43 ⟨k44, rfl, e45⟩
   obtain ⟨K46, S47, m48⟩ := Ent.mixed (l := []) (κ := K35) e45 7 rfl
   refine ⟨trivial, ?_⟩
   refine WO.pn 2 rfl ?_
   obtain rfl := Option.some.inj h
   exact WO.met _ trivial ⟨rfl, _, S47.wk rfl⟩ fun a ha => (ha.more (ha.more (ha.more ha.nil rfl) rfl) rfl)
 rintro _ w50 _ ⟨rfl, K51, S52⟩
 have h := hK37
 refine WO.fin ?_
 refine DN.seq ?_
 revert h
 cases ht53 : p27 with
 | true =>
  intro h; replace h := cT h
  refine WC.ct rfl ?_
  refine WC.seq ?_
  refine WC.rs [(0, 2)] rfl ?_
  refine WO.pn 1 rfl ?_
  refine WO.fin ?_
  refine DN.seq ?_
  refine WC.ret ?_
  refine DN.retThen ?_
  have f54 := hE.stp (S3.tr (S7.tr (S11.tr (S18.tr (S36.tr S52))))) rfl rfl
  refine DN.res (l := [.tmp 6]) Try.results81 (res_tmp rfl rfl) rfl ?_
  obtain rfl := Option.some.inj h
  exact ⟨K51, rfl, f54⟩
 | false =>
  intro h; replace h := cF h
  refine WC.cf rfl ?_
  refine WC.skip ?_
  refine DN.seq ?_
  refine WC.seq ?_
  refine WC.rs [(0, 2), (1, 1), (2, 2)] rfl ?_
  refine WO.k2 rfl rfl rfl rfl (rn_build (parts := [(0, .const (.int .i64 0)), (1, .const (.int .i64 0))]) (cells := [.int .i64 0, .int .i64 0]) rfl rfl (by kernel_rfl)) ?_
  refine WO.bl (κ := K51) (E := (Ep.pair (Ep.int .i64) (Ep.int .i64))) 7 [] (parts := [(0, .tmp 28)]) (cells := [.int .i64 0, .int .i64 0]) (xs := ([(0, 0)] : List (Int × Int))) rfl rfl rfl rfl rfl rfl Try.underlying153 Tryinfo152 rfl rfl rfl rfl rfl rfl rfl rfl rfl rfl ⟨[.int .i64 0, .int .i64 0], [], Zl K51 w50 [], Zl K51 w50 [], rfl, Zl.sp (l1 := []) (l2 := []) rfl, Zl.sr (l1 := []) (l2 := []), ⟨[.int .i64 0], [.int .i64 0], Zl K51 w50 [], Zl K51 w50 [], rfl, Zl.sp (l1 := []) (l2 := []) rfl, Zl.sr (l1 := []) (l2 := []), rfl, rfl⟩, rfl⟩ fun a29 u29 w55 K56 S57 f58 => ⟨trivial, ?_⟩
  refine WO.pn 1 rfl ?_
  refine WO.fin ?_
  refine DN.seq ?_
  refine WC.seq ?_
  refine WC.seq ?_
  refine WC.rs [(0, 2)] rfl ?_
  refine WO.pn 1 rfl ?_
  refine WO.fin ?_
  refine DN.seq ?_
  obtain ⟨q2, hq61, hK60⟩ := Option.bind_eq_some_iff.mp h
  clear h
  refine WC.meet (fun L w' => ∃ (κ' : Col) (s3 : (List (Int × Int)) × Int) (las3_0 : Option Addr) (lus3_0 : Nat), L = [] ∧ Stp [7, 10] K56 w55 κ' w' ∧ Oc (Ep.pair (Ep.int .i64) (Ep.int .i64)) 152 κ' w' 7 las3_0 lus3_0 s3.1 ∧ q2 = Sum.inr s3) ?_ ?_
  ·
   refine WC.block ?_
   refine WC.loop (fun k L w' => ∃ (κ' : Col) (s1 : (List (Int × Int)) × Int) (las1_0 : Option Addr) (lus1_0 : Nat), L = [(4, .pointer (some ⟨b4, 0, none⟩)), (5, .pointer (some ⟨b5, 0, none⟩)), (7, .slice las1_0 s1.1.length lus1_0), (8, .int .i64 s1.2)] ∧ Stp [7, 10] K56 w55 κ' w' ∧ Oc (Ep.pair (Ep.int .i64) (Ep.int .i64)) 152 κ' w' 7 las1_0 lus1_0 s1.1 ∧ whileM (i_SameMachine_b0 p1 p2) k s1 = some q2) ⟨_, _, ⟨K56, ((([(0, 0)] : List (Int × Int)) : (List (Int × Int))), (0 : Int)), a29, u29, rfl, (Stp.refl _ _).wk rfl, f58, hq61⟩, fun a ha => (ha.more (ha.more (ha.more (ha.more ha.nil rfl) rfl) rfl) rfl)⟩ ?_
   rintro k _ w66 ⟨K67, s1, las1_0, lus1_0, rfl, S68, f69, h⟩
   rcases k with _ | k
   ·
    cases h
   ·
    obtain ⟨o59, h, hk70⟩ := Option.bind_eq_some_iff.mp h; unfold i_SameMachine_b0 at h
    refine WC.seq ?_
    refine WC.seq ?_
    refine WC.rs [(0, 2), (1, 2), (2, 2), (3, 2)] rfl ?_
    refine WO.pn 2 rfl ?_
    refine WO.k2 rfl rfl rfl rfl (rn_len Try.runUnderlying153 rfl rfl) ?_
    refine WO.pn 1 rfl ?_
    refine WO.fin ?_
    refine DN.seq ?_
    revert h
    cases ht71 : decide (s1.2 < (s1.1.length : Int)) with
    | true =>
     intro h; replace h := cT h
     refine WC.ct rfl ?_
     refine WC.skip ?_
     refine DN.seq ?_
     refine WC.seq ?_
     refine WC.block ?_
     refine WC.seq ?_
     refine WC.rx (κ := K67) [0, 7] none [(0, 2), (1, 2), (2, 2), (3, 2), (5, 2), (6, 2), (7, 2), (8, 2), (4, 0), (10, 2), (9, 0), (11, 2)] [] (by kernel_rfl) (by kernel_rfl) fun w73 S72 => ?_
     refine WO.pn 2 rfl ?_
     obtain ⟨x38, hx38, h⟩ := Option.bind_eq_some_iff.mp h
     refine WO.k2 rfl rfl rfl rfl (rn_index f69.rdc hx38 Try.runUnderlying153 Try.sizeOf152 rfl rfl rfl rfl) ?_
     refine WO.k2 rfl rfl rfl rfl (rn_indexA Try.runUnderlying152 Try.sizeOf2 rfl rfl rfl rfl) ?_
     refine WO.pn 2 rfl ?_
     obtain ⟨x43, hx43, h⟩ := Option.bind_eq_some_iff.mp h
     refine WO.k2 rfl rfl rfl rfl (rn_index f69.rdc hx43 Try.runUnderlying153 Try.sizeOf152 rfl rfl rfl rfl) ?_
     refine WO.k2 rfl rfl rfl rfl (rn_indexA Try.runUnderlying152 Try.sizeOf2 rfl rfl rfl rfl) ?_
     have f74 := f69.stp S72 rfl rfl
     obtain ⟨cse75, hre75, hle75⟩ := (f74.rdc).gSt hx38
     obtain ⟨_, _, rfl, rfl, rfl⟩ := hre75
     refine WO.k0 rfl rfl rfl rfl (rn_ld Try.isAgg2 rfl rfl (hvC (fun w' hw' => hle75 w' hw' 0 _ rfl) rfl)) ?_
     refine WO.pn 1 rfl ?_
     obtain ⟨cse76, hre76, hle76⟩ := (f74.rdc).gSt hx43
     obtain ⟨_, _, rfl, rfl, rfl⟩ := hre76
     refine WO.k0 rfl rfl rfl rfl (rn_ld Try.isAgg2 rfl rfl (hvC (fun w' hw' => hle76 w' hw' 1 _ rfl) rfl)) ?_
     refine WO.pn 1 rfl ?_
     refine WO.nx ?_
     refine WO.fin ?_
     refine DN.seq ?_
     refine WC.seq ?_
     refine WC.seq ?_
     refine WC.rx (κ := K67) [0, 3, 4] none [(0, 2), (2, 2), (5, 2), (7, 2), (1, 0), (3, 2), (4, 0), (6, 0), (8, 2), (9, 0), (10, 1), (11, 2)] [] (by kernel_rfl) (by kernel_rfl) fun w78 S77 => ?_
     refine WO.k2 rfl rfl rfl rfl (rn_fieldAddr Try.runUnderlying50 rfl Try.sizeOf23 rfl rfl) ?_
     refine WO.pn 1 rfl ?_
     refine WO.k2 rfl rfl rfl rfl (rn_fieldAddr Try.runUnderlying50 rfl Try.sizeOf23 rfl rfl) ?_
     refine WO.pn 1 rfl ?_
     have f79 := f8.stp (S11.tr (S18.tr (S36.tr (S52.tr (S57.tr (S68.tr (S72.tr S77))))))) rfl rfl
     refine WO.k0 rfl rfl rfl rfl (rn_ld Try.isAgg23 rfl rfl (hvC (f79.ld 1 rfl rfl) rfl)) ?_
     obtain ⟨x49, hx49, h⟩ := Option.bind_eq_some_iff.mp h
     refine WO.k2 rfl rfl rfl rfl (rn_index g1_1 hx49 Try.runUnderlying23 Try.sizeOf22 rfl rfl rfl rfl) ?_
     have f80 := g1_1.stp (S3.tr (S7.tr (S11.tr (S18.tr (S36.tr (S52.tr (S57.tr (S68.tr (S72.tr S77))))))))) rfl rfl
     obtain ⟨ax49, ux49, f81, hl82⟩ := f80.gSl hx49
     refine WO.k0 rfl rfl rfl rfl (rn_ld Try.isAgg22 rfl rfl (hvC hl82 rfl)) ?_
     have f83 := f12.stp (S18.tr (S36.tr (S52.tr (S57.tr (S68.tr (S72.tr S77)))))) rfl rfl
     refine WO.k0 rfl rfl rfl rfl (rn_ld Try.isAgg23 rfl rfl (hvC (f83.ld 1 rfl rfl) rfl)) ?_
     obtain ⟨x54, hx54, h⟩ := Option.bind_eq_some_iff.mp h
     refine WO.k2 rfl rfl rfl rfl (rn_index g2_1 hx54 Try.runUnderlying23 Try.sizeOf22 rfl rfl rfl rfl) ?_
     have f84 := g2_1.stp (S3.tr (S7.tr (S11.tr (S18.tr (S36.tr (S52.tr (S57.tr (S68.tr (S72.tr S77))))))))) rfl rfl
     obtain ⟨ax54, ux54, f85, hl86⟩ := f84.gSl hx54
     refine WO.k0 rfl rfl rfl rfl (rn_ld Try.isAgg22 rfl rfl (hvC hl86 rfl)) ?_
     obtain ⟨x56, hx56, h⟩ := Option.bind_eq_some_iff.mp h
     refine WO.call rfl rfl rfl rfl rfl rfl Try.call157 (slices_Equal_I_int64_ok (κ := fun b => mp [] 0 (K67 b)) (Sl.map f81 (mp [] 0) rfl rfl) (Sl.map f85 (mp [] 0) rfl rfl) hx56) ?_
     rintro _ w87 ⟨k88, rfl, e89⟩
     obtain ⟨K90, S91, m92⟩ := Ent.mixed (l := []) (κ := K67) e89 8 rfl
     refine ⟨(S91.cl rfl), ?_⟩
     refine WO.pn 1 rfl ?_
     refine WO.nx ?_
     refine WO.fin ?_
     refine DN.seq ?_
     revert h
     cases ht94 : (!x56) with
     | true =>
      intro h; replace h := cT h
      refine WC.ct rfl ?_
      refine WC.seq ?_
      refine WC.rs [(0, 2)] rfl ?_
      refine WO.pn 1 rfl ?_
      refine WO.fin ?_
      refine DN.seq ?_
      refine WC.ret ?_
      refine DN.retThen ?_
      refine DN.retBlock ?_
      refine DN.retThen ?_
      refine DN.retThen ?_
      obtain rfl := Option.some.inj h
      obtain rfl := Option.some.inj hk70
      have h := hK60
      dsimp only [aft] at h
      refine DN.retBlock ?_
      refine DN.retMeet ?_
      refine DN.retThen ?_
      have f95 := hE.stp (S3.tr (S7.tr (S11.tr (S18.tr (S36.tr (S52.tr (S57.tr (S68.tr (S72.tr (S77.tr S91)))))))))) rfl rfl
      refine DN.res (l := [.tmp 6]) Try.results81 (res_tmp rfl rfl) rfl ?_
      obtain rfl := Option.some.inj h
      exact ⟨K90, rfl, f95⟩
     | false =>
      intro h; replace h := cF h
      refine WC.cf rfl ?_
      refine WC.skip ?_
      refine DN.seq ?_
      refine WC.seq ?_
      refine WC.rs [(0, 2), (1, 1), (2, 2), (3, 2), (4, 1), (5, 2), (6, 2)] rfl ?_
      refine WO.k2 rfl rfl rfl rfl (rn_fieldAddr Try.runUnderlying50 rfl Try.sizeOf23 rfl rfl) ?_
      have f96 := f79.stp S91 rfl rfl
      refine WO.k1 trivial rfl rfl rfl rfl (rn_ld Try.isAgg23 rfl rfl (hvE (f96.ld 0 rfl rfl))) ?_
      refine WO.pn 1 rfl ?_
      obtain ⟨x61, hx61, h⟩ := Option.bind_eq_some_iff.mp h
      refine WO.k2 rfl rfl rfl rfl (rn_index g1_0 hx61 Try.runUnderlying23 Try.sizeOf22 rfl rfl rfl rfl) ?_
      have f97 := g1_0.stp (S3.tr (S7.tr (S11.tr (S18.tr (S36.tr (S52.tr (S57.tr (S68.tr (S72.tr (S77.tr S91)))))))))) rfl rfl
      obtain ⟨ax61, ux61, f98, hl99⟩ := f97.gSl hx61
      refine WO.k1 trivial rfl rfl rfl rfl (rn_ld Try.isAgg22 rfl rfl (hvE hl99)) ?_
      refine WO.k2 rfl rfl rfl rfl (rn_len Try.runUnderlying22 rfl rfl) ?_
      refine WO.pn 1 rfl ?_
      refine WO.fin ?_
      refine DN.seq ?_
      have hN100 : (x61.length : Int) ≤ 9223372036854775807 := f98.len_le
      obtain ⟨q5, hq102, hK101⟩ := Option.bind_eq_some_iff.mp h
      clear h
      refine WC.meet (fun L w' => ∃ (κ' : Col) (s6 : (List (Int × Int))) (las6_0 : Option Addr) (lus6_0 : Nat), L = [(4, .pointer (some ⟨b4, 0, none⟩)), (5, .pointer (some ⟨b5, 0, none⟩)), (7, .slice las6_0 s6.length lus6_0), (8, .int .i64 s1.2)] ∧ Stp [7, 10] K90 w87 κ' w' ∧ Oc (Ep.pair (Ep.int .i64) (Ep.int .i64)) 152 κ' w' 7 las6_0 lus6_0 s6 ∧ q5 = Sum.inr s6) ?_ ?_
      ·
       refine WC.block ?_
       have f111 := f74.stp (S77.tr S91) rfl rfl
       refine WC.loop (fun k L w' => ∃ (κ' : Col) (v64 : Int) (s4 : (List (Int × Int))) (las4_0 : Option Addr) (lus4_0 : Nat), L = [(4, .pointer (some ⟨b4, 0, none⟩)), (5, .pointer (some ⟨b5, 0, none⟩)), (7, .slice las4_0 s4.length lus4_0), (8, .int .i64 s1.2), (9, .int .i64 x38.1), (10, .int .i64 x43.2), (63, .int .i64 (x61.length : Int)), (64, .int .i64 v64)] ∧ Stp [7, 10] K90 w87 κ' w' ∧ Oc (Ep.pair (Ep.int .i64) (Ep.int .i64)) 152 κ' w' 7 las4_0 lus4_0 s4 ∧ 0 ≤ v64 ∧ Int.toNat ((x61.length : Int) - v64) = k ∧ cntM (i_SameMachine_b2 p1 p2 x38 x43) k v64 s4 = some q5) ⟨_, _, ⟨K90, 0, (s1.1 : (List (Int × Int))), las1_0, lus1_0, rfl, (Stp.refl _ _).wk rfl, f111, (by decide), (by simp), hq102⟩, fun a ha => (ha.more (ha.more (ha.more (ha.more (ha.more (ha.more (ha.more (ha.more ha.nil rfl) rfl) rfl) rfl) rfl) rfl) rfl) rfl)⟩ ?_
       rintro k _ w107 ⟨K108, v64, s4, las4_0, lus4_0, rfl, S109, f110, hj100, hJ100, h⟩
       rcases k with _ | k
       ·
        have hk112 := h; obtain ⟨o100, h⟩ := ex_eq (Sum.inr (Sum.inl s4) : Bool ⊕ (((List (Int × Int))) ⊕ ((List (Int × Int)))))
        have hc100 : decide (v64 < (x61.length : Int)) = false := decide_eq_false (by omega)
        refine WC.seq ?_
        refine WC.rs [(0, 2)] rfl ?_
        refine WO.pn 1 rfl ?_
        refine WO.fin ?_
        refine DN.seq ?_
        refine WC.seq ?_
        refine WC.cf' rfl hc100 ?_
        refine WC.exit ?_
        refine DN.exitThen ?_
        refine DN.exitThen ?_
        obtain rfl := Option.some.inj h
        have h := hk112
        refine DN.hit ?_
        obtain rfl := Option.some.inj h
        exact DN.meet _ ⟨K108, (s4 : (List (Int × Int))), las4_0, lus4_0, rfl, S109.wk rfl, f110, rfl⟩ fun a ha => (ha.more (ha.more (ha.more (ha.more ha.nil rfl) rfl) rfl) rfl)
       ·
        obtain ⟨o100, h, hk112⟩ := Option.bind_eq_some_iff.mp h; unfold i_SameMachine_b2 at h
        have hc100 : decide (v64 < (x61.length : Int)) = true := decide_eq_true (by omega)
        refine WC.seq ?_
        refine WC.rs [(0, 2)] rfl ?_
        refine WO.pn 1 rfl ?_
        refine WO.fin ?_
        refine DN.seq ?_
        refine WC.seq ?_
        refine WC.ct' rfl hc100 ?_
        refine WC.skip ?_
        refine DN.seq ?_
        refine WC.seq ?_
        refine WC.block ?_
        refine WC.seq ?_
        refine WC.rs [(0, 2), (1, 2)] rfl ?_
        refine WO.pn 2 rfl ?_
        refine WO.fin ?_
        refine DN.seq ?_
        refine WC.seq ?_
        refine WC.rx (κ := K108) [0, 3, 4] none [(0, 2), (2, 2), (5, 2), (8, 2), (10, 2), (13, 2), (1, 0), (3, 2), (4, 0), (6, 2), (7, 0), (9, 0), (11, 2), (12, 0), (14, 2), (15, 0), (16, 2), (17, 1), (18, 1)] [] (by kernel_rfl) (by kernel_rfl) fun w114 S113 => ?_
        refine WO.k2 rfl rfl rfl rfl (rn_fieldAddr Try.runUnderlying50 rfl Try.sizeOf23 rfl rfl) ?_
        refine WO.pn 2 rfl ?_
        refine WO.k2 rfl rfl rfl rfl (rn_fieldAddr Try.runUnderlying50 rfl Try.sizeOf23 rfl rfl) ?_
        refine WO.pn 2 rfl ?_
        have f115 := f96.stp (S109.tr S113) rfl rfl
        refine WO.k0 rfl rfl rfl rfl (rn_ld Try.isAgg23 rfl rfl (hvC (f115.ld 0 rfl rfl) rfl)) ?_
        obtain ⟨x70, hx70, h⟩ := Option.bind_eq_some_iff.mp h
        refine WO.k2 rfl rfl rfl rfl (rn_index f97 hx70 Try.runUnderlying23 Try.sizeOf22 rfl rfl rfl rfl) ?_
        have f116 := f97.stp (S109.tr S113) rfl rfl
        obtain ⟨ax70, ux70, f117, hl118⟩ := f116.gSl hx70
        refine WO.k0 rfl rfl rfl rfl (rn_ld Try.isAgg22 rfl rfl (hvC hl118 rfl)) ?_
        obtain ⟨x73, hx73, h⟩ := Option.bind_eq_some_iff.mp h
        refine WO.k2 rfl rfl rfl rfl (rn_index f117 hx73 Try.runUnderlying22 Try.sizeOf2 rfl rfl rfl rfl) ?_
        refine WO.k0 rfl rfl rfl rfl (rn_ld Try.isAgg2 rfl rfl (hvC (f117.gInt hx73) rfl)) ?_
        have f119 := f83.stp (S91.tr (S109.tr S113)) rfl rfl
        refine WO.k0 rfl rfl rfl rfl (rn_ld Try.isAgg23 rfl rfl (hvC (f119.ld 0 rfl rfl) rfl)) ?_
        obtain ⟨x78, hx78, h⟩ := Option.bind_eq_some_iff.mp h
        refine WO.k2 rfl rfl rfl rfl (rn_index g2_0 hx78 Try.runUnderlying23 Try.sizeOf22 rfl rfl rfl rfl) ?_
        have f120 := g2_0.stp (S3.tr (S7.tr (S11.tr (S18.tr (S36.tr (S52.tr (S57.tr (S68.tr (S72.tr (S77.tr (S91.tr (S109.tr S113)))))))))))) rfl rfl
        obtain ⟨ax78, ux78, f121, hl122⟩ := f120.gSl hx78
        refine WO.k0 rfl rfl rfl rfl (rn_ld Try.isAgg22 rfl rfl (hvC hl122 rfl)) ?_
        obtain ⟨x81, hx81, h⟩ := Option.bind_eq_some_iff.mp h
        refine WO.k2 rfl rfl rfl rfl (rn_index f121 hx81 Try.runUnderlying22 Try.sizeOf2 rfl rfl rfl rfl) ?_
        refine WO.k0 rfl rfl rfl rfl (rn_ld Try.isAgg2 rfl rfl (hvC (f121.gInt hx81) rfl)) ?_
        refine WO.k2 rfl rfl rfl rfl (rn_build (parts := [(0, .tmp 74), (1, .tmp 82)]) (cells := [.int .i64 x73, .int .i64 x81]) rfl rfl (by kernel_rfl)) ?_
        refine WO.alloc (κ := K108) 10 rfl rfl rfl rfl rfl Try.zeroValue152 rfl fun b12 w123 K124 S125 f126 => ⟨(S125.cl rfl), ?_⟩
        refine WO.stB0 (κ := K124) 10 (vc := [.int .i64 x73, .int .i64 x81]) rfl rfl rfl rfl rfl rfl rfl Try.sizeOf152 rfl rfl f126 rfl fun w127 S128 f129 => ⟨((S125.tr S128).cl rfl), ?_⟩
        refine WO.nx ?_
        refine WO.fin ?_
        refine DN.seq ?_
        refine WC.seq ?_
        refine WC.rs [(0, 2), (1, 1), (2, 1), (3, 2)] rfl ?_
        refine WO.pn 1 rfl ?_
        refine WO.k1 trivial rfl rfl rfl rfl (rn_la (cs := [.int .i64 x73, .int .i64 x81]) Try.isAgg152 Try.sizeOf152 rfl rfl rfl (haE f129.cells)) ?_
        obtain ⟨x86, hx86, h⟩ := Option.bind_eq_some_iff.mp h
        have f130 := f110.stp (S113.tr (S125.tr S128)) rfl rfl
        refine WO.call rfl rfl rfl rfl rfl rfl Try.call114 (slices_Contains_2_int64_2_int64_ok (κ := fun b => mp [] 0 (K124 b)) (p1 := (x73, x81)) (Sl.map f130.rdc (mp [] 0) rfl rfl) hx86) ?_
        rintro _ w131 ⟨k132, rfl, e133⟩
        obtain ⟨K134, S135, m136⟩ := Ent.mixed (l := []) (κ := K124) e133 11 rfl
        refine ⟨trivial, ?_⟩
        refine WO.pn 1 rfl ?_
        refine WO.fin ?_
        refine DN.seq ?_
        obtain ⟨q7, h, hK138⟩ := Option.bind_eq_some_iff.mp h
        refine WC.meet (fun L w' => ∃ (κ' : Col) (laq7_0 : Option Addr) (luq7_0 : Nat), L = [(4, .pointer (some ⟨b4, 0, none⟩)), (5, .pointer (some ⟨b5, 0, none⟩)), (7, .slice laq7_0 q7.length luq7_0), (8, .int .i64 s1.2), (9, .int .i64 x38.1), (10, .int .i64 x43.2), (63, .int .i64 (x61.length : Int)), (64, .int .i64 v64)] ∧ Stp [7] K134 w131 κ' w' ∧ Oc (Ep.pair (Ep.int .i64) (Ep.int .i64)) 152 κ' w' 7 laq7_0 luq7_0 q7) ?_ ?_
        ·
         revert h
         cases ht143 : (!x86) with
         | true =>
          intro h; replace h := cT h
          refine WC.ct rfl ?_
          refine WC.rs [(0, 2), (1, 1), (2, 1), (3, 1), (4, 2)] rfl ?_
          refine WO.pn 1 rfl ?_
          have f144 := f129.stp S135 rfl rfl
          refine WO.k1 trivial rfl rfl rfl rfl (rn_la (cs := [.int .i64 x73, .int .i64 x81]) Try.isAgg152 Try.sizeOf152 rfl rfl rfl (haE f144.cells)) ?_
          refine WO.bl (κ := K134) (E := (Ep.pair (Ep.int .i64) (Ep.int .i64))) 13 [] (parts := [(0, .tmp 89)]) (cells := [.int .i64 x73, .int .i64 x81]) (xs := ([(x73, x81)] : List (Int × Int))) rfl rfl rfl rfl rfl rfl Try.underlying153 Tryinfo152 rfl rfl rfl rfl rfl rfl rfl rfl rfl rfl ⟨[.int .i64 x73, .int .i64 x81], [], Zl K134 w131 [], Zl K134 w131 [], rfl, Zl.sp (l1 := []) (l2 := []) rfl, Zl.sr (l1 := []) (l2 := []), ⟨[.int .i64 x73], [.int .i64 x81], Zl K134 w131 [], Zl K134 w131 [], rfl, Zl.sp (l1 := []) (l2 := []) rfl, Zl.sr (l1 := []) (l2 := []), rfl, rfl⟩, rfl⟩ fun a90 u90 w145 K146 S147 f148 => ⟨trivial, ?_⟩
          obtain ⟨x91, hx91, h⟩ := Option.bind_eq_some_iff.mp h
          have f149 := f130.stp (S135.tr S147) rfl rfl
          refine WO.app (κ := K146) (E := (Ep.pair (Ep.int .i64) (Ep.int .i64))) 7 [] rfl rfl rfl rfl rfl rfl rfl rfl rfl Try.underlying153 Tryinfo152 rfl rfl rfl rfl f149 (Sl.srcP (pu_pair (pu_int _) (pu_int _)) f148.rdc) sy_false hx91 rfl fun a91 u91 w150 K151 S152 f153 => ⟨trivial, ?_⟩
          refine WO.pn 1 rfl ?_
          refine WO.fin ?_
          obtain rfl := Option.some.inj h
          exact DN.meet _ ⟨K151, a91, u91, rfl, (S147.tr S152).wk rfl, f153⟩ fun a ha => (ha.more (ha.more (ha.more (ha.more (ha.more (ha.more (ha.more (ha.more ha.nil rfl) rfl) rfl) rfl) rfl) rfl) rfl) rfl)
         | false =>
          intro h; replace h := cF h
          refine WC.cf rfl ?_
          refine WC.skip ?_
          have f154 := f130.stp S135 rfl rfl
          obtain rfl := Option.some.inj h
          exact DN.meet _ ⟨K134, las4_0, lus4_0, rfl, (Stp.refl _ _).wk rfl, f154⟩ fun a ha => (ha.more (ha.more (ha.more (ha.more (ha.more (ha.more (ha.more (ha.more ha.nil rfl) rfl) rfl) rfl) rfl) rfl) rfl) rfl)
        rintro _ w139 ⟨K140, laq7_0, luq7_0, rfl, S141, f142⟩
        have h := hK138
        refine DN.block ?_
        refine DN.seq ?_
        refine WC.rs [(0, 2), (1, 2)] rfl ?_
        refine WO.pn 2 rfl ?_
        refine WO.fin ?_
        have hw100 : IntKind.wrap .i64 (v64 + 1) = v64 + 1 := wr1 hj100 (of_decide_eq_true hc100) hN100
        rw [hw100]
        have hc100 := of_decide_eq_true hc100
        obtain rfl := Option.some.inj h
        refine DN.round fun a ha => ?_
        exact ⟨k, _, Nat.lt_succ_self _, ⟨K140, v64 + 1, (q7 : (List (Int × Int))), laq7_0, luq7_0, rfl, (S109.tr (S113.tr (S125.tr (S128.tr (S135.tr S141))))).wk rfl, f142, by omega, by omega, hk112⟩, (ha.more (ha.more (ha.more (ha.more (ha.more (ha.more (ha.more (ha.more ha.nil rfl) rfl) rfl) rfl) rfl) rfl) rfl) rfl)⟩
      rintro _ w103 ⟨K104, s6, las6_0, lus6_0, rfl, S105, f106, rfl⟩
      have h := hK101
      dsimp only [aft] at h
      refine DN.block ?_
      refine DN.seq ?_
      refine WC.rs [(0, 2), (1, 2), (2, 2)] rfl ?_
      refine WO.pn 3 rfl ?_
      refine WO.fin ?_
      obtain rfl := Option.some.inj h
      refine DN.round fun a ha => ?_
      exact ⟨k, _, Nat.lt_succ_self _, ⟨K104, ((s6 : (List (Int × Int))), ((IntKind.i64.wrap (s1.2 + 1)) : Int)), las6_0, lus6_0, rfl, (S68.tr (S72.tr (S77.tr (S91.tr S105)))).wk rfl, f106, hk70⟩, (ha.more (ha.more (ha.more (ha.more ha.nil rfl) rfl) rfl) rfl)⟩
    | false =>
     intro h; replace h := cF h
     refine WC.cf rfl ?_
     refine WC.exit ?_
     refine DN.exitThen ?_
     refine DN.exitThen ?_
     obtain rfl := Option.some.inj h
     have h := hk70
     refine DN.hit ?_
     obtain rfl := Option.some.inj h
     exact DN.meet _ ⟨K67, ((s1.1 : (List (Int × Int))), (s1.2 : Int)), las1_0, lus1_0, rfl, S68.wk rfl, f69, rfl⟩ fun a ha => ha.nil
  rintro _ w62 ⟨K63, s3, las3_0, lus3_0, rfl, S64, f65, rfl⟩
  have h := hK60
  dsimp only [aft] at h
  refine DN.seq ?_
  refine WC.seq ?_
  refine WC.rs [(0, 2)] rfl ?_
  refine WO.pn 1 rfl ?_
  refine WO.fin ?_
  refine DN.seq ?_
  refine WC.ret ?_
  have f155 := hE.stp (S3.tr (S7.tr (S11.tr (S18.tr (S36.tr (S52.tr (S57.tr S64))))))) rfl rfl
  refine DN.res (l := [.tmp 6]) Try.results81 (res_tmp rfl rfl) rfl ?_
  obtain rfl := Option.some.inj h
  exact ⟨K63, rfl, f155⟩

/- loop.example/g00869/laws.FnLeastSame -/
theorem l_FnLeastSame_ok {w : World} {κ : Col} {a0 : Option Addr} {u0 : Nat} {p0 : (List Int)} (g0 : Rd (Rp.int .u8) κ w 0 a0 u0 p0) {r : Bool} (h : l_FnLeastSame p0 = some r) : Ret Try.prog 12 [.slice a0 p0.length u0] w (fun v w' => ∃ (κ' : Col), v = .bool r ∧ Ent κ w κ' w') := by
 unfold l_FnLeastSame at h
 refine Ret.enter Try.func12 rfl Try.ntmps12 rfl ?_
 dsimp only [envOf]
 have hE := Ent.refl κ w
 refine WC.seq ?_
 refine WC.rs [(0, 2)] rfl ?_
 refine WO.pn 1 rfl ?_
 refine WO.fin ?_
 refine DN.seq ?_
 refine WC.seq ?_
 refine WC.seq ?_
 refine WC.rs [(0, 2), (1, 1)] rfl ?_
 refine WO.pn 1 rfl ?_
 obtain ⟨x12, hx12, h⟩ := Option.bind_eq_some_iff.mp h
 refine WO.call rfl rfl rfl rfl rfl rfl Try.call71 (l_big_ok (κ := fun b => mp [] 0 (κ b)) (Sl.map g0 (mp [] 0) rfl rfl) hx12) ?_
 rintro _ w1 ⟨k2, rfl, e3⟩
 obtain ⟨K4, S5, m6⟩ := Ent.mixed (l := []) (κ := κ) e3 2 rfl
 refine ⟨trivial, ?_⟩
 refine WO.fin ?_
 refine DN.seq ?_
 revert h
 cases ht8 : x12 with
 | true =>
  intro h; replace h := cT h
  refine WC.ct rfl ?_
  refine WC.seq ?_
  refine WC.rs [(0, 2)] rfl ?_
  refine WO.pn 1 rfl ?_
  refine WO.fin ?_
  refine DN.seq ?_
  refine WC.ret ?_
  refine DN.retThen ?_
  have f9 := hE.stp S5 rfl rfl
  refine DN.res (l := [.tmp 2]) Try.results12 (res_tmp rfl rfl) rfl ?_
  obtain rfl := Option.some.inj h
  exact ⟨K4, rfl, f9⟩
 | false =>
  intro h; replace h := cF h
  refine WC.cf rfl ?_
  refine WC.skip ?_
  refine DN.seq ?_
  refine WC.seq ?_
  refine WC.rs [(0, 2), (1, 1), (2, 2)] rfl ?_
  refine WO.pn 1 rfl ?_
  obtain ⟨x14, hx14, h⟩ := Option.bind_eq_some_iff.mp h
  have f10 := g0.stp S5 rfl rfl
  refine WO.call rfl rfl rfl rfl rfl rfl Try.call72 (l_roll_ok (κ := fun b => mp [] 1 (K4 b)) (Sl.map f10 (mp [] 1) rfl rfl) hx14) ?_
  rintro _ w11 ⟨k12, a14_0, u14_0, b14, rfl, e13, f14, f15⟩
  obtain ⟨K16, S17, m18, z19⟩ := Ent.mixed0 (l := []) (κ := K4) e13 4 rfl
  refine ⟨trivial, ?_⟩
  have f20 := f14.mx z19
  have f21 := f15.mx m18 rfl (rfl : 4 + 3 = 7)
  refine WO.pn 1 rfl ?_
  refine WO.fin ?_
  refine DN.seq ?_
  refine WC.seq ?_
  refine WC.rs [(0, 2), (1, 1), (2, 2), (3, 2), (4, 1), (5, 1)] rfl ?_
  refine WO.pn 1 rfl ?_
  obtain ⟨x16, hx16, h⟩ := Option.bind_eq_some_iff.mp h
  refine WO.call rfl rfl rfl rfl rfl rfl Try.call73 (l_dice_below_ok (κ := fun b => mp [(7, 2)] 0 (K16 b)) (p0 := x14) (Sl.map f20 (mp [(7, 2)] 0) rfl rfl) (f21.map (mp [(7, 2)] 0) rfl rfl) hx16) ?_
  rintro _ w22 ⟨k23, rfl, e24, f25⟩
  obtain ⟨K26, S27, m28⟩ := Ent.mixed (l := [(7, 2)]) (κ := K16) e24 8 rfl
  refine ⟨trivial, ?_⟩
  have f30 := f25.mx m28 rfl (rfl : 8 + 2 = 10)
  refine WO.pn 1 rfl ?_
  refine WO.k2 rfl rfl rfl rfl (rn_build (parts := [(0, .tmp 17), (1, .const (.int .i64 1))]) (cells := [.int .i64 (IntKind.i64.wrap (1 + x16.1)), .int .i64 1]) rfl rfl (by kernel_rfl)) ?_
  refine WO.alloc (κ := K26) 11 rfl rfl rfl rfl rfl Try.zeroValue53 rfl fun b4 w31 K32 S33 f34 => ⟨trivial, ?_⟩
  refine WO.stB0 (κ := K32) 11 (vc := [.int .i64 (IntKind.i64.wrap (1 + x16.1)), .int .i64 1]) rfl rfl rfl rfl rfl rfl rfl Try.sizeOf53 rfl rfl f34 rfl fun w35 S36 f37 => ⟨trivial, ?_⟩
  refine WO.fin ?_
  refine DN.seq ?_
  refine WC.seq ?_
  refine WC.rs [(0, 2), (1, 1), (2, 1), (3, 1), (4, 1)] rfl ?_
  refine WO.pn 1 rfl ?_
  refine WO.k1 trivial rfl rfl rfl rfl (rn_la (cs := [.int .i64 (IntKind.i64.wrap (1 + x16.1)), .int .i64 1]) Try.isAgg53 Try.sizeOf53 rfl rfl rfl (haE f37.cells)) ?_
  obtain ⟨x21, hx21, h⟩ := Option.bind_eq_some_iff.mp h
  have f38 := f20.stp (S27.tr (S33.tr S36)) rfl rfl
  have f39 := f30.stp (S33.tr S36) rfl rfl
  refine WO.call rfl rfl rfl rfl rfl rfl Try.call74 (l_w9Machine_ok (κ := fun b => mp [(10, 2)] 0 (K32 b)) (p1 := (⟨(IntKind.i64.wrap (1 + x16.1)), 1⟩ : Sig)) (p0 := (⟨x14.b, x16.2.1, x16.2.2⟩ : dice)) (Sl.map f38 (mp [(10, 2)] 0) rfl rfl) (f39.map (mp [(10, 2)] 0) rfl rfl) hx21) ?_
  rintro _ w40 ⟨k41, a21_0, u21_0, a21_1, u21_1, rfl, e42, f43, f44, f45⟩
  obtain ⟨K46, S47, m48⟩ := Ent.mixed (l := [(10, 2)]) (κ := K32) e42 12 rfl
  refine ⟨trivial, ?_⟩
  have f50 := f43.mx (no_own (no_int _) _) m48 rfl (rfl : 12 + 3 = 15)
  have f51 := f44.mx (no_own (no_int _) _) m48 rfl (rfl : 12 + 4 = 16)
  have f52 := f45.mx m48 rfl (rfl : 12 + 2 = 14)
  refine WO.alloc (κ := K46) 17 rfl rfl rfl rfl rfl Try.zeroValue50 rfl fun b5 w53 K54 S55 f56 => ⟨trivial, ?_⟩
  refine WO.stB0 (κ := K54) 17 (vc := [.slice a21_0 x21.1.Next.length u21_0, .slice a21_1 x21.1.Out.length u21_1]) rfl rfl rfl rfl rfl rfl rfl Try.sizeOf50 rfl rfl f56 rfl fun w57 S58 f59 => ⟨trivial, ?_⟩
  refine WO.fin ?_
  refine DN.seq ?_
  refine WC.seq ?_
  refine WC.rs [(0, 1), (1, 1), (2, 1), (3, 1), (4, 1)] rfl ?_
  have f60 := f37.stp (S47.tr (S55.tr S58)) rfl rfl
  refine WO.k1 trivial rfl rfl rfl rfl (rn_la (cs := [.int .i64 (IntKind.i64.wrap (1 + x16.1)), .int .i64 1]) Try.isAgg53 Try.sizeOf53 rfl rfl rfl (haE f60.cells)) ?_
  refine WO.k1 trivial rfl rfl rfl rfl (rn_la (cs := [.slice a21_0 x21.1.Next.length u21_0, .slice a21_1 x21.1.Out.length u21_1]) Try.isAgg50 Try.sizeOf50 rfl rfl rfl (haE f59.cells)) ?_
  obtain ⟨x24, hx24, h⟩ := Option.bind_eq_some_iff.mp h
  have f61 := f50.stp (S55.tr S58) rfl rfl
  have f62 := f51.stp (S55.tr S58) rfl rfl
  refine WO.call rfl rfl rfl rfl rfl rfl Try.call75 (i_LeastOf_ok (κ := fun b => mp [] 0 (K54 b)) (p0 := (⟨(IntKind.i64.wrap (1 + x16.1)), 1⟩ : Sig)) (p1 := x21.1) (Sl.map f61.rdc (mp [] 0) rfl rfl) (Sl.map f62.rdc (mp [] 0) rfl rfl) hx24) ?_
  rintro _ w63 ⟨k64, a24_0, u24_0, a24_1, u24_1, rfl, e65, f66, f67⟩
  obtain ⟨K68, S69, m70⟩ := Ent.mixed (l := []) (κ := K54) e65 18 rfl
  refine ⟨trivial, ?_⟩
  have f72 := f66.mx (no_own (no_int _) _) m70 rfl (rfl : 18 + 2 = 20)
  have f73 := f67.mx (no_own (no_int _) _) m70 rfl (rfl : 18 + 3 = 21)
  refine WO.alloc (κ := K68) 22 rfl rfl rfl rfl rfl Try.zeroValue50 rfl fun b6 w74 K75 S76 f77 => ⟨trivial, ?_⟩
  refine WO.stB0 (κ := K75) 22 (vc := [.slice a24_0 x24.Next.length u24_0, .slice a24_1 x24.Out.length u24_1]) rfl rfl rfl rfl rfl rfl rfl Try.sizeOf50 rfl rfl f77 rfl fun w78 S79 f80 => ⟨trivial, ?_⟩
  refine WO.fin ?_
  refine DN.seq ?_
  refine WC.seq ?_
  refine WC.rs [(0, 2), (1, 1), (2, 2)] rfl ?_
  refine WO.pn 1 rfl ?_
  obtain ⟨x26, hx26, h⟩ := Option.bind_eq_some_iff.mp h
  have f81 := f38.stp (S47.tr (S55.tr (S58.tr (S69.tr (S76.tr S79))))) rfl rfl
  have f82 := f52.stp (S55.tr (S58.tr (S69.tr (S76.tr S79)))) rfl rfl
  refine WO.call rfl rfl rfl rfl rfl rfl Try.call76 (l_w9Ins_ok (κ := fun b => mp [(14, 2)] 0 (K75 b)) (p0 := (⟨x14.b, x21.2.1, x21.2.2⟩ : dice)) (Sl.map f81 (mp [(14, 2)] 0) rfl rfl) (f82.map (mp [(14, 2)] 0) rfl rfl) hx26) ?_
  rintro _ w83 ⟨k84, a26_0, u26_0, rfl, e85, f86, f87⟩
  obtain ⟨K88, S89, m90⟩ := Ent.mixed (l := [(14, 2)]) (κ := K75) e85 23 rfl
  refine ⟨trivial, ?_⟩
  have f92 := f86.mx (no_int _) m90 rfl (rfl : 23 + 3 = 26)
  have f93 := f87.mx m90 rfl (rfl : 23 + 2 = 25)
  refine WO.pn 1 rfl ?_
  refine WO.fin ?_
  refine DN.seq ?_
  refine WC.seq ?_
  refine WC.seq ?_
  refine WC.rx (κ := K88) [11, 17, 22] none [(0, 0), (1, 0), (2, 1), (3, 2), (4, 2), (5, 2), (8, 2), (6, 0), (7, 2), (9, 0), (10, 2), (11, 2), (12, 2), (13, 2), (16, 2), (20, 2), (14, 0), (15, 0), (18, 0), (19, 0), (17, 1), (21, 1), (22, 1), (23, 2), (24, 2), (25, 2), (26, 0), (27, 0), (28, 0), (29, 1), (30, 2), (31, 2)] [] (by kernel_rfl) (by kernel_rfl) fun w95 S94 => ?_
  have f96 := f60.stp (S69.tr (S76.tr (S79.tr (S89.tr S94)))) rfl rfl
  refine WO.k0 rfl rfl rfl rfl (rn_la (cs := [.int .i64 (IntKind.i64.wrap (1 + x16.1)), .int .i64 1]) Try.isAgg53 Try.sizeOf53 rfl rfl rfl (haC f96.cells rfl)) ?_
  have f97 := f80.stp (S89.tr S94) rfl rfl
  refine WO.k0 rfl rfl rfl rfl (rn_la (cs := [.slice a24_0 x24.Next.length u24_0, .slice a24_1 x24.Out.length u24_1]) Try.isAgg50 Try.sizeOf50 rfl rfl rfl (haC f97.cells rfl)) ?_
  obtain ⟨x29, hx29, h⟩ := Option.bind_eq_some_iff.mp h
  have f98 := f72.stp (S76.tr (S79.tr (S89.tr S94))) rfl rfl
  have f99 := f73.stp (S76.tr (S79.tr (S89.tr S94))) rfl rfl
  refine WO.call rfl rfl rfl rfl rfl rfl Try.call77 (s_MachineOk_ok (κ := fun b => mp [] 0 (K88 b)) (p0 := (⟨(IntKind.i64.wrap (1 + x16.1)), 1⟩ : Sig)) (p1 := x24) (Sl.map f98.rdc (mp [] 0) rfl rfl) (Sl.map f99.rdc (mp [] 0) rfl rfl) hx29) ?_
  rintro _ w100 ⟨k101, rfl, e102⟩
  obtain ⟨K103, S104, m105⟩ := Ent.mixed (l := []) (κ := K88) e102 27 rfl
  refine ⟨(S104.cl rfl), ?_⟩
  refine WO.pn 2 rfl ?_
  obtain ⟨p39, h, hK107⟩ := Option.bind_eq_some_iff.mp h
  refine WO.meet [(5, 2), (8, 2), (6, 0), (7, 2), (9, 0), (10, 2), (11, 2), (12, 2)] [(13, 2), (16, 2), (20, 2), (14, 0), (15, 0), (18, 0), (19, 0), (17, 1), (21, 1), (22, 1), (23, 2), (24, 2), (25, 2), (26, 0), (27, 0), (28, 0), (29, 1), (30, 2), (31, 2)] (fun L w' => L = [(4, .pointer (some ⟨b4, 0, none⟩)), (5, .pointer (some ⟨b5, 0, none⟩)), (6, .pointer (some ⟨b6, 0, none⟩)), (7, .slice a26_0 x26.1.length u26_0), (39, .bool p39)] ∧ ∃ κ', Stp [] K103 w100 κ' w') (S104.cl rfl) ?_ ?_
  ·
   revert h
   cases ht108 : (!x29) with
   | true =>
    intro h; replace h := cT h
    refine WO.pn 2 rfl ?_
    refine WO.qs rfl rfl rfl rfl ?_
    refine WO.pn 1 rfl ?_
    refine WO.qs rfl rfl rfl rfl ?_
    refine WO.pn 3 rfl ?_
    obtain rfl := Option.some.inj h
    exact WO.met _ (S104.cl rfl) ⟨rfl, _, (Stp.refl _ _).wk rfl⟩ fun a ha => (ha.more (ha.more (ha.more (ha.more (ha.more ha.nil rfl) rfl) rfl) rfl) rfl)
   | false =>
    intro h; replace h := cF h
    refine WO.k2 rfl rfl rfl rfl (rn_fieldAddr Try.runUnderlying50 rfl Try.sizeOf23 rfl rfl) ?_
    refine WO.k2 rfl rfl rfl rfl (rn_fieldAddr Try.runUnderlying50 rfl Try.sizeOf23 rfl rfl) ?_
    refine WO.k0 rfl rfl rfl rfl (rn_ld Try.isAgg23 rfl rfl (hvC (f97.ld 0 rfl rfl) rfl)) ?_
    refine WO.k2 rfl rfl rfl rfl (rn_len Try.runUnderlying23 rfl rfl) ?_
    have f109 := f59.stp (S69.tr (S76.tr (S79.tr (S89.tr S94)))) rfl rfl
    refine WO.k0 rfl rfl rfl rfl (rn_ld Try.isAgg23 rfl rfl (hvC (f109.ld 0 rfl rfl) rfl)) ?_
    refine WO.k2 rfl rfl rfl rfl (rn_len Try.runUnderlying23 rfl rfl) ?_
    refine WO.pn 2 rfl ?_
    obtain rfl := Option.some.inj h
    exact WO.met _ (S104.cl rfl) ⟨rfl, _, (Stp.refl _ _).wk rfl⟩ fun a ha => (ha.more (ha.more (ha.more (ha.more (ha.more ha.nil rfl) rfl) rfl) rfl) rfl)
  rintro _ w110 _ ⟨rfl, K111, S112⟩
  have h := hK107
  refine WO.pn 1 rfl ?_
  obtain ⟨p51, h, hK113⟩ := Option.bind_eq_some_iff.mp h
  refine WO.meet [(16, 2), (20, 2), (14, 0), (15, 0), (18, 0), (19, 0), (17, 1), (21, 1), (22, 1), (23, 2), (24, 2)] [(25, 2), (26, 0), (27, 0), (28, 0), (29, 1), (30, 2), (31, 2)] (fun L w' => L = [(4, .pointer (some ⟨b4, 0, none⟩)), (5, .pointer (some ⟨b5, 0, none⟩)), (6, .pointer (some ⟨b6, 0, none⟩)), (51, .bool p51)] ∧ ∃ κ', Stp [] K111 w110 κ' w') ((S104.tr S112).cl rfl) ?_ ?_
  ·
   revert h
   cases ht114 : p39 with
   | true =>
    intro h; replace h := cT h
    refine WO.pn 2 rfl ?_
    refine WO.qs rfl rfl rfl rfl ?_
    refine WO.qs rfl rfl rfl rfl ?_
    refine WO.qs rfl rfl rfl rfl ?_
    refine WO.qs rfl rfl rfl rfl ?_
    refine WO.ls rfl rfl rfl rfl ?_
    refine WO.ls rfl rfl rfl rfl ?_
    refine WO.ls rfl rfl rfl rfl ?_
    refine WO.pn 2 rfl ?_
    obtain rfl := Option.some.inj h
    exact WO.met _ ((S104.tr S112).cl rfl) ⟨rfl, _, (Stp.refl _ _).wk rfl⟩ fun a ha => (ha.more (ha.more (ha.more (ha.more ha.nil rfl) rfl) rfl) rfl)
   | false =>
    intro h; replace h := cF h
    refine WO.pn 2 rfl ?_
    refine WO.k0 rfl rfl rfl rfl (rn_la (cs := [.int .i64 (IntKind.i64.wrap (1 + x16.1)), .int .i64 1]) Try.isAgg53 Try.sizeOf53 rfl rfl rfl (haC f96.cells rfl)) ?_
    refine WO.k0 rfl rfl rfl rfl (rn_la (cs := [.slice a24_0 x24.Next.length u24_0, .slice a24_1 x24.Out.length u24_1]) Try.isAgg50 Try.sizeOf50 rfl rfl rfl (haC f97.cells rfl)) ?_
    refine WO.k0 rfl rfl rfl rfl (rn_la (cs := [.int .i64 (IntKind.i64.wrap (1 + x16.1)), .int .i64 1]) Try.isAgg53 Try.sizeOf53 rfl rfl rfl (haC f96.cells rfl)) ?_
    have f115 := f59.stp (S69.tr (S76.tr (S79.tr (S89.tr S94)))) rfl rfl
    refine WO.k0 rfl rfl rfl rfl (rn_la (cs := [.slice a21_0 x21.1.Next.length u21_0, .slice a21_1 x21.1.Out.length u21_1]) Try.isAgg50 Try.sizeOf50 rfl rfl rfl (haC f115.cells rfl)) ?_
    obtain ⟨x44, hx44, h⟩ := Option.bind_eq_some_iff.mp h
    have f116 := f98.stp (S104.tr S112) rfl rfl
    have f117 := f99.stp (S104.tr S112) rfl rfl
    have f118 := f92.stp (S94.tr (S104.tr S112)) rfl rfl
    refine WO.call rfl rfl rfl rfl rfl rfl Try.call79 (i_OutputsFor_ok (κ := fun b => mp [] 0 (K111 b)) (p0 := (⟨(IntKind.i64.wrap (1 + x16.1)), 1⟩ : Sig)) (p1 := x24) (Sl.map f116.rdc (mp [] 0) rfl rfl) (Sl.map f117.rdc (mp [] 0) rfl rfl) (Sl.map f118.rdc (mp [] 0) rfl rfl) hx44) ?_
    rintro _ w119 ⟨k120, a44_0, u44_0, rfl, e121, f122⟩
    obtain ⟨K123, S124, m125⟩ := Ent.mixed (l := []) (κ := K111) e121 29 rfl
    refine ⟨((S104.tr (S112.tr S124)).cl rfl), ?_⟩
    have f127 := f122.mx (no_int _) m125 rfl (rfl : 29 + 2 = 31)
    obtain ⟨x48, hx48, h⟩ := Option.bind_eq_some_iff.mp h
    have f128 := f61.stp (S69.tr (S76.tr (S79.tr (S89.tr (S94.tr (S104.tr (S112.tr S124))))))) rfl rfl
    have f129 := f62.stp (S69.tr (S76.tr (S79.tr (S89.tr (S94.tr (S104.tr (S112.tr S124))))))) rfl rfl
    have f130 := f118.stp S124 rfl rfl
    refine WO.call rfl rfl rfl rfl rfl rfl Try.call80 (s_OutputsFor_ok (κ := fun b => mp [] 0 (K123 b)) (p0 := (⟨(IntKind.i64.wrap (1 + x16.1)), 1⟩ : Sig)) (p1 := x21.1) (Sl.map f128.rdc (mp [] 0) rfl rfl) (Sl.map f129.rdc (mp [] 0) rfl rfl) (Sl.map f130.rdc (mp [] 0) rfl rfl) hx48) ?_
    rintro _ w131 ⟨k132, a48_0, u48_0, rfl, e133, f134⟩
    obtain ⟨K135, S136, m137⟩ := Ent.mixed (l := []) (κ := K123) e133 32 rfl
    refine ⟨((S104.tr (S112.tr (S124.tr S136))).cl rfl), ?_⟩
    have f139 := f134.mx (no_int _) m137 rfl (rfl : 32 + 2 = 34)
    obtain ⟨x49, hx49, h⟩ := Option.bind_eq_some_iff.mp h
    have f140 := f127.stp S136 rfl rfl
    refine WO.call rfl rfl rfl rfl rfl rfl Try.call78 (l_likeInts_ok (κ := fun b => mp [] 0 (K135 b)) (Sl.map f140.rdc (mp [] 0) rfl rfl) (Sl.map f139.rdc (mp [] 0) rfl rfl) hx49) ?_
    rintro _ w141 ⟨k142, rfl, e143⟩
    obtain ⟨K144, S145, m146⟩ := Ent.mixed (l := []) (κ := K135) e143 35 rfl
    refine ⟨((S104.tr (S112.tr (S124.tr (S136.tr S145)))).cl rfl), ?_⟩
    refine WO.pn 2 rfl ?_
    obtain rfl := Option.some.inj h
    exact WO.met _ ((S104.tr (S112.tr (S124.tr (S136.tr S145)))).cl rfl) ⟨rfl, _, (S124.tr (S136.tr S145)).wk rfl⟩ fun a ha => (ha.more (ha.more (ha.more (ha.more ha.nil rfl) rfl) rfl) rfl)
  rintro _ w148 _ ⟨rfl, K149, S150⟩
  have h := hK113
  refine WO.pn 1 rfl ?_
  obtain ⟨p58, h, hK151⟩ := Option.bind_eq_some_iff.mp h
  refine WO.meet [(26, 0), (27, 0), (28, 0), (29, 1), (30, 2), (31, 2)] [] (fun L w' => L = [(4, .pointer (some ⟨b4, 0, none⟩)), (6, .pointer (some ⟨b6, 0, none⟩)), (58, .bool p58)] ∧ ∃ κ', Stp [] K149 w148 κ' w') ((S104.tr (S112.tr S150)).cl rfl) ?_ ?_
  ·
   revert h
   cases ht152 : p51 with
   | true =>
    intro h; replace h := cT h
    refine WO.qs rfl rfl rfl rfl ?_
    refine WO.qs rfl rfl rfl rfl ?_
    refine WO.qs rfl rfl rfl rfl ?_
    refine WO.ls rfl rfl rfl rfl ?_
    refine WO.pn 2 rfl ?_
    obtain rfl := Option.some.inj h
    exact WO.met _ ((S104.tr (S112.tr S150)).cl rfl) ⟨rfl, _, (Stp.refl _ _).wk rfl⟩ fun a ha => (ha.more (ha.more (ha.more ha.nil rfl) rfl) rfl)
   | false =>
    intro h; replace h := cF h
    refine WO.k0 rfl rfl rfl rfl (rn_la (cs := [.int .i64 (IntKind.i64.wrap (1 + x16.1)), .int .i64 1]) Try.isAgg53 Try.sizeOf53 rfl rfl rfl (haC f96.cells rfl)) ?_
    refine WO.k0 rfl rfl rfl rfl (rn_la (cs := [.slice a24_0 x24.Next.length u24_0, .slice a24_1 x24.Out.length u24_1]) Try.isAgg50 Try.sizeOf50 rfl rfl rfl (haC f97.cells rfl)) ?_
    have f153 := f59.stp (S69.tr (S76.tr (S79.tr (S89.tr S94)))) rfl rfl
    refine WO.k0 rfl rfl rfl rfl (rn_la (cs := [.slice a21_0 x21.1.Next.length u21_0, .slice a21_1 x21.1.Out.length u21_1]) Try.isAgg50 Try.sizeOf50 rfl rfl rfl (haC f153.cells rfl)) ?_
    obtain ⟨x56, hx56, h⟩ := Option.bind_eq_some_iff.mp h
    have f154 := f98.stp (S104.tr (S112.tr S150)) rfl rfl
    have f155 := f99.stp (S104.tr (S112.tr S150)) rfl rfl
    have f156 := f61.stp (S69.tr (S76.tr (S79.tr (S89.tr (S94.tr (S104.tr (S112.tr S150))))))) rfl rfl
    have f157 := f62.stp (S69.tr (S76.tr (S79.tr (S89.tr (S94.tr (S104.tr (S112.tr S150))))))) rfl rfl
    refine WO.call rfl rfl rfl rfl rfl rfl Try.call81 (i_SameMachine_ok (κ := fun b => mp [] 0 (K149 b)) (p0 := (⟨(IntKind.i64.wrap (1 + x16.1)), 1⟩ : Sig)) (p1 := x24) (p2 := x21.1) (Sl.map f154.rdc (mp [] 0) rfl rfl) (Sl.map f155.rdc (mp [] 0) rfl rfl) (Sl.map f156.rdc (mp [] 0) rfl rfl) (Sl.map f157.rdc (mp [] 0) rfl rfl) hx56) ?_
    rintro _ w158 ⟨k159, rfl, e160⟩
    obtain ⟨K161, S162, m163⟩ := Ent.mixed (l := []) (κ := K149) e160 29 rfl
    refine ⟨((S104.tr (S112.tr (S150.tr S162))).cl rfl), ?_⟩
    refine WO.pn 2 rfl ?_
    obtain rfl := Option.some.inj h
    exact WO.met _ ((S104.tr (S112.tr (S150.tr S162))).cl rfl) ⟨rfl, _, S162.wk rfl⟩ fun a ha => (ha.more (ha.more (ha.more ha.nil rfl) rfl) rfl)
  rintro _ w165 _ ⟨rfl, K166, S167⟩
  have h := hK151
  refine WO.nx ?_
  refine WO.fin ?_
  refine DN.seq ?_
  revert h
  cases ht168 : p58 with
  | true =>
   intro h; replace h := cT h
   refine WC.ct rfl ?_
   refine WC.seq ?_
   refine WC.rs [(0, 2)] rfl ?_
   refine WO.pn 1 rfl ?_
   refine WO.fin ?_
   refine DN.seq ?_
   refine WC.ret ?_
   refine DN.retThen ?_
   have f169 := hE.stp (S5.tr (S17.tr (S27.tr (S33.tr (S36.tr (S47.tr (S55.tr (S58.tr (S69.tr (S76.tr (S79.tr (S89.tr (S94.tr (S104.tr (S112.tr (S150.tr S167)))))))))))))))) rfl rfl
   refine DN.res (l := [.tmp 2]) Try.results12 (res_tmp rfl rfl) rfl ?_
   obtain rfl := Option.some.inj h
   exact ⟨K166, rfl, f169⟩
  | false =>
   intro h; replace h := cF h
   refine WC.cf rfl ?_
   refine WC.skip ?_
   refine DN.seq ?_
   refine WC.seq ?_
   refine WC.rs [(0, 1), (1, 1), (2, 1), (3, 2)] rfl ?_
   have f170 := f96.stp (S104.tr (S112.tr (S150.tr S167))) rfl rfl
   refine WO.k1 trivial rfl rfl rfl rfl (rn_la (cs := [.int .i64 (IntKind.i64.wrap (1 + x16.1)), .int .i64 1]) Try.isAgg53 Try.sizeOf53 rfl rfl rfl (haE f170.cells)) ?_
   have f171 := f97.stp (S104.tr (S112.tr (S150.tr S167))) rfl rfl
   refine WO.k1 trivial rfl rfl rfl rfl (rn_la (cs := [.slice a24_0 x24.Next.length u24_0, .slice a24_1 x24.Out.length u24_1]) Try.isAgg50 Try.sizeOf50 rfl rfl rfl (haE f171.cells)) ?_
   obtain ⟨x61, hx61, h⟩ := Option.bind_eq_some_iff.mp h
   have f172 := f98.stp (S104.tr (S112.tr (S150.tr S167))) rfl rfl
   have f173 := f99.stp (S104.tr (S112.tr (S150.tr S167))) rfl rfl
   refine WO.call rfl rfl rfl rfl rfl rfl Try.call82 (s_AlikeStates_ok (κ := fun b => mp [] 0 (K166 b)) (p0 := (⟨(IntKind.i64.wrap (1 + x16.1)), 1⟩ : Sig)) (p1 := x24) (Sl.map f172.rdc (mp [] 0) rfl rfl) (Sl.map f173.rdc (mp [] 0) rfl rfl) hx61) ?_
   rintro _ w174 ⟨k175, a61_0, u61_0, rfl, e176, f177⟩
   obtain ⟨K178, S179, m180⟩ := Ent.mixed (l := []) (κ := K166) e176 29 rfl
   refine ⟨trivial, ?_⟩
   have f182 := f177.mx (no_int _) m180 rfl (rfl : 29 + 2 = 31)
   refine WO.pn 1 rfl ?_
   refine WO.fin ?_
   refine DN.seq ?_
   refine WC.seq ?_
   refine WC.rs [(0, 1), (1, 1), (2, 1), (3, 2)] rfl ?_
   have f183 := f170.stp S179 rfl rfl
   refine WO.k1 trivial rfl rfl rfl rfl (rn_la (cs := [.int .i64 (IntKind.i64.wrap (1 + x16.1)), .int .i64 1]) Try.isAgg53 Try.sizeOf53 rfl rfl rfl (haE f183.cells)) ?_
   have f184 := f171.stp S179 rfl rfl
   refine WO.k1 trivial rfl rfl rfl rfl (rn_la (cs := [.slice a24_0 x24.Next.length u24_0, .slice a24_1 x24.Out.length u24_1]) Try.isAgg50 Try.sizeOf50 rfl rfl rfl (haE f184.cells)) ?_
   obtain ⟨x64, hx64, h⟩ := Option.bind_eq_some_iff.mp h
   have f185 := f172.stp S179 rfl rfl
   have f186 := f173.stp S179 rfl rfl
   refine WO.call rfl rfl rfl rfl rfl rfl Try.call83 (s_FoundStates_ok (κ := fun b => mp [] 0 (K178 b)) (p0 := (⟨(IntKind.i64.wrap (1 + x16.1)), 1⟩ : Sig)) (p1 := x24) (Sl.map f185.rdc (mp [] 0) rfl rfl) (Sl.map f186.rdc (mp [] 0) rfl rfl) hx64) ?_
   rintro _ w187 ⟨k188, a64_0, u64_0, rfl, e189, f190⟩
   obtain ⟨K191, S192, m193⟩ := Ent.mixed (l := []) (κ := K178) e189 32 rfl
   refine ⟨trivial, ?_⟩
   have f195 := f190.mx (no_int _) m193 rfl (rfl : 32 + 2 = 34)
   refine WO.pn 1 rfl ?_
   refine WO.fin ?_
   refine DN.seq ?_
   refine WC.seq ?_
   refine WC.seq ?_
   refine WC.rs [(0, 2)] rfl ?_
   refine WO.pn 1 rfl ?_
   refine WO.fin ?_
   refine DN.seq ?_
   have hN196 : (x61.length : Int) ≤ 9223372036854775807 := f182.len_le
   obtain ⟨q2, hq198, hK197⟩ := Option.bind_eq_some_iff.mp h
   clear h
   refine WC.meet (fun L w' => ∃ (κ' : Col), L = [] ∧ Stp [] K191 w187 κ' w' ∧ q2 = Sum.inr ()) ?_ ?_
   ·
    refine WC.block ?_
    refine WC.loop (fun k L w' => ∃ (κ' : Col) (v10 : Int), L = [(8, .slice a61_0 x61.length u61_0), (9, .slice a64_0 x64.length u64_0), (10, .int .i64 v10)] ∧ Stp [] K191 w187 κ' w' ∧ 0 ≤ v10 ∧ Int.toNat ((x61.length : Int) - v10) = k ∧ cntM (l_FnLeastSame_b0 x61 x64) k v10 () = some q2) ⟨_, _, ⟨K191, 0, rfl, (Stp.refl _ _).wk rfl, (by decide), (by simp), hq198⟩, fun a ha => (ha.more (ha.more (ha.more ha.nil rfl) rfl) rfl)⟩ ?_
    rintro k _ w202 ⟨K203, v10, rfl, S204, hj196, hJ196, h⟩
    rcases k with _ | k
    ·
     have hk205 := h; obtain ⟨o196, h⟩ := ex_eq (Sum.inr (Sum.inl ()) : Bool ⊕ ((Unit) ⊕ (Unit)))
     have hc196 : decide (v10 < (x61.length : Int)) = false := decide_eq_false (by omega)
     refine WC.seq ?_
     refine WC.seq ?_
     refine WC.rs [(0, 2), (1, 2), (2, 2), (3, 2)] rfl ?_
     refine WO.pn 2 rfl ?_
     refine WO.k2 rfl rfl rfl rfl (rn_len Try.runUnderlying22 rfl rfl) ?_
     refine WO.pn 1 rfl ?_
     refine WO.fin ?_
     refine DN.seq ?_
     refine WC.cf' rfl hc196 ?_
     refine WC.exit ?_
     refine DN.exitThen ?_
     refine DN.exitThen ?_
     obtain rfl := Option.some.inj h
     have h := hk205
     refine DN.hit ?_
     obtain rfl := Option.some.inj h
     exact DN.meet _ ⟨K203, rfl, S204.wk rfl, rfl⟩ fun a ha => ha.nil
    ·
     obtain ⟨o196, h, hk205⟩ := Option.bind_eq_some_iff.mp h; unfold l_FnLeastSame_b0 at h
     have hc196 : decide (v10 < (x61.length : Int)) = true := decide_eq_true (by omega)
     refine WC.seq ?_
     refine WC.seq ?_
     refine WC.rs [(0, 2), (1, 2), (2, 2), (3, 2)] rfl ?_
     refine WO.pn 2 rfl ?_
     refine WO.k2 rfl rfl rfl rfl (rn_len Try.runUnderlying22 rfl rfl) ?_
     refine WO.pn 1 rfl ?_
     refine WO.fin ?_
     refine DN.seq ?_
     refine WC.ct' rfl hc196 ?_
     refine WC.skip ?_
     refine DN.seq ?_
     refine WC.seq ?_
     refine WC.block ?_
     refine WC.seq ?_
     refine WC.rs [(0, 2), (1, 2), (2, 2), (3, 1), (4, 2), (5, 2), (6, 2), (7, 2), (8, 2), (9, 2), (10, 2), (11, 2), (12, 2), (13, 2), (14, 2), (15, 2), (16, 2), (17, 1), (18, 2), (19, 2), (20, 2)] rfl ?_
     refine WO.pn 2 rfl ?_
     obtain ⟨x73, hx73, h⟩ := Option.bind_eq_some_iff.mp h
     refine WO.k2 rfl rfl rfl rfl (rn_index f182.rdc hx73 Try.runUnderlying22 Try.sizeOf2 rfl rfl rfl rfl) ?_
     have f206 := f182.stp (S192.tr S204) rfl rfl
     refine WO.k1 trivial rfl rfl rfl rfl (rn_ld Try.isAgg2 rfl rfl (hvE (f206.rdc.gInt hx73))) ?_
     refine WO.pn 3 rfl ?_
     obtain ⟨p83, h, hK207⟩ := Option.bind_eq_some_iff.mp h
     refine WO.meet [(7, 2), (8, 2), (9, 2), (10, 2), (11, 2), (12, 2)] [(13, 2), (14, 2), (15, 2), (16, 2), (17, 1), (18, 2), (19, 2), (20, 2)] (fun L w' => L = [(8, .slice a61_0 x61.length u61_0), (9, .slice a64_0 x64.length u64_0), (10, .int .i64 v10), (83, .bool p83)] ∧ ∃ κ', Stp [] K203 w202 κ' w') trivial ?_ ?_
     ·
      revert h
      cases ht208 : (x73 != v10) with
      | true =>
       intro h; replace h := cT h
       refine WO.pn 6 rfl ?_
       obtain rfl := Option.some.inj h
       exact WO.met _ trivial ⟨rfl, _, (Stp.refl _ _).wk rfl⟩ fun a ha => (ha.more (ha.more (ha.more (ha.more ha.nil rfl) rfl) rfl) rfl)
      | false =>
       intro h; replace h := cF h
       refine WO.pn 1 rfl ?_
       refine WO.k2 rfl rfl rfl rfl (rn_len Try.runUnderlying22 rfl rfl) ?_
       refine WO.pn 1 rfl ?_
       refine WO.k2 rfl rfl rfl rfl (rn_len Try.runUnderlying22 rfl rfl) ?_
       refine WO.pn 2 rfl ?_
       obtain rfl := Option.some.inj h
       exact WO.met _ trivial ⟨rfl, _, (Stp.refl _ _).wk rfl⟩ fun a ha => (ha.more (ha.more (ha.more (ha.more ha.nil rfl) rfl) rfl) rfl)
     rintro _ w209 _ ⟨rfl, K210, S211⟩
     have h := hK207
     refine WO.pn 1 rfl ?_
     obtain ⟨p91, h, hK212⟩ := Option.bind_eq_some_iff.mp h
     refine WO.meet [(14, 2), (15, 2), (16, 2), (17, 1), (18, 2), (19, 2), (20, 2)] [] (fun L w' => L = [(8, .slice a61_0 x61.length u61_0), (9, .slice a64_0 x64.length u64_0), (10, .int .i64 v10), (91, .bool p91)] ∧ ∃ κ', Stp [] K210 w209 κ' w') trivial ?_ ?_
     ·
      revert h
      cases ht213 : p83 with
      | true =>
       intro h; replace h := cT h
       refine WO.pn 3 rfl ?_
       refine WO.ls rfl rfl rfl rfl ?_
       refine WO.pn 3 rfl ?_
       obtain rfl := Option.some.inj h
       exact WO.met _ trivial ⟨rfl, _, (Stp.refl _ _).wk rfl⟩ fun a ha => (ha.more (ha.more (ha.more (ha.more ha.nil rfl) rfl) rfl) rfl)
      | false =>
       intro h; replace h := cF h
       refine WO.pn 2 rfl ?_
       obtain ⟨x87, hx87, h⟩ := Option.bind_eq_some_iff.mp h
       refine WO.k2 rfl rfl rfl rfl (rn_index f195.rdc hx87 Try.runUnderlying22 Try.sizeOf2 rfl rfl rfl rfl) ?_
       have f214 := f195.stp (S204.tr S211) rfl rfl
       refine WO.k1 trivial rfl rfl rfl rfl (rn_ld Try.isAgg2 rfl rfl (hvE (f214.rdc.gInt hx87))) ?_
       refine WO.pn 3 rfl ?_
       obtain rfl := Option.some.inj h
       exact WO.met _ trivial ⟨rfl, _, (Stp.refl _ _).wk rfl⟩ fun a ha => (ha.more (ha.more (ha.more (ha.more ha.nil rfl) rfl) rfl) rfl)
     rintro _ w215 _ ⟨rfl, K216, S217⟩
     have h := hK212
     refine WO.fin ?_
     refine DN.seq ?_
     revert h
     cases ht218 : p91 with
     | true =>
      intro h; replace h := cT h
      refine WC.ct rfl ?_
      refine WC.seq ?_
      refine WC.rs [(0, 2)] rfl ?_
      refine WO.pn 1 rfl ?_
      refine WO.fin ?_
      refine DN.seq ?_
      refine WC.ret ?_
      refine DN.retBlock ?_
      refine DN.retThen ?_
      refine DN.retThen ?_
      obtain rfl := Option.some.inj h
      obtain rfl := Option.some.inj hk205
      have h := hK197
      dsimp only [aft] at h
      refine DN.retBlock ?_
      refine DN.retMeet ?_
      refine DN.retThen ?_
      have f219 := hE.stp (S5.tr (S17.tr (S27.tr (S33.tr (S36.tr (S47.tr (S55.tr (S58.tr (S69.tr (S76.tr (S79.tr (S89.tr (S94.tr (S104.tr (S112.tr (S150.tr (S167.tr (S179.tr (S192.tr (S204.tr (S211.tr S217))))))))))))))))))))) rfl rfl
      refine DN.res (l := [.tmp 2]) Try.results12 (res_tmp rfl rfl) rfl ?_
      obtain rfl := Option.some.inj h
      exact ⟨K216, rfl, f219⟩
     | false =>
      intro h; replace h := cF h
      refine WC.cf rfl ?_
      refine WC.skip ?_
      refine DN.block ?_
      refine DN.seq ?_
      refine WC.rs [(0, 2), (1, 2), (2, 2)] rfl ?_
      refine WO.pn 3 rfl ?_
      refine WO.fin ?_
      have hw196 : IntKind.wrap .i64 (v10 + 1) = v10 + 1 := wr1 hj196 (of_decide_eq_true hc196) hN196
      rw [hw196]
      have hc196 := of_decide_eq_true hc196
      obtain rfl := Option.some.inj h
      refine DN.round fun a ha => ?_
      exact ⟨k, _, Nat.lt_succ_self _, ⟨K216, v10 + 1, rfl, (S204.tr (S211.tr S217)).wk rfl, by omega, by omega, hk205⟩, (ha.more (ha.more (ha.more ha.nil rfl) rfl) rfl)⟩
   rintro _ w199 ⟨K200, rfl, S201, rfl⟩
   have h := hK197
   dsimp only [aft] at h
   refine DN.seq ?_
   refine WC.seq ?_
   refine WC.rs [(0, 2)] rfl ?_
   refine WO.pn 1 rfl ?_
   refine WO.fin ?_
   refine DN.seq ?_
   refine WC.ret ?_
   have f220 := hE.stp (S5.tr (S17.tr (S27.tr (S33.tr (S36.tr (S47.tr (S55.tr (S58.tr (S69.tr (S76.tr (S79.tr (S89.tr (S94.tr (S104.tr (S112.tr (S150.tr (S167.tr (S179.tr (S192.tr S201))))))))))))))))))) rfl rfl
   refine DN.res (l := [.tmp 2]) Try.results12 (res_tmp rfl rfl) rfl ?_
   obtain rfl := Option.some.inj h
   exact ⟨K200, rfl, f220⟩

end Go.Proofs.Ytfmkhnlnomkcfaa
