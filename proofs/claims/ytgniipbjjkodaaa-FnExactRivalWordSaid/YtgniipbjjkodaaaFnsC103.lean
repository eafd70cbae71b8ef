/- The walks, part 3. By program. -/
import Derived.Test.YtgniipbjjkodaaaFnsC102
set_option linter.unusedVariables false
set_option linter.unusedSimpArgs false
namespace Go.Proofs.Ytgniipbjjkodaaa
open Go Go.Wk Go.Proofs
set_option maxRecDepth 100000
set_option maxHeartbeats 1000000

/- loop.example/g00869/spec.RivalWord -/
theorem s_RivalWord_ok {w : World} {κ : Col} {p0 : Sig} {a1_0 : Option Addr} {u1_0 : Nat} {a1_1 : Option Addr} {u1_1 : Nat} {p1 : Rival} {a2_0 : Option Addr} {u2_0 : Nat} {a2_1 : Option Addr} {u2_1 : Nat} {p2 : Word} (g1_0 : Rd (Rp.int .i64) κ w 0 a1_0 u1_0 p1.In) (g1_1 : Rd (Rp.sl (Rp.int .i64)) κ w 0 a1_1 u1_1 p1.Next) (g2_0 : Rd (Rp.int .i64) κ w 0 a2_0 u2_0 p2.Stem) (g2_1 : Rd (Rp.int .i64) κ w 0 a2_1 u2_1 p2.Loop) {r : Word × Bool} (h : s_RivalWord p0 p1 p2 = some r) : Ret Try.prog 56 [.agg #[.int .i64 p0.In, .int .i64 p0.Out], .agg #[.slice a1_0 p1.In.length u1_0, .slice a1_1 p1.Next.length u1_1], .agg #[.slice a2_0 p2.Stem.length u2_0, .slice a2_1 p2.Loop.length u2_1]] w (fun v w' => ∃ (κ' : Col) (ra0 : Option Addr) (ru0 : Nat) (ra1 : Option Addr) (ru1 : Nat), v = .tuple #[.agg #[.slice ra0 r.1.Stem.length ru0, .slice ra1 r.1.Loop.length ru1], .bool r.2] ∧ Ent κ w κ' w' ∧ Oc (Ep.int .i64) 2 κ' w' 2 ra0 ru0 r.1.Stem ∧ Oc (Ep.int .i64) 2 κ' w' 3 ra1 ru1 r.1.Loop) := by
 unfold s_RivalWord at h
 refine Ret.enter Try.func56 rfl Try.ntmps56 rfl ?_
 dsimp only [envOf]
 have hE := Ent.refl κ w
 refine WC.seq ?_
 refine WC.rs [(0, 1), (1, 1), (2, 1), (3, 1), (4, 2)] rfl ?_
 refine WO.box (κ := κ) 2 rfl rfl rfl rfl rfl rfl rfl fun b3 w1 K2 S3 f4 => ⟨trivial, ?_⟩
 refine WO.box (κ := K2) 3 rfl rfl rfl rfl rfl rfl rfl fun b4 w5 K6 S7 f8 => ⟨trivial, ?_⟩
 refine WO.box (κ := K6) 4 rfl rfl rfl rfl rfl rfl rfl fun b5 w9 K10 S11 f12 => ⟨trivial, ?_⟩
 refine WO.alloc (κ := K10) 5 rfl rfl rfl rfl rfl Try.zeroValue82 rfl fun b6 w13 K14 S15 f16 => ⟨trivial, ?_⟩
 refine WO.pn 1 rfl ?_
 refine WO.fin ?_
 refine DN.seq ?_
 refine WC.seq ?_
 refine WC.seq ?_
 refine WC.rx (κ := K14) 5 none [(0, 0), (1, 0), (2, 1), (3, 2), (4, 2), (5, 0), (6, 0), (7, 1), (8, 1), (9, 2), (10, 2)] [] (by kernel_rfl) (by kernel_rfl) fun w18 S17 => ?_
 have f19 := f4.stp (S7.tr (S11.tr (S15.tr S17))) rfl rfl
 refine WO.k0 rfl rfl rfl rfl (rn_la (cs := [.int .i64 p0.In, .int .i64 p0.Out]) Try.isAgg30 Try.sizeOf30 rfl rfl rfl (haC f19.cells rfl)) ?_
 have f20 := f8.stp (S11.tr (S15.tr S17)) rfl rfl
 refine WO.k0 rfl rfl rfl rfl (rn_la (cs := [.slice a1_0 p1.In.length u1_0, .slice a1_1 p1.Next.length u1_1]) Try.isAgg32 Try.sizeOf32 rfl rfl rfl (haC f20.cells rfl)) ?_
 obtain ⟨x18, hx18, h⟩ := Option.bind_eq_some_iff.mp h
 have f21 := g1_0.stp (S3.tr (S7.tr (S11.tr (S15.tr S17)))) rfl rfl
 have f22 := g1_1.stp (S3.tr (S7.tr (S11.tr (S15.tr S17)))) rfl rfl
 refine WO.call rfl rfl rfl rfl rfl rfl Try.call70 (s_RivalOk_ok (κ := fun b => mp [] 0 (K14 b)) (p0 := p0) (p1 := p1) (Sl.map f21 (mp [] 0) rfl rfl) (Sl.map f22 (mp [] 0) rfl rfl) hx18) ?_
 rintro _ w23 ⟨k24, rfl, e25⟩
 obtain ⟨K26, S27, m28⟩ := Ent.mixed (l := []) (κ := K14) e25 6 rfl
 refine ⟨(S27.cl rfl), ?_⟩
 refine WO.pn 2 rfl ?_
 obtain ⟨p26, h, hK30⟩ := Option.bind_eq_some_iff.mp h
 refine WO.meet [(5, 0), (6, 0), (7, 1), (8, 1), (9, 2), (10, 2)] [] (fun L w' => L = [(3, .pointer (some ⟨b3, 0, none⟩)), (4, .pointer (some ⟨b4, 0, none⟩)), (5, .pointer (some ⟨b5, 0, none⟩)), (6, .pointer (some ⟨b6, 0, none⟩)), (26, .bool p26)] ∧ ∃ κ', Stp [] K26 w23 κ' w') (S27.cl rfl) ?_ ?_
 ·
  revert h
  cases ht31 : (!x18) with
  | true =>
   intro h; replace h := cT h
   refine WO.qs rfl rfl rfl rfl ?_
   refine WO.qs rfl rfl rfl rfl ?_
   refine WO.ls rfl rfl rfl rfl ?_
   refine WO.ls rfl rfl rfl rfl ?_
   refine WO.pn 2 rfl ?_
   obtain rfl := Option.some.inj h
   exact WO.met _ (S27.cl rfl) ⟨rfl, _, (Stp.refl _ _).wk rfl⟩ fun a ha => (ha.more (ha.more (ha.more (ha.more (ha.more ha.nil rfl) rfl) rfl) rfl) rfl)
  | false =>
   intro h; replace h := cF h
   have f32 := f12.stp (S15.tr S17) rfl rfl
   refine WO.k0 rfl rfl rfl rfl (rn_la (cs := [.slice a2_0 p2.Stem.length u2_0, .slice a2_1 p2.Loop.length u2_1]) Try.isAgg82 Try.sizeOf82 rfl rfl rfl (haC f32.cells rfl)) ?_
   refine WO.k0 rfl rfl rfl rfl (rn_la (cs := [.int .i64 p0.In, .int .i64 p0.Out]) Try.isAgg30 Try.sizeOf30 rfl rfl rfl (haC f19.cells rfl)) ?_
   obtain ⟨x23, hx23, h⟩ := Option.bind_eq_some_iff.mp h
   refine WO.call rfl rfl rfl rfl rfl rfl Try.call79 (s_l33Outputs_ok (κ := fun b => mp [] 0 (K26 b)) (p0 := p0) hx23) ?_
   rintro _ w33 ⟨k34, rfl, e35⟩
   obtain ⟨K36, S37, m38⟩ := Ent.mixed (l := []) (κ := K26) e35 8 rfl
   refine ⟨((S27.tr S37).cl rfl), ?_⟩
   obtain ⟨x24, hx24, h⟩ := Option.bind_eq_some_iff.mp h
   have f40 := g2_0.stp (S3.tr (S7.tr (S11.tr (S15.tr (S17.tr (S27.tr S37)))))) rfl rfl
   have f41 := g2_1.stp (S3.tr (S7.tr (S11.tr (S15.tr (S17.tr (S27.tr S37)))))) rfl rfl
   refine WO.call rfl rfl rfl rfl rfl rfl Try.call108 (s_l23Word_ok (κ := fun b => mp [] 0 (K36 b)) (p0 := p2) (Sl.map f40 (mp [] 0) rfl rfl) (Sl.map f41 (mp [] 0) rfl rfl) hx24) ?_
   rintro _ w42 ⟨k43, rfl, e44⟩
   obtain ⟨K45, S46, m47⟩ := Ent.mixed (l := []) (κ := K36) e44 10 rfl
   refine ⟨((S27.tr (S37.tr S46)).cl rfl), ?_⟩
   refine WO.pn 2 rfl ?_
   obtain rfl := Option.some.inj h
   exact WO.met _ ((S27.tr (S37.tr S46)).cl rfl) ⟨rfl, _, (S37.tr S46).wk rfl⟩ fun a ha => (ha.more (ha.more (ha.more (ha.more (ha.more ha.nil rfl) rfl) rfl) rfl) rfl)
 rintro _ w49 _ ⟨rfl, K50, S51⟩
 have h := hK30
 refine WO.nx ?_
 refine WO.fin ?_
 refine DN.seq ?_
 revert h
 cases ht52 : p26 with
 | true =>
  intro h; replace h := cT h
  refine WC.ct rfl ?_
  refine WC.seq ?_
  refine WC.rs [(0, 2), (1, 1), (2, 2)] rfl ?_
  refine WO.k2 rfl rfl rfl rfl (rn_build (parts := []) (cells := [.slice none 0 0, .slice none 0 0]) rfl rfl (by kernel_rfl)) ?_
  have f53 := f16.stp (S17.tr (S27.tr S51)) rfl rfl
  refine WO.stB0 (κ := K50) 5 (vc := [.slice none 0 0, .slice none 0 0]) rfl rfl rfl rfl rfl rfl rfl Try.sizeOf82 rfl rfl f53 rfl fun w54 S55 f56 => ⟨trivial, ?_⟩
  refine WO.pn 1 rfl ?_
  refine WO.fin ?_
  refine DN.seq ?_
  refine WC.ret ?_
  refine DN.retThen ?_
  have f57 := hE.stp (S3.tr (S7.tr (S11.tr (S15.tr (S17.tr (S27.tr (S51.tr S55))))))) rfl rfl
  refine DN.res (l := [.cell 6 82, .tmp 7]) Try.results56 (res_cellA rfl f56 Try.isAgg82 Try.sizeOf82 rfl (res_tmp rfl rfl)) rfl ?_
  obtain rfl := Option.some.inj h
  exact ⟨K50, none, 0, none, 0, rfl, f57, Ow.nil, Ow.nil⟩
 | false =>
  intro h; replace h := cF h
  refine WC.cf rfl ?_
  refine WC.skip ?_
  refine DN.seq ?_
  refine WC.seq ?_
  refine WC.rs [(0, 1), (1, 1), (2, 2), (3, 1), (4, 1), (5, 2), (6, 2), (7, 2), (8, 2), (9, 2)] rfl ?_
  have f58 := f19.stp (S27.tr S51) rfl rfl
  refine WO.k1 trivial rfl rfl rfl rfl (rn_la (cs := [.int .i64 p0.In, .int .i64 p0.Out]) Try.isAgg30 Try.sizeOf30 rfl rfl rfl (haE f58.cells)) ?_
  have f59 := f20.stp (S27.tr S51) rfl rfl
  refine WO.k1 trivial rfl rfl rfl rfl (rn_la (cs := [.slice a1_0 p1.In.length u1_0, .slice a1_1 p1.Next.length u1_1]) Try.isAgg32 Try.sizeOf32 rfl rfl rfl (haE f59.cells)) ?_
  refine WO.k2 rfl rfl rfl rfl (rn_fieldAddr Try.runUnderlying82 rfl Try.sizeOf24 rfl rfl) ?_
  have f60 := f12.stp (S15.tr (S17.tr (S27.tr S51))) rfl rfl
  refine WO.k1 trivial rfl rfl rfl rfl (rn_ld Try.isAgg24 rfl rfl (hvE (f60.ld 0 rfl rfl))) ?_
  obtain ⟨x33, hx33, h⟩ := Option.bind_eq_some_iff.mp h
  have f61 := f21.stp (S27.tr S51) rfl rfl
  have f62 := f22.stp (S27.tr S51) rfl rfl
  have f63 := g2_0.stp (S3.tr (S7.tr (S11.tr (S15.tr (S17.tr (S27.tr S51)))))) rfl rfl
  refine WO.call rfl rfl rfl rfl rfl rfl Try.call109 (s_l33Go_ok (κ := fun b => mp [] 0 (K50 b)) (p0 := p0) (p1 := p1) (Sl.map f61 (mp [] 0) rfl rfl) (Sl.map f62 (mp [] 0) rfl rfl) (Sl.map f63 (mp [] 0) rfl rfl) hx33) ?_
  rintro _ w64 ⟨k65, a33_0, u33_0, rfl, e66, f67⟩
  obtain ⟨K68, S69, m70⟩ := Ent.mixed (l := []) (κ := K50) e66 8 rfl
  refine ⟨trivial, ?_⟩
  have f72 := f67.mx (no_int _) m70 rfl (rfl : 8 + 2 = 10)
  refine WO.pn 5 rfl ?_
  refine WO.fin ?_
  refine DN.seq ?_
  refine WC.seq ?_
  refine WC.rs [(0, 1), (1, 2)] rfl ?_
  refine WO.bl0 (κ := K68) (E := (Ep.int .i64)) 11 rfl rfl rfl rfl rfl Try.underlying24 Tryinfo2 rfl fun a36 u36 w73 K74 S75 f76 => ⟨trivial, ?_⟩
  refine WO.pn 1 rfl ?_
  refine WO.fin ?_
  refine DN.seq ?_
  refine WC.seq ?_
  refine WC.rs [(0, 1), (1, 2)] rfl ?_
  refine WO.bl0 (κ := K74) (E := (Ep.int .i64)) 12 rfl rfl rfl rfl rfl Try.underlying131 Tryinfo3 rfl fun a37 u37 w77 K78 S79 f80 => ⟨trivial, ?_⟩
  refine WO.pn 1 rfl ?_
  refine WO.fin ?_
  refine DN.seq ?_
  refine WC.seq ?_
  obtain ⟨q2, hq83, hK82⟩ := Option.bind_eq_some_iff.mp h
  clear h
  refine WC.meet (fun L w' => ∃ (κ' : Col) (s3 : (List Int) × Int × (List Int) × (List Int)) (las3_0 : Option Addr) (lus3_0 : Nat) (las3_1 : Option Addr) (lus3_1 : Nat) (las3_2 : Option Addr) (lus3_2 : Nat), L = [(6, .pointer (some ⟨b6, 0, none⟩)), (8, .slice las3_0 s3.1.length lus3_0), (9, .int .i64 s3.2.1), (10, .slice las3_1 s3.2.2.1.length lus3_1), (11, .slice las3_2 s3.2.2.2.length lus3_2)] ∧ Stp [10, 11, 12] K78 w77 κ' w' ∧ Oc (Ep.int .i64) 2 κ' w' 10 las3_0 lus3_0 s3.1 ∧ Oc (Ep.int .i64) 2 κ' w' 11 las3_1 lus3_1 s3.2.2.1 ∧ Oc (Ep.int .i64) 3 κ' w' 12 las3_2 lus3_2 s3.2.2.2 ∧ q2 = Sum.inr s3) ?_ ?_
  ·
   refine WC.block ?_
   have f96 := f72.stp (S75.tr S79) rfl rfl
   have f97 := f76.stp S79 rfl rfl
   refine WC.loop (fun k L w' => ∃ (κ' : Col) (s1 : (List Int) × Int × (List Int) × (List Int)) (las1_0 : Option Addr) (lus1_0 : Nat) (las1_1 : Option Addr) (lus1_1 : Nat) (las1_2 : Option Addr) (lus1_2 : Nat), L = [(3, .pointer (some ⟨b3, 0, none⟩)), (4, .pointer (some ⟨b4, 0, none⟩)), (5, .pointer (some ⟨b5, 0, none⟩)), (6, .pointer (some ⟨b6, 0, none⟩)), (8, .slice las1_0 s1.1.length lus1_0), (9, .int .i64 s1.2.1), (10, .slice las1_1 s1.2.2.1.length lus1_1), (11, .slice las1_2 s1.2.2.2.length lus1_2)] ∧ Stp [10, 11, 12] K78 w77 κ' w' ∧ Oc (Ep.int .i64) 2 κ' w' 10 las1_0 lus1_0 s1.1 ∧ Oc (Ep.int .i64) 2 κ' w' 11 las1_1 lus1_1 s1.2.2.1 ∧ Oc (Ep.int .i64) 3 κ' w' 12 las1_2 lus1_2 s1.2.2.2 ∧ whileM (s_RivalWord_b0 p0 p1 p2) k s1 = some q2) ⟨_, _, ⟨K78, ((x33.1 : (List Int)), (x33.2 : Int), (([] : List Int) : (List Int)), (([] : List Int) : (List Int))), a33_0, u33_0, a36, u36, a37, u37, rfl, (Stp.refl _ _).wk rfl, f96, f97, f80, hq83⟩, fun a ha => (ha.more (ha.more (ha.more (ha.more (ha.more (ha.more (ha.more (ha.more ha.nil rfl) rfl) rfl) rfl) rfl) rfl) rfl) rfl)⟩ ?_
   rintro k _ w90 ⟨K91, s1, las1_0, lus1_0, las1_1, lus1_1, las1_2, lus1_2, rfl, S92, f93, f94, f95, h⟩
   rcases k with _ | k
   ·
    cases h
   ·
    obtain ⟨o81, h, hk98⟩ := Option.bind_eq_some_iff.mp h; unfold s_RivalWord_b0 at h
    refine WC.seq ?_
    refine WC.seq ?_
    refine WC.rs [(0, 2), (1, 2), (2, 1), (3, 2)] rfl ?_
    refine WO.pn 2 rfl ?_
    obtain ⟨x40, hx40, h⟩ := Option.bind_eq_some_iff.mp h
    refine WO.call rfl rfl rfl rfl rfl rfl Try.call110 (s_l1Has_ok (κ := fun b => mp [] 0 (K91 b)) (Sl.map f94.rdc (mp [] 0) rfl rfl) hx40) ?_
    rintro _ w99 ⟨k100, rfl, e101⟩
    obtain ⟨K102, S103, m104⟩ := Ent.mixed (l := []) (κ := K91) e101 13 rfl
    refine ⟨trivial, ?_⟩
    refine WO.pn 1 rfl ?_
    refine WO.fin ?_
    refine DN.seq ?_
    revert h
    cases ht106 : (!x40) with
    | true =>
     intro h; replace h := cT h
     refine WC.ct rfl ?_
     refine WC.skip ?_
     refine DN.seq ?_
     refine WC.block ?_
     refine WC.seq ?_
     refine WC.rs [(0, 2), (1, 2), (2, 1), (3, 1), (4, 2)] rfl ?_
     refine WO.pn 2 rfl ?_
     refine WO.bl (κ := K102) (E := (Ep.int .i64)) 15 [] (parts := [(0, .tmp 43)]) (cells := [.int .i64 s1.2.1]) (xs := ([s1.2.1] : List Int)) rfl rfl rfl rfl rfl rfl Try.underlying24 Tryinfo2 rfl rfl rfl rfl rfl rfl rfl rfl rfl rfl ⟨[.int .i64 s1.2.1], [], Zl K102 w99 [], Zl K102 w99 [], rfl, Zl.sp (l1 := []) (l2 := []) rfl, Zl.sr (l1 := []) (l2 := []), rfl, rfl⟩ fun a44 u44 w107 K108 S109 f110 => ⟨trivial, ?_⟩
     obtain ⟨x45, hx45, h⟩ := Option.bind_eq_some_iff.mp h
     have f111 := f94.stp (S103.tr S109) rfl rfl
     refine WO.app (κ := K108) (E := (Ep.int .i64)) 11 [] rfl rfl rfl rfl rfl rfl rfl rfl rfl Try.underlying24 Tryinfo2 rfl rfl rfl rfl f111 (Sl.srcP (pu_int _) f110.rdc) sy_false hx45 rfl fun a45 u45 w112 K113 S114 f115 => ⟨trivial, ?_⟩
     refine WO.pn 1 rfl ?_
     refine WO.fin ?_
     refine DN.seq ?_
     refine WC.seq ?_
     refine WC.rs [(0, 2), (1, 2), (2, 2), (3, 1), (4, 1), (5, 2)] rfl ?_
     refine WO.pn 2 rfl ?_
     refine WO.k2 rfl rfl rfl rfl (rn_len Try.runUnderlying24 rfl rfl) ?_
     refine WO.bl (κ := K113) (E := (Ep.int .i64)) 16 [] (parts := [(0, .tmp 48)]) (cells := [.int .i64 (s1.1.length : Int)]) (xs := ([(s1.1.length : Int)] : List Int)) rfl rfl rfl rfl rfl rfl Try.underlying131 Tryinfo3 rfl rfl rfl rfl rfl rfl rfl rfl rfl rfl ⟨[.int .i64 (s1.1.length : Int)], [], Zl K113 w112 [], Zl K113 w112 [], rfl, Zl.sp (l1 := []) (l2 := []) rfl, Zl.sr (l1 := []) (l2 := []), rfl, rfl⟩ fun a49 u49 w116 K117 S118 f119 => ⟨trivial, ?_⟩
     obtain ⟨x50, hx50, h⟩ := Option.bind_eq_some_iff.mp h
     have f120 := f95.stp (S103.tr (S109.tr (S114.tr S118))) rfl rfl
     refine WO.app (κ := K117) (E := (Ep.int .i64)) 12 [] rfl rfl rfl rfl rfl rfl rfl rfl rfl Try.underlying131 Tryinfo3 rfl rfl rfl rfl f120 (Sl.srcP (pu_int _) f119.rdc) sy_false hx50 rfl fun a50 u50 w121 K122 S123 f124 => ⟨trivial, ?_⟩
     refine WO.pn 1 rfl ?_
     refine WO.fin ?_
     refine DN.seq ?_
     refine WC.seq ?_
     refine WC.rs [(0, 1), (1, 1), (2, 2), (3, 2), (4, 1), (5, 1), (6, 2), (7, 2), (8, 2), (9, 2), (10, 2)] rfl ?_
     have f125 := f58.stp (S69.tr (S75.tr (S79.tr (S92.tr (S103.tr (S109.tr (S114.tr (S118.tr S123)))))))) rfl rfl
     refine WO.k1 trivial rfl rfl rfl rfl (rn_la (cs := [.int .i64 p0.In, .int .i64 p0.Out]) Try.isAgg30 Try.sizeOf30 rfl rfl rfl (haE f125.cells)) ?_
     have f126 := f59.stp (S69.tr (S75.tr (S79.tr (S92.tr (S103.tr (S109.tr (S114.tr (S118.tr S123)))))))) rfl rfl
     refine WO.k1 trivial rfl rfl rfl rfl (rn_la (cs := [.slice a1_0 p1.In.length u1_0, .slice a1_1 p1.Next.length u1_1]) Try.isAgg32 Try.sizeOf32 rfl rfl rfl (haE f126.cells)) ?_
     refine WO.pn 1 rfl ?_
     refine WO.k2 rfl rfl rfl rfl (rn_fieldAddr Try.runUnderlying82 rfl Try.sizeOf24 rfl rfl) ?_
     have f127 := f60.stp (S69.tr (S75.tr (S79.tr (S92.tr (S103.tr (S109.tr (S114.tr (S118.tr S123)))))))) rfl rfl
     refine WO.k1 trivial rfl rfl rfl rfl (rn_ld Try.isAgg24 rfl rfl (hvE (f127.ld 1 rfl rfl))) ?_
     obtain ⟨x57, hx57, h⟩ := Option.bind_eq_some_iff.mp h
     have f128 := f61.stp (S69.tr (S75.tr (S79.tr (S92.tr (S103.tr (S109.tr (S114.tr (S118.tr S123)))))))) rfl rfl
     have f129 := f62.stp (S69.tr (S75.tr (S79.tr (S92.tr (S103.tr (S109.tr (S114.tr (S118.tr S123)))))))) rfl rfl
     have f130 := g2_1.stp (S3.tr (S7.tr (S11.tr (S15.tr (S17.tr (S27.tr (S51.tr (S69.tr (S75.tr (S79.tr (S92.tr (S103.tr (S109.tr (S114.tr (S118.tr S123))))))))))))))) rfl rfl
     refine WO.call rfl rfl rfl rfl rfl rfl Try.call109 (s_l33Go_ok (κ := fun b => mp [] 0 (K122 b)) (p0 := p0) (p1 := p1) (Sl.map f128 (mp [] 0) rfl rfl) (Sl.map f129 (mp [] 0) rfl rfl) (Sl.map f130 (mp [] 0) rfl rfl) hx57) ?_
     rintro _ w131 ⟨k132, a57_0, u57_0, rfl, e133, f134⟩
     obtain ⟨K135, S136, m137⟩ := Ent.mixed (l := []) (κ := K122) e133 17 rfl
     refine ⟨trivial, ?_⟩
     have f139 := f134.mx (no_int _) m137 rfl (rfl : 17 + 2 = 19)
     refine WO.pn 5 rfl ?_
     refine WO.fin ?_
     refine DN.seq ?_
     refine WC.seq ?_
     refine WC.rs [(0, 2), (1, 2), (2, 1), (3, 2)] rfl ?_
     refine WO.pn 2 rfl ?_
     obtain ⟨x62, hx62, h⟩ := Option.bind_eq_some_iff.mp h
     have f140 := f93.stp (S103.tr (S109.tr (S114.tr (S118.tr (S123.tr S136))))) rfl rfl
     refine WO.app (κ := K135) (E := (Ep.int .i64)) 10 [] rfl rfl rfl rfl rfl rfl rfl rfl rfl Try.underlying24 Tryinfo2 rfl rfl rfl rfl f140 (Sl.srcP (pu_int _) f139.rdc) sy_false hx62 rfl fun a62 u62 w141 K142 S143 f144 => ⟨trivial, ?_⟩
     refine WO.pn 1 rfl ?_
     refine WO.fin ?_
     refine DN.seq ?_
     refine WC.rs [(0, 2), (1, 2)] rfl ?_
     refine WO.pn 2 rfl ?_
     refine WO.fin ?_
     refine DN.block ?_
     have f145 := f115.stp (S118.tr (S123.tr (S136.tr S143))) rfl rfl
     have f146 := f124.stp (S136.tr S143) rfl rfl
     obtain rfl := Option.some.inj h
     refine DN.round fun a ha => ?_
     exact ⟨k, _, Nat.lt_succ_self _, ⟨K142, ((x62 : (List Int)), (x57.2 : Int), (x45 : (List Int)), (x50 : (List Int))), a62, u62, a45, u45, a50, u50, rfl, (S92.tr (S103.tr (S109.tr (S114.tr (S118.tr (S123.tr (S136.tr S143))))))).wk rfl, f144, f145, f146, hk98⟩, (ha.more (ha.more (ha.more (ha.more (ha.more (ha.more (ha.more (ha.more ha.nil rfl) rfl) rfl) rfl) rfl) rfl) rfl) rfl)⟩
    | false =>
     intro h; replace h := cF h
     refine WC.cf rfl ?_
     refine WC.exit ?_
     refine DN.exitThen ?_
     refine DN.exitThen ?_
     obtain rfl := Option.some.inj h
     have h := hk98
     refine DN.hit ?_
     have f147 := f93.stp S103 rfl rfl
     have f148 := f94.stp S103 rfl rfl
     have f149 := f95.stp S103 rfl rfl
     obtain rfl := Option.some.inj h
     exact DN.meet _ ⟨K102, ((s1.1 : (List Int)), (s1.2.1 : Int), (s1.2.2.1 : (List Int)), (s1.2.2.2 : (List Int))), las1_0, lus1_0, las1_1, lus1_1, las1_2, lus1_2, rfl, (S92.tr S103).wk rfl, f147, f148, f149, rfl⟩ fun a ha => (ha.more (ha.more (ha.more (ha.more (ha.more ha.nil rfl) rfl) rfl) rfl) rfl)
  rintro _ w84 ⟨K85, s3, las3_0, lus3_0, las3_1, lus3_1, las3_2, lus3_2, rfl, S86, f87, f88, f89, rfl⟩
  have h := hK82
  dsimp only [aft] at h
  refine DN.seq ?_
  refine WC.seq ?_
  refine WC.rs [(0, 2), (1, 2), (2, 2), (3, 1), (4, 2), (5, 1), (6, 2)] rfl ?_
  refine WO.pn 3 rfl ?_
  obtain ⟨x67, hx67, h⟩ := Option.bind_eq_some_iff.mp h
  refine WO.call rfl rfl rfl rfl rfl rfl Try.call102 (s_l1Place_ok (κ := fun b => mp [] 0 (K85 b)) (Sl.map f88.rdc (mp [] 0) rfl rfl) hx67) ?_
  rintro _ w150 ⟨k151, rfl, e152⟩
  obtain ⟨K153, S154, m155⟩ := Ent.mixed (l := []) (κ := K85) e152 13 rfl
  refine ⟨trivial, ?_⟩
  obtain ⟨x68, hx68, h⟩ := Option.bind_eq_some_iff.mp h
  refine WO.k2 rfl rfl rfl rfl (rn_index f89.rdc hx68 Try.runUnderlying131 Try.sizeOf3 rfl rfl rfl rfl) ?_
  have f157 := f89.stp S154 rfl rfl
  refine WO.k1 trivial rfl rfl rfl rfl (rn_ld Try.isAgg3 rfl rfl (hvE (f157.rdc.gInt hx68))) ?_
  refine WO.pn 1 rfl ?_
  refine WO.fin ?_
  refine DN.seq ?_
  refine WC.seq ?_
  obtain ⟨x72, hx72, h⟩ := Option.bind_eq_some_iff.mp h
  obtain ⟨x76, hx76, h⟩ := Option.bind_eq_some_iff.mp h
  obtain ⟨x73, hx73, h⟩ := Option.bind_eq_some_iff.mp h
  obtain ⟨x77, hx77, h⟩ := Option.bind_eq_some_iff.mp h
  refine WC.meet (fun L w' => ∃ (κ' : Col) (b15 : Nat) (lar161_0 : Option Addr) (lur161_0 : Nat) (lar161_1 : Option Addr) (lur161_1 : Nat), L = [(6, .pointer (some ⟨b6, 0, none⟩)), (15, .pointer (some ⟨b15, 0, none⟩))] ∧ Stp [15, 17, 18, 20, 21] K153 w150 κ' w' ∧ Oc (Ep.int .i64) 2 κ' w' 15 lar161_0 lur161_0 ((⟨x73, x77⟩ : Word).Stem) ∧ Oc (Ep.int .i64) 2 κ' w' 16 lar161_1 lur161_1 ((⟨x73, x77⟩ : Word).Loop) ∧ Bc κ' w' 17 b15 82 [.slice lar161_0 ((⟨x73, x77⟩ : Word).Stem).length lur161_0, .slice lar161_1 ((⟨x73, x77⟩ : Word).Loop).length lur161_1]) ?_ ?_
  ·
   refine WC.rxt (κ := K153) 14 none (by kernel_rfl) fun w165 S166 => ?_
   refine WA.seg (fuel := 5) [(0, 2), (1, 2), (2, 2), (4, 2), (5, 2), (6, 2)] (by kernel_rfl) (by kernel_rfl) rfl ?_
   refine WO.pn 2 rfl ?_
   refine WO.k2 rfl rfl rfl rfl (rn_slice (k1 := .i64) (k2 := .i64) Try.runUnderlying24 Try.sizeOf2 (.inl ⟨rfl, rfl⟩) (.inr ⟨_, rfl, rfl⟩) hx72 f87.rdc.1 rfl rfl rfl) ?_
   have f168 := f87.stp (S154.tr S166) rfl rfl
   have f167 := f168.rdc.sub hx72
   refine WO.pn 2 rfl ?_
   refine WO.k2 rfl rfl rfl rfl (rn_slice (k1 := .i64) (k2 := .i64) Try.runUnderlying24 Try.sizeOf2 (.inr ⟨_, rfl, rfl⟩) (.inl ⟨rfl, rfl⟩) hx76 f168.rdc.1 rfl rfl rfl) ?_
   have f169 := f168.rdc.sub hx76
   refine WO.wa ?_
   refine WA.fork2 (fuel := 4) 3 9 (by kernel_rfl) rfl ?_ ?_
   ·
    refine WO.call rfl rfl rfl rfl rfl rfl Try.call111 (s_l1Copy_ok (κ := fun b => mp [] 0 (K153 b)) (Sl.map f167 (mp [] 0) rfl rfl) hx73) ?_
    rintro _ w170 ⟨k171, a73_0, u73_0, rfl, e172, f173⟩
    obtain ⟨K174, S175, m176⟩ := Ent.mixed (l := []) (κ := K153) e172 15 rfl
    refine ⟨(S175.cl rfl), ?_⟩
    have f178 := f173.mx (no_int _) m176 rfl (rfl : 15 + 2 = 17)
    refine WO.wa ?_
    refine WA.fork2 (fuel := 3) 7 9 (by kernel_rfl) rfl ?_ ?_
    ·
     have f179 := f169.stp S175 rfl rfl
     refine WO.call rfl rfl rfl rfl rfl rfl Try.call111 (s_l1Copy_ok (κ := fun b => mp [] 0 (K174 b)) (Sl.map f179 (mp [] 0) rfl rfl) hx77) ?_
     rintro _ w180 ⟨k181, a77_0, u77_0, rfl, e182, f183⟩
     obtain ⟨K184, S185, m186⟩ := Ent.mixed (l := []) (κ := K174) e182 18 rfl
     refine ⟨((S175.tr S185).cl rfl), ?_⟩
     have f188 := f183.mx (no_int _) m186 rfl (rfl : 18 + 2 = 20)
     refine WO.wa ?_
     refine WA.seg (fuel := 0) [(8, 2), (9, 1), (10, 1)] (by kernel_rfl) (by kernel_rfl) rfl ?_
     refine WO.k2 rfl rfl rfl rfl (rn_build (parts := [(0, .tmp 73), (1, .tmp 77)]) (cells := [.slice a73_0 x73.length u73_0, .slice a77_0 x77.length u77_0]) rfl rfl (by kernel_rfl)) ?_
     refine WO.alloc (κ := K184) 21 rfl rfl rfl rfl rfl Try.zeroValue82 rfl fun b15 w189 K190 S191 f192 => ⟨((S175.tr (S185.tr S191)).cl rfl), ?_⟩
     refine WO.stB0 (κ := K190) 21 (vc := [.slice a73_0 x73.length u73_0, .slice a77_0 x77.length u77_0]) rfl rfl rfl rfl rfl rfl rfl Try.sizeOf82 rfl rfl f192 rfl fun w193 S194 f195 => ⟨((S175.tr (S185.tr (S191.tr S194))).cl rfl), ?_⟩
     refine WO.wa ?_
     refine WA.last [] (by kernel_rfl) (by kernel_rfl) rfl ?_
     refine WO.fin ?_
     have f196 := f178.stp (S185.tr (S191.tr S194)) rfl rfl
     have f197 := f188.stp (S191.tr S194) rfl rfl
     exact DN.meet _ ⟨(fun b => ren [(17, 15), (20, 16), (21, 17)] (K190 b)), b15, a73_0, u73_0, a77_0, u77_0, rfl, (Stp.ren ((S166.tr (S175.tr (S185.tr (S191.tr S194)))).wk rfl) [(17, 15), (20, 16), (21, 17)] rfl), (f196.map (ren [(17, 15), (20, 16), (21, 17)]) rfl rfl), (f197.map (ren [(17, 15), (20, 16), (21, 17)]) rfl rfl), (f195.map (ren [(17, 15), (20, 16), (21, 17)]) rfl rfl)⟩ fun a ha => (ha.more (ha.more ha.nil rfl) rfl)
    ·
     refine WO.alloc (κ := K174) 18 rfl rfl rfl rfl rfl Try.zeroValue82 rfl fun b15 w198 K199 S200 f201 => ⟨((S175.tr S200).cl rfl), ?_⟩
     refine WO.wa ?_
     refine WA.seg (fuel := 0) [(7, 1), (8, 2), (10, 1)] (by kernel_rfl) (by kernel_rfl) rfl ?_
     have f202 := f169.stp (S175.tr S200) rfl rfl
     refine WO.call rfl rfl rfl rfl rfl rfl Try.call111 (s_l1Copy_ok (κ := fun b => mp [] 0 (K199 b)) (Sl.map f202 (mp [] 0) rfl rfl) hx77) ?_
     rintro _ w203 ⟨k204, a77_0, u77_0, rfl, e205, f206⟩
     obtain ⟨K207, S208, m209⟩ := Ent.mixed (l := []) (κ := K199) e205 19 rfl
     refine ⟨((S175.tr (S200.tr S208)).cl rfl), ?_⟩
     have f211 := f206.mx (no_int _) m209 rfl (rfl : 19 + 2 = 21)
     refine WO.k2 rfl rfl rfl rfl (rn_build (parts := [(0, .tmp 73), (1, .tmp 77)]) (cells := [.slice a73_0 x73.length u73_0, .slice a77_0 x77.length u77_0]) rfl rfl (by kernel_rfl)) ?_
     have f212 := f201.stp S208 rfl rfl
     refine WO.stB0 (κ := K207) 18 (vc := [.slice a73_0 x73.length u73_0, .slice a77_0 x77.length u77_0]) rfl rfl rfl rfl rfl rfl rfl Try.sizeOf82 rfl rfl f212 rfl fun w213 S214 f215 => ⟨((S175.tr (S200.tr (S208.tr S214))).cl rfl), ?_⟩
     refine WO.wa ?_
     refine WA.last [] (by kernel_rfl) (by kernel_rfl) rfl ?_
     refine WO.fin ?_
     have f216 := f178.stp (S200.tr (S208.tr S214)) rfl rfl
     have f217 := f211.stp S214 rfl rfl
     exact DN.meet _ ⟨(fun b => ren [(17, 15), (21, 16), (18, 17)] (K207 b)), b15, a73_0, u73_0, a77_0, u77_0, rfl, (Stp.ren ((S166.tr (S175.tr (S200.tr (S208.tr S214)))).wk rfl) [(17, 15), (21, 16), (18, 17)] rfl), (f216.map (ren [(17, 15), (21, 16), (18, 17)]) rfl rfl), (f217.map (ren [(17, 15), (21, 16), (18, 17)]) rfl rfl), (f215.map (ren [(17, 15), (21, 16), (18, 17)]) rfl rfl)⟩ fun a ha => (ha.more (ha.more ha.nil rfl) rfl)
   ·
    refine WO.alloc (κ := K153) 15 rfl rfl rfl rfl rfl Try.zeroValue82 rfl fun b15 w218 K219 S220 f221 => ⟨(S220.cl rfl), ?_⟩
    refine WO.wa ?_
    refine WA.seg (fuel := 0) [(3, 1), (7, 1), (8, 2), (10, 1)] (by kernel_rfl) (by kernel_rfl) rfl ?_
    have f222 := f167.stp S220 rfl rfl
    refine WO.call rfl rfl rfl rfl rfl rfl Try.call111 (s_l1Copy_ok (κ := fun b => mp [] 0 (K219 b)) (Sl.map f222 (mp [] 0) rfl rfl) hx73) ?_
    rintro _ w223 ⟨k224, a73_0, u73_0, rfl, e225, f226⟩
    obtain ⟨K227, S228, m229⟩ := Ent.mixed (l := []) (κ := K219) e225 16 rfl
    refine ⟨((S220.tr S228).cl rfl), ?_⟩
    have f231 := f226.mx (no_int _) m229 rfl (rfl : 16 + 2 = 18)
    have f232 := f169.stp (S220.tr S228) rfl rfl
    refine WO.call rfl rfl rfl rfl rfl rfl Try.call111 (s_l1Copy_ok (κ := fun b => mp [] 0 (K227 b)) (Sl.map f232 (mp [] 0) rfl rfl) hx77) ?_
    rintro _ w233 ⟨k234, a77_0, u77_0, rfl, e235, f236⟩
    obtain ⟨K237, S238, m239⟩ := Ent.mixed (l := []) (κ := K227) e235 19 rfl
    refine ⟨((S220.tr (S228.tr S238)).cl rfl), ?_⟩
    have f241 := f236.mx (no_int _) m239 rfl (rfl : 19 + 2 = 21)
    refine WO.k2 rfl rfl rfl rfl (rn_build (parts := [(0, .tmp 73), (1, .tmp 77)]) (cells := [.slice a73_0 x73.length u73_0, .slice a77_0 x77.length u77_0]) rfl rfl (by kernel_rfl)) ?_
    have f242 := f221.stp (S228.tr S238) rfl rfl
    refine WO.stB0 (κ := K237) 15 (vc := [.slice a73_0 x73.length u73_0, .slice a77_0 x77.length u77_0]) rfl rfl rfl rfl rfl rfl rfl Try.sizeOf82 rfl rfl f242 rfl fun w243 S244 f245 => ⟨((S220.tr (S228.tr (S238.tr S244))).cl rfl), ?_⟩
    refine WO.wa ?_
    refine WA.last [] (by kernel_rfl) (by kernel_rfl) rfl ?_
    refine WO.fin ?_
    have f246 := f231.stp (S238.tr S244) rfl rfl
    have f247 := f241.stp S244 rfl rfl
    exact DN.meet _ ⟨(fun b => ren [(18, 15), (21, 16), (15, 17)] (K237 b)), b15, a73_0, u73_0, a77_0, u77_0, rfl, (Stp.ren ((S166.tr (S220.tr (S228.tr (S238.tr S244)))).wk rfl) [(18, 15), (21, 16), (15, 17)] rfl), (f246.map (ren [(18, 15), (21, 16), (15, 17)]) rfl rfl), (f247.map (ren [(18, 15), (21, 16), (15, 17)]) rfl rfl), (f245.map (ren [(18, 15), (21, 16), (15, 17)]) rfl rfl)⟩ fun a ha => (ha.more (ha.more ha.nil rfl) rfl)
  rintro _ w158 ⟨K159, b15, lar161_0, lur161_0, lar161_1, lur161_1, rfl, S160, f162, f163, f164⟩
  refine DN.seq ?_
  refine WC.seq ?_
  refine WC.seq ?_
  refine WC.rs [(0, 2), (1, 1), (2, 2), (3, 2), (4, 2), (5, 2), (6, 1), (7, 2), (8, 2), (9, 2)] rfl ?_
  refine WO.k2 rfl rfl rfl rfl (rn_fieldAddr Try.runUnderlying82 rfl Try.sizeOf24 rfl rfl) ?_
  refine WO.k1 trivial rfl rfl rfl rfl (rn_ld Try.isAgg24 rfl rfl (hvE (f164.ld 0 rfl rfl))) ?_
  refine WO.k2 rfl rfl rfl rfl (rn_len Try.runUnderlying24 rfl rfl) ?_
  refine WO.pn 2 rfl ?_
  obtain ⟨p88, h, hK248⟩ := Option.bind_eq_some_iff.mp h
  refine WO.meet [(5, 2), (6, 1), (7, 2), (8, 2), (9, 2)] [] (fun L w' => L = [(6, .pointer (some ⟨b6, 0, none⟩)), (15, .pointer (some ⟨b15, 0, none⟩)), (88, .bool p88)] ∧ ∃ κ', Stp [] K159 w158 κ' w') trivial ?_ ?_
  ·
   revert h
   cases ht249 : decide (600 < (((⟨x73, x77⟩ : Word).Stem).length : Int)) with
   | true =>
    intro h; replace h := cT h
    refine WO.pn 1 rfl ?_
    refine WO.ls rfl rfl rfl rfl ?_
    refine WO.pn 3 rfl ?_
    obtain rfl := Option.some.inj h
    exact WO.met _ trivial ⟨rfl, _, (Stp.refl _ _).wk rfl⟩ fun a ha => (ha.more (ha.more (ha.more ha.nil rfl) rfl) rfl)
   | false =>
    intro h; replace h := cF h
    refine WO.k2 rfl rfl rfl rfl (rn_fieldAddr Try.runUnderlying82 rfl Try.sizeOf24 rfl rfl) ?_
    refine WO.k1 trivial rfl rfl rfl rfl (rn_ld Try.isAgg24 rfl rfl (hvE (f164.ld 1 rfl rfl))) ?_
    refine WO.k2 rfl rfl rfl rfl (rn_len Try.runUnderlying24 rfl rfl) ?_
    refine WO.pn 2 rfl ?_
    obtain rfl := Option.some.inj h
    exact WO.met _ trivial ⟨rfl, _, (Stp.refl _ _).wk rfl⟩ fun a ha => (ha.more (ha.more (ha.more ha.nil rfl) rfl) rfl)
  rintro _ w250 _ ⟨rfl, K251, S252⟩
  have h := hK248
  refine WO.fin ?_
  refine DN.seq ?_
  revert h
  cases ht253 : p88 with
  | true =>
   intro h; replace h := cT h
   refine WC.ct rfl ?_
   refine WC.seq ?_
   refine WC.rs [(0, 2), (1, 1), (2, 2)] rfl ?_
   refine WO.k2 rfl rfl rfl rfl (rn_build (parts := []) (cells := [.slice none 0 0, .slice none 0 0]) rfl rfl (by kernel_rfl)) ?_
   have f254 := f16.stp (S17.tr (S27.tr (S51.tr (S69.tr (S75.tr (S79.tr (S86.tr (S154.tr (S160.tr S252))))))))) rfl rfl
   refine WO.stB0 (κ := K251) 5 (vc := [.slice none 0 0, .slice none 0 0]) rfl rfl rfl rfl rfl rfl rfl Try.sizeOf82 rfl rfl f254 rfl fun w255 S256 f257 => ⟨trivial, ?_⟩
   refine WO.pn 1 rfl ?_
   refine WO.fin ?_
   refine DN.seq ?_
   refine WC.ret ?_
   refine DN.retThen ?_
   have f258 := hE.stp (S3.tr (S7.tr (S11.tr (S15.tr (S17.tr (S27.tr (S51.tr (S69.tr (S75.tr (S79.tr (S86.tr (S154.tr (S160.tr (S252.tr S256)))))))))))))) rfl rfl
   refine DN.res (l := [.cell 6 82, .tmp 7]) Try.results56 (res_cellA rfl f257 Try.isAgg82 Try.sizeOf82 rfl (res_tmp rfl rfl)) rfl ?_
   obtain rfl := Option.some.inj h
   exact ⟨K251, none, 0, none, 0, rfl, f258, Ow.nil, Ow.nil⟩
  | false =>
   intro h; replace h := cF h
   refine WC.cf rfl ?_
   refine WC.skip ?_
   refine DN.seq ?_
   refine WC.seq ?_
   refine WC.rs [(0, 1), (1, 1), (2, 2)] rfl ?_
   have f259 := f164.stp S252 rfl rfl
   refine WO.k1 trivial rfl rfl rfl rfl (rn_la (cs := [.slice lar161_0 ((⟨x73, x77⟩ : Word).Stem).length lur161_0, .slice lar161_1 ((⟨x73, x77⟩ : Word).Loop).length lur161_1]) Try.isAgg82 Try.sizeOf82 rfl rfl rfl (haE f259.cells)) ?_
   have f260 := f16.stp (S17.tr (S27.tr (S51.tr (S69.tr (S75.tr (S79.tr (S86.tr (S154.tr (S160.tr S252))))))))) rfl rfl
   refine WO.stB0 (κ := K251) 5 (vc := [.slice lar161_0 ((⟨x73, x77⟩ : Word).Stem).length lur161_0, .slice lar161_1 ((⟨x73, x77⟩ : Word).Loop).length lur161_1]) rfl rfl rfl rfl rfl rfl rfl Try.sizeOf82 rfl rfl f260 rfl fun w261 S262 f263 => ⟨trivial, ?_⟩
   refine WO.pn 1 rfl ?_
   refine WO.fin ?_
   refine DN.seq ?_
   refine WC.ret ?_
   have f264 := hE.stp (S3.tr (S7.tr (S11.tr (S15.tr (S17.tr (S27.tr (S51.tr (S69.tr (S75.tr (S79.tr (S86.tr (S154.tr (S160.tr (S252.tr S262)))))))))))))) rfl rfl
   have f265 := f162.stp (S252.tr S262) rfl rfl
   have f266 := f163.stp (S252.tr S262) rfl rfl
   refine DN.res (l := [.cell 6 82, .tmp 7]) Try.results56 (res_cellA rfl f263 Try.isAgg82 Try.sizeOf82 rfl (res_tmp rfl rfl)) rfl ?_
   obtain rfl := Option.some.inj h
   exact ⟨(fun b => ren [(15, 2), (16, 3)] (K251 b)), lar161_0, lur161_0, lar161_1, lur161_1, rfl, (f264.map (ren [(15, 2), (16, 3)]) rfl rfl), (f265.map (ren [(15, 2), (16, 3)]) rfl rfl), (f266.map (ren [(15, 2), (16, 3)]) rfl rfl)⟩

/- loop.example/g00869/impl.isRival -/
theorem i_isRival_ok {w : World} {κ : Col} {p0 : Sig} {a1_0 : Option Addr} {u1_0 : Nat} {a1_1 : Option Addr} {u1_1 : Nat} {p1 : Rival} (g1_0 : Rd (Rp.int .i64) κ w 0 a1_0 u1_0 p1.In) (g1_1 : Rd (Rp.sl (Rp.int .i64)) κ w 0 a1_1 u1_1 p1.Next) {r : Bool} (h : i_isRival p0 p1 = some r) : Ret Try.prog 74 [.agg #[.int .i64 p0.In, .int .i64 p0.Out], .agg #[.slice a1_0 p1.In.length u1_0, .slice a1_1 p1.Next.length u1_1]] w (fun v w' => ∃ (κ' : Col), v = .bool r ∧ Ent κ w κ' w') := by
 unfold i_isRival at h
 refine Ret.enter Try.func74 rfl Try.ntmps74 rfl ?_
 dsimp only [envOf]
 have hE := Ent.refl κ w
 refine WC.seq ?_
 refine WC.rs [(0, 1), (1, 1), (2, 2)] rfl ?_
 refine WO.box (κ := κ) 2 rfl rfl rfl rfl rfl rfl rfl fun b2 w1 K2 S3 f4 => ⟨trivial, ?_⟩
 refine WO.box (κ := K2) 3 rfl rfl rfl rfl rfl rfl rfl fun b3 w5 K6 S7 f8 => ⟨trivial, ?_⟩
 refine WO.pn 1 rfl ?_
 refine WO.fin ?_
 refine DN.seq ?_
 refine WC.seq ?_
 refine WC.rs [(0, 2), (1, 1), (2, 2), (3, 2)] rfl ?_
 refine WO.k2 rfl rfl rfl rfl (rn_fieldAddr Try.runUnderlying32 rfl Try.sizeOf24 rfl rfl) ?_
 refine WO.k1 trivial rfl rfl rfl rfl (rn_ld Try.isAgg24 rfl rfl (hvE (f8.ld 0 rfl rfl))) ?_
 refine WO.k2 rfl rfl rfl rfl (rn_len Try.runUnderlying24 rfl rfl) ?_
 refine WO.pn 1 rfl ?_
 refine WO.fin ?_
 refine DN.seq ?_
 refine WC.seq ?_
 refine WC.seq ?_
 refine WC.rx (κ := K6) 3 none [(0, 2), (1, 2), (2, 2), (3, 2), (4, 2), (5, 2), (6, 2), (7, 2), (10, 2), (8, 0), (9, 2), (11, 0), (12, 2), (13, 2), (14, 2), (15, 2), (16, 2), (17, 0), (18, 0), (19, 1), (20, 1), (21, 2), (22, 2)] [] (by kernel_rfl) (by kernel_rfl) fun w10 S9 => ?_
 refine WO.pn 3 rfl ?_
 obtain ⟨p16, h, hK11⟩ := Option.bind_eq_some_iff.mp h
 refine WO.meet [(3, 2), (4, 2), (5, 2)] [(6, 2), (7, 2), (10, 2), (8, 0), (9, 2), (11, 0), (12, 2), (13, 2), (14, 2), (15, 2), (16, 2), (17, 0), (18, 0), (19, 1), (20, 1), (21, 2), (22, 2)] (fun L w' => L = [(2, .pointer (some ⟨b2, 0, none⟩)), (3, .pointer (some ⟨b3, 0, none⟩)), (5, .int .i64 (p1.In.length : Int)), (16, .bool p16)] ∧ ∃ κ', Stp [] K6 w10 κ' w') (Cl.refl _ _ _) ?_ ?_
 ·
  revert h
  cases ht12 : decide ((p1.In.length : Int) < 1) with
  | true =>
   intro h; replace h := cT h
   refine WO.pn 3 rfl ?_
   obtain rfl := Option.some.inj h
   exact WO.met _ (Cl.refl _ _ _) ⟨rfl, _, (Stp.refl _ _).wk rfl⟩ fun a ha => (ha.more (ha.more (ha.more (ha.more ha.nil rfl) rfl) rfl) rfl)
  | false =>
   intro h; replace h := cF h
   refine WO.pn 3 rfl ?_
   obtain rfl := Option.some.inj h
   exact WO.met _ (Cl.refl _ _ _) ⟨rfl, _, (Stp.refl _ _).wk rfl⟩ fun a ha => (ha.more (ha.more (ha.more (ha.more ha.nil rfl) rfl) rfl) rfl)
 rintro _ w13 _ ⟨rfl, K14, S15⟩
 have h := hK11
 refine WO.pn 1 rfl ?_
 obtain ⟨p25, h, hK16⟩ := Option.bind_eq_some_iff.mp h
 refine WO.meet [(7, 2), (10, 2), (8, 0), (9, 2), (11, 0), (12, 2), (13, 2), (14, 2)] [(15, 2), (16, 2), (17, 0), (18, 0), (19, 1), (20, 1), (21, 2), (22, 2)] (fun L w' => L = [(2, .pointer (some ⟨b2, 0, none⟩)), (3, .pointer (some ⟨b3, 0, none⟩)), (5, .int .i64 (p1.In.length : Int)), (25, .bool p25)] ∧ ∃ κ', Stp [] K14 w13 κ' w') (S15.cl rfl) ?_ ?_
 ·
  revert h
  cases ht17 : p16 with
  | true =>
   intro h; replace h := cT h
   refine WO.pn 2 rfl ?_
   refine WO.qs rfl rfl rfl rfl ?_
   refine WO.pn 1 rfl ?_
   refine WO.qs rfl rfl rfl rfl ?_
   refine WO.pn 3 rfl ?_
   obtain rfl := Option.some.inj h
   exact WO.met _ (S15.cl rfl) ⟨rfl, _, (Stp.refl _ _).wk rfl⟩ fun a ha => (ha.more (ha.more (ha.more (ha.more ha.nil rfl) rfl) rfl) rfl)
  | false =>
   intro h; replace h := cF h
   refine WO.k2 rfl rfl rfl rfl (rn_fieldAddr Try.runUnderlying32 rfl Try.sizeOf25 rfl rfl) ?_
   refine WO.k2 rfl rfl rfl rfl (rn_fieldAddr Try.runUnderlying32 rfl Try.sizeOf24 rfl rfl) ?_
   have f18 := f8.stp S9 rfl rfl
   refine WO.k0 rfl rfl rfl rfl (rn_ld Try.isAgg25 rfl rfl (hvC (f18.ld 1 rfl rfl) rfl)) ?_
   refine WO.k2 rfl rfl rfl rfl (rn_len Try.runUnderlying25 rfl rfl) ?_
   refine WO.k0 rfl rfl rfl rfl (rn_ld Try.isAgg24 rfl rfl (hvC (f18.ld 0 rfl rfl) rfl)) ?_
   refine WO.k2 rfl rfl rfl rfl (rn_len Try.runUnderlying24 rfl rfl) ?_
   refine WO.pn 2 rfl ?_
   obtain rfl := Option.some.inj h
   exact WO.met _ (S15.cl rfl) ⟨rfl, _, (Stp.refl _ _).wk rfl⟩ fun a ha => (ha.more (ha.more (ha.more (ha.more ha.nil rfl) rfl) rfl) rfl)
 rintro _ w19 _ ⟨rfl, K20, S21⟩
 have h := hK16
 refine WO.pn 1 rfl ?_
 obtain ⟨p33, h, hK22⟩ := Option.bind_eq_some_iff.mp h
 refine WO.meet [(16, 2), (17, 0), (18, 0), (19, 1), (20, 1), (21, 2), (22, 2)] [] (fun L w' => L = [(2, .pointer (some ⟨b2, 0, none⟩)), (3, .pointer (some ⟨b3, 0, none⟩)), (5, .int .i64 (p1.In.length : Int)), (33, .bool p33)] ∧ ∃ κ', Stp [] K20 w19 κ' w') ((S15.tr S21).cl rfl) ?_ ?_
 ·
  revert h
  cases ht23 : p25 with
  | true =>
   intro h; replace h := cT h
   refine WO.pn 1 rfl ?_
   refine WO.qs rfl rfl rfl rfl ?_
   refine WO.qs rfl rfl rfl rfl ?_
   refine WO.ls rfl rfl rfl rfl ?_
   refine WO.ls rfl rfl rfl rfl ?_
   refine WO.pn 2 rfl ?_
   obtain rfl := Option.some.inj h
   exact WO.met _ ((S15.tr S21).cl rfl) ⟨rfl, _, (Stp.refl _ _).wk rfl⟩ fun a ha => (ha.more (ha.more (ha.more (ha.more ha.nil rfl) rfl) rfl) rfl)
  | false =>
   intro h; replace h := cF h
   refine WO.k2 rfl rfl rfl rfl (rn_fieldAddr Try.runUnderlying32 rfl Try.sizeOf24 rfl rfl) ?_
   have f24 := f8.stp S9 rfl rfl
   refine WO.k0 rfl rfl rfl rfl (rn_ld Try.isAgg24 rfl rfl (hvC (f24.ld 0 rfl rfl) rfl)) ?_
   have f25 := f4.stp (S7.tr S9) rfl rfl
   refine WO.k0 rfl rfl rfl rfl (rn_la (cs := [.int .i64 p0.In, .int .i64 p0.Out]) Try.isAgg30 Try.sizeOf30 rfl rfl rfl (haC f25.cells rfl)) ?_
   obtain ⟨x30, hx30, h⟩ := Option.bind_eq_some_iff.mp h
   refine WO.call rfl rfl rfl rfl rfl rfl Try.call106 (i_inputsOf_ok (κ := fun b => mp [] 0 (K20 b)) (p0 := p0) hx30) ?_
   rintro _ w26 ⟨k27, rfl, e28⟩
   obtain ⟨K29, S30, m31⟩ := Ent.mixed (l := []) (κ := K20) e28 4 rfl
   refine ⟨((S15.tr (S21.tr S30)).cl rfl), ?_⟩
   obtain ⟨x31, hx31, h⟩ := Option.bind_eq_some_iff.mp h
   have f33 := g1_0.stp (S3.tr (S7.tr (S9.tr (S15.tr (S21.tr S30))))) rfl rfl
   refine WO.call rfl rfl rfl rfl rfl rfl Try.call80 (i_areLetters_ok (κ := fun b => mp [] 0 (K29 b)) (Sl.map f33 (mp [] 0) rfl rfl) hx31) ?_
   rintro _ w34 ⟨k35, rfl, e36⟩
   obtain ⟨K37, S38, m39⟩ := Ent.mixed (l := []) (κ := K29) e36 6 rfl
   refine ⟨((S15.tr (S21.tr (S30.tr S38))).cl rfl), ?_⟩
   refine WO.pn 2 rfl ?_
   obtain rfl := Option.some.inj h
   exact WO.met _ ((S15.tr (S21.tr (S30.tr S38))).cl rfl) ⟨rfl, _, (S30.tr S38).wk rfl⟩ fun a ha => (ha.more (ha.more (ha.more (ha.more ha.nil rfl) rfl) rfl) rfl)
 rintro _ w41 _ ⟨rfl, K42, S43⟩
 have h := hK22
 refine WO.nx ?_
 refine WO.fin ?_
 refine DN.seq ?_
 revert h
 cases ht44 : p33 with
 | true =>
  intro h; replace h := cT h
  refine WC.ct rfl ?_
  refine WC.seq ?_
  refine WC.rs [(0, 2)] rfl ?_
  refine WO.pn 1 rfl ?_
  refine WO.fin ?_
  refine DN.seq ?_
  refine WC.ret ?_
  refine DN.retThen ?_
  have f45 := hE.stp (S3.tr (S7.tr (S9.tr (S15.tr (S21.tr S43))))) rfl rfl
  refine DN.res (l := [.tmp 4]) Try.results74 (res_tmp rfl rfl) rfl ?_
  obtain rfl := Option.some.inj h
  exact ⟨K42, rfl, f45⟩
 | false =>
  intro h; replace h := cF h
  refine WC.cf rfl ?_
  refine WC.skip ?_
  refine DN.seq ?_
  refine WC.seq ?_
  refine WC.seq ?_
  refine WC.rs [(0, 2), (1, 1), (2, 2), (3, 2)] rfl ?_
  refine WO.k2 rfl rfl rfl rfl (rn_fieldAddr Try.runUnderlying32 rfl Try.sizeOf25 rfl rfl) ?_
  have f46 := f8.stp (S9.tr (S15.tr (S21.tr S43))) rfl rfl
  refine WO.k1 trivial rfl rfl rfl rfl (rn_ld Try.isAgg25 rfl rfl (hvE (f46.ld 1 rfl rfl))) ?_
  refine WO.k2 rfl rfl rfl rfl (rn_len Try.runUnderlying25 rfl rfl) ?_
  refine WO.pn 1 rfl ?_
  refine WO.fin ?_
  refine DN.seq ?_
  have hN47 : (p1.Next.length : Int) ≤ 9223372036854775807 := g1_1.len_le
  obtain ⟨q2, hq49, hK48⟩ := Option.bind_eq_some_iff.mp h
  clear h
  refine WC.meet (fun L w' => ∃ (κ' : Col), L = [] ∧ Stp [] K42 w41 κ' w' ∧ q2 = Sum.inr ()) ?_ ?_
  ·
   refine WC.block ?_
   refine WC.loop (fun k L w' => ∃ (κ' : Col) (v37 : Int), L = [(2, .pointer (some ⟨b2, 0, none⟩)), (5, .int .i64 (p1.In.length : Int)), (35, .slice a1_1 p1.Next.length u1_1), (36, .int .i64 (p1.Next.length : Int)), (37, .int .i64 v37)] ∧ Stp [] K42 w41 κ' w' ∧ 0 ≤ v37 ∧ Int.toNat ((p1.Next.length : Int) - v37) = k ∧ cntM (i_isRival_b0 p0 p1) k v37 () = some q2) ⟨_, _, ⟨K42, 0, rfl, (Stp.refl _ _).wk rfl, (by decide), (by simp), hq49⟩, fun a ha => (ha.more (ha.more (ha.more (ha.more (ha.more ha.nil rfl) rfl) rfl) rfl) rfl)⟩ ?_
   rintro k _ w53 ⟨K54, v37, rfl, S55, hj47, hJ47, h⟩
   rcases k with _ | k
   ·
    have hk56 := h; obtain ⟨o47, h⟩ := ex_eq (Sum.inr (Sum.inl ()) : Bool ⊕ ((Unit) ⊕ (Unit)))
    have hc47 : decide (v37 < (p1.Next.length : Int)) = false := decide_eq_false (by omega)
    refine WC.seq ?_
    refine WC.rs [(0, 2)] rfl ?_
    refine WO.pn 1 rfl ?_
    refine WO.fin ?_
    refine DN.seq ?_
    refine WC.seq ?_
    refine WC.cf' rfl hc47 ?_
    refine WC.exit ?_
    refine DN.exitThen ?_
    refine DN.exitThen ?_
    obtain rfl := Option.some.inj h
    have h := hk56
    refine DN.hit ?_
    obtain rfl := Option.some.inj h
    exact DN.meet _ ⟨K54, rfl, S55.wk rfl, rfl⟩ fun a ha => ha.nil
   ·
    obtain ⟨o47, h, hk56⟩ := Option.bind_eq_some_iff.mp h; unfold i_isRival_b0 at h
    have hc47 : decide (v37 < (p1.Next.length : Int)) = true := decide_eq_true (by omega)
    refine WC.seq ?_
    refine WC.rs [(0, 2)] rfl ?_
    refine WO.pn 1 rfl ?_
    refine WO.fin ?_
    refine DN.seq ?_
    refine WC.seq ?_
    refine WC.ct' rfl hc47 ?_
    refine WC.skip ?_
    refine DN.seq ?_
    refine WC.seq ?_
    refine WC.block ?_
    refine WC.seq ?_
    refine WC.rs [(0, 2), (1, 1), (2, 2)] rfl ?_
    obtain ⟨x39, hx39, h⟩ := Option.bind_eq_some_iff.mp h
    refine WO.k2 rfl rfl rfl rfl (rn_index g1_1 hx39 Try.runUnderlying25 Try.sizeOf24 rfl rfl rfl rfl) ?_
    have f57 := g1_1.stp (S3.tr (S7.tr (S9.tr (S15.tr (S21.tr (S43.tr S55)))))) rfl rfl
    obtain ⟨ax39, ux39, f58, hl59⟩ := f57.gSl hx39
    refine WO.k1 trivial rfl rfl rfl rfl (rn_ld Try.isAgg24 rfl rfl (hvE hl59)) ?_
    refine WO.pn 1 rfl ?_
    refine WO.fin ?_
    refine DN.seq ?_
    refine WC.seq ?_
    refine WC.rs [(0, 2), (1, 2), (2, 2), (3, 1), (4, 2), (5, 2), (6, 2), (7, 2), (8, 2), (9, 1), (10, 2), (11, 2)] rfl ?_
    refine WO.pn 1 rfl ?_
    refine WO.k2 rfl rfl rfl rfl (rn_len Try.runUnderlying24 rfl rfl) ?_
    refine WO.k2 rfl rfl rfl rfl (rn_fieldAddr Try.runUnderlying30 rfl Try.sizeOf2 rfl rfl) ?_
    have f60 := f4.stp (S7.tr (S9.tr (S15.tr (S21.tr (S43.tr S55))))) rfl rfl
    refine WO.k1 trivial rfl rfl rfl rfl (rn_ld Try.isAgg2 rfl rfl (hvE (f60.ld 1 rfl rfl))) ?_
    obtain ⟨_z45, hz45, h⟩ := Option.bind_eq_some_iff.mp h
    refine WO.k2 rfl rfl rfl rfl (rn_shl rfl rfl rfl (nn_ok hz45)) ?_
    refine WO.pn 2 rfl ?_
    obtain ⟨p52, h, hK61⟩ := Option.bind_eq_some_iff.mp h
    refine WO.meet [(7, 2), (8, 2), (9, 1), (10, 2), (11, 2)] [] (fun L w' => L = [(2, .pointer (some ⟨b2, 0, none⟩)), (5, .int .i64 (p1.In.length : Int)), (35, .slice a1_1 p1.Next.length u1_1), (36, .int .i64 (p1.Next.length : Int)), (37, .int .i64 v37), (52, .bool p52)] ∧ ∃ κ', Stp [] K54 w53 κ' w') trivial ?_ ?_
    ·
     revert h
     cases ht62 : ((x39.length : Int) != (IntKind.i64.wrap (1 * 2 ^ (min (Int.toNat p0.Out) (IntKind.bits IntKind.i64))))) with
     | true =>
      intro h; replace h := cT h
      refine WO.pn 2 rfl ?_
      refine WO.ls rfl rfl rfl rfl ?_
      refine WO.pn 2 rfl ?_
      obtain rfl := Option.some.inj h
      exact WO.met _ trivial ⟨rfl, _, (Stp.refl _ _).wk rfl⟩ fun a ha => (ha.more (ha.more (ha.more (ha.more (ha.more (ha.more ha.nil rfl) rfl) rfl) rfl) rfl) rfl)
     | false =>
      intro h; replace h := cF h
      refine WO.pn 2 rfl ?_
      obtain ⟨x50, hx50, h⟩ := Option.bind_eq_some_iff.mp h
      refine WO.call rfl rfl rfl rfl rfl rfl Try.call80 (i_areLetters_ok (κ := fun b => mp [] 0 (K54 b)) (Sl.map f58 (mp [] 0) rfl rfl) hx50) ?_
      rintro _ w63 ⟨k64, rfl, e65⟩
      obtain ⟨K66, S67, m68⟩ := Ent.mixed (l := []) (κ := K54) e65 4 rfl
      refine ⟨trivial, ?_⟩
      refine WO.pn 2 rfl ?_
      obtain rfl := Option.some.inj h
      exact WO.met _ trivial ⟨rfl, _, S67.wk rfl⟩ fun a ha => (ha.more (ha.more (ha.more (ha.more (ha.more (ha.more ha.nil rfl) rfl) rfl) rfl) rfl) rfl)
    rintro _ w70 _ ⟨rfl, K71, S72⟩
    have h := hK61
    refine WO.fin ?_
    refine DN.seq ?_
    revert h
    cases ht73 : p52 with
    | true =>
     intro h; replace h := cT h
     refine WC.ct rfl ?_
     refine WC.seq ?_
     refine WC.rs [(0, 2)] rfl ?_
     refine WO.pn 1 rfl ?_
     refine WO.fin ?_
     refine DN.seq ?_
     refine WC.ret ?_
     refine DN.retBlock ?_
     refine DN.retThen ?_
     refine DN.retThen ?_
     obtain rfl := Option.some.inj h
     obtain rfl := Option.some.inj hk56
     have h := hK48
     dsimp only [aft] at h
     refine DN.retBlock ?_
     refine DN.retMeet ?_
     refine DN.retThen ?_
     have f74 := hE.stp (S3.tr (S7.tr (S9.tr (S15.tr (S21.tr (S43.tr (S55.tr S72))))))) rfl rfl
     refine DN.res (l := [.tmp 4]) Try.results74 (res_tmp rfl rfl) rfl ?_
     obtain rfl := Option.some.inj h
     exact ⟨K71, rfl, f74⟩
    | false =>
     intro h; replace h := cF h
     refine WC.cf rfl ?_
     refine WC.skip ?_
     refine DN.block ?_
     refine DN.seq ?_
     refine WC.rs [(0, 2), (1, 2)] rfl ?_
     refine WO.pn 2 rfl ?_
     refine WO.fin ?_
     have hw47 : IntKind.wrap .i64 (v37 + 1) = v37 + 1 := wr1 hj47 (of_decide_eq_true hc47) hN47
     rw [hw47]
     have hc47 := of_decide_eq_true hc47
     obtain rfl := Option.some.inj h
     refine DN.round fun a ha => ?_
     exact ⟨k, _, Nat.lt_succ_self _, ⟨K71, v37 + 1, rfl, (S55.tr S72).wk rfl, by omega, by omega, hk56⟩, (ha.more (ha.more (ha.more (ha.more (ha.more ha.nil rfl) rfl) rfl) rfl) rfl)⟩
  rintro _ w50 ⟨K51, rfl, S52, rfl⟩
  have h := hK48
  dsimp only [aft] at h
  refine DN.seq ?_
  refine WC.seq ?_
  refine WC.rs [(0, 2)] rfl ?_
  refine WO.pn 1 rfl ?_
  refine WO.fin ?_
  refine DN.seq ?_
  refine WC.ret ?_
  have f75 := hE.stp (S3.tr (S7.tr (S9.tr (S15.tr (S21.tr (S43.tr S52)))))) rfl rfl
  refine DN.res (l := [.tmp 4]) Try.results74 (res_tmp rfl rfl) rfl ?_
  obtain rfl := Option.some.inj h
  exact ⟨K51, rfl, f75⟩

/- loop.example/g00869/impl.isWord -/
theorem i_isWord_ok {w : World} {κ : Col} {a0_0 : Option Addr} {u0_0 : Nat} {a0_1 : Option Addr} {u0_1 : Nat} {p0 : Word} {p1 : Int} (g0_0 : Rd (Rp.int .i64) κ w 0 a0_0 u0_0 p0.Stem) (g0_1 : Rd (Rp.int .i64) κ w 0 a0_1 u0_1 p0.Loop) {r : Bool} (h : i_isWord p0 p1 = some r) : Ret Try.prog 105 [.agg #[.slice a0_0 p0.Stem.length u0_0, .slice a0_1 p0.Loop.length u0_1], .int .i64 p1] w (fun v w' => ∃ (κ' : Col), v = .bool r ∧ Ent κ w κ' w') := by
 unfold i_isWord at h
 refine Ret.enter Try.func105 rfl Try.ntmps105 rfl ?_
 dsimp only [envOf]
 have hE := Ent.refl κ w
 refine WC.seq ?_
 refine WC.rs [(0, 1), (1, 2)] rfl ?_
 refine WO.box (κ := κ) 2 rfl rfl rfl rfl rfl rfl rfl fun b2 w1 K2 S3 f4 => ⟨trivial, ?_⟩
 refine WO.pn 1 rfl ?_
 refine WO.fin ?_
 refine DN.seq ?_
 refine WC.seq ?_
 refine WC.rs [(0, 2), (1, 1), (2, 2), (3, 2), (4, 2), (5, 2), (6, 1), (7, 2), (8, 2), (9, 2), (10, 2), (11, 2), (12, 1), (13, 2), (14, 2), (15, 2), (16, 2), (17, 2), (18, 1), (19, 2), (20, 1), (21, 2), (22, 2), (23, 2), (24, 1), (25, 2), (26, 1), (27, 2), (28, 2)] rfl ?_
 refine WO.k2 rfl rfl rfl rfl (rn_fieldAddr Try.runUnderlying82 rfl Try.sizeOf24 rfl rfl) ?_
 refine WO.k1 trivial rfl rfl rfl rfl (rn_ld Try.isAgg24 rfl rfl (hvE (f4.ld 0 rfl rfl))) ?_
 refine WO.k2 rfl rfl rfl rfl (rn_len Try.runUnderlying24 rfl rfl) ?_
 refine WO.pn 2 rfl ?_
 obtain ⟨p14, h, hK5⟩ := Option.bind_eq_some_iff.mp h
 refine WO.meet [(5, 2), (6, 1), (7, 2), (8, 2), (9, 2)] [(10, 2), (11, 2), (12, 1), (13, 2), (14, 2), (15, 2), (16, 2), (17, 2), (18, 1), (19, 2), (20, 1), (21, 2), (22, 2), (23, 2), (24, 1), (25, 2), (26, 1), (27, 2), (28, 2)] (fun L w' => L = [(1, .int .i64 p1), (2, .pointer (some ⟨b2, 0, none⟩)), (4, .bool false), (14, .bool p14)] ∧ ∃ κ', Stp [] K2 w1 κ' w') trivial ?_ ?_
 ·
  revert h
  cases ht6 : decide ((p0.Stem.length : Int) ≤ 600) with
  | true =>
   intro h; replace h := cT h
   refine WO.k2 rfl rfl rfl rfl (rn_fieldAddr Try.runUnderlying82 rfl Try.sizeOf24 rfl rfl) ?_
   refine WO.k1 trivial rfl rfl rfl rfl (rn_ld Try.isAgg24 rfl rfl (hvE (f4.ld 1 rfl rfl))) ?_
   refine WO.k2 rfl rfl rfl rfl (rn_len Try.runUnderlying24 rfl rfl) ?_
   refine WO.pn 2 rfl ?_
   obtain rfl := Option.some.inj h
   exact WO.met _ trivial ⟨rfl, _, (Stp.refl _ _).wk rfl⟩ fun a ha => (ha.more (ha.more (ha.more (ha.more ha.nil rfl) rfl) rfl) rfl)
  | false =>
   intro h; replace h := cF h
   refine WO.pn 1 rfl ?_
   refine WO.ls rfl rfl rfl rfl ?_
   refine WO.pn 3 rfl ?_
   obtain rfl := Option.some.inj h
   exact WO.met _ trivial ⟨rfl, _, (Stp.refl _ _).wk rfl⟩ fun a ha => (ha.more (ha.more (ha.more (ha.more ha.nil rfl) rfl) rfl) rfl)
 rintro _ w7 _ ⟨rfl, K8, S9⟩
 have h := hK5
 refine WO.pn 1 rfl ?_
 obtain ⟨p20, h, hK10⟩ := Option.bind_eq_some_iff.mp h
 refine WO.meet [(11, 2), (12, 1), (13, 2), (14, 2), (15, 2)] [(16, 2), (17, 2), (18, 1), (19, 2), (20, 1), (21, 2), (22, 2), (23, 2), (24, 1), (25, 2), (26, 1), (27, 2), (28, 2)] (fun L w' => L = [(1, .int .i64 p1), (2, .pointer (some ⟨b2, 0, none⟩)), (4, .bool false), (20, .bool p20)] ∧ ∃ κ', Stp [] K8 w7 κ' w') trivial ?_ ?_
 ·
  revert h
  cases ht11 : p14 with
  | true =>
   intro h; replace h := cT h
   refine WO.k2 rfl rfl rfl rfl (rn_fieldAddr Try.runUnderlying82 rfl Try.sizeOf24 rfl rfl) ?_
   have f12 := f4.stp S9 rfl rfl
   refine WO.k1 trivial rfl rfl rfl rfl (rn_ld Try.isAgg24 rfl rfl (hvE (f12.ld 1 rfl rfl))) ?_
   refine WO.k2 rfl rfl rfl rfl (rn_len Try.runUnderlying24 rfl rfl) ?_
   refine WO.pn 2 rfl ?_
   obtain rfl := Option.some.inj h
   exact WO.met _ trivial ⟨rfl, _, (Stp.refl _ _).wk rfl⟩ fun a ha => (ha.more (ha.more (ha.more (ha.more ha.nil rfl) rfl) rfl) rfl)
  | false =>
   intro h; replace h := cF h
   refine WO.pn 1 rfl ?_
   refine WO.ls rfl rfl rfl rfl ?_
   refine WO.pn 3 rfl ?_
   obtain rfl := Option.some.inj h
   exact WO.met _ trivial ⟨rfl, _, (Stp.refl _ _).wk rfl⟩ fun a ha => (ha.more (ha.more (ha.more (ha.more ha.nil rfl) rfl) rfl) rfl)
 rintro _ w13 _ ⟨rfl, K14, S15⟩
 have h := hK10
 refine WO.pn 1 rfl ?_
 obtain ⟨p26, h, hK16⟩ := Option.bind_eq_some_iff.mp h
 refine WO.meet [(17, 2), (18, 1), (19, 2), (20, 1), (21, 2)] [(22, 2), (23, 2), (24, 1), (25, 2), (26, 1), (27, 2), (28, 2)] (fun L w' => L = [(1, .int .i64 p1), (2, .pointer (some ⟨b2, 0, none⟩)), (4, .bool false), (26, .bool p26)] ∧ ∃ κ', Stp [] K14 w13 κ' w') trivial ?_ ?_
 ·
  revert h
  cases ht17 : p20 with
  | true =>
   intro h; replace h := cT h
   refine WO.k2 rfl rfl rfl rfl (rn_fieldAddr Try.runUnderlying82 rfl Try.sizeOf24 rfl rfl) ?_
   have f18 := f4.stp (S9.tr S15) rfl rfl
   refine WO.k1 trivial rfl rfl rfl rfl (rn_ld Try.isAgg24 rfl rfl (hvE (f18.ld 0 rfl rfl))) ?_
   refine WO.pn 1 rfl ?_
   obtain ⟨x25, hx25, h⟩ := Option.bind_eq_some_iff.mp h
   have f19 := g0_0.stp (S3.tr (S9.tr S15)) rfl rfl
   refine WO.call rfl rfl rfl rfl rfl rfl Try.call80 (i_areLetters_ok (κ := fun b => mp [] 0 (K14 b)) (Sl.map f19 (mp [] 0) rfl rfl) hx25) ?_
   rintro _ w20 ⟨k21, rfl, e22⟩
   obtain ⟨K23, S24, m25⟩ := Ent.mixed (l := []) (κ := K14) e22 3 rfl
   refine ⟨trivial, ?_⟩
   refine WO.pn 1 rfl ?_
   obtain rfl := Option.some.inj h
   exact WO.met _ trivial ⟨rfl, _, S24.wk rfl⟩ fun a ha => (ha.more (ha.more (ha.more (ha.more ha.nil rfl) rfl) rfl) rfl)
  | false =>
   intro h; replace h := cF h
   refine WO.pn 1 rfl ?_
   refine WO.ls rfl rfl rfl rfl ?_
   refine WO.pn 1 rfl ?_
   refine WO.ls rfl rfl rfl rfl ?_
   refine WO.pn 1 rfl ?_
   obtain rfl := Option.some.inj h
   exact WO.met _ trivial ⟨rfl, _, (Stp.refl _ _).wk rfl⟩ fun a ha => (ha.more (ha.more (ha.more (ha.more ha.nil rfl) rfl) rfl) rfl)
 rintro _ w27 _ ⟨rfl, K28, S29⟩
 have h := hK16
 refine WO.pn 1 rfl ?_
 obtain ⟨p32, h, hK30⟩ := Option.bind_eq_some_iff.mp h
 refine WO.meet [(23, 2), (24, 1), (25, 2), (26, 1), (27, 2)] [(28, 2)] (fun L w' => L = [(4, .bool false), (32, .bool p32)] ∧ ∃ κ', Stp [] K28 w27 κ' w') trivial ?_ ?_
 ·
  revert h
  cases ht31 : p26 with
  | true =>
   intro h; replace h := cT h
   refine WO.k2 rfl rfl rfl rfl (rn_fieldAddr Try.runUnderlying82 rfl Try.sizeOf24 rfl rfl) ?_
   have f32 := f4.stp (S9.tr (S15.tr S29)) rfl rfl
   refine WO.k1 trivial rfl rfl rfl rfl (rn_ld Try.isAgg24 rfl rfl (hvE (f32.ld 1 rfl rfl))) ?_
   refine WO.pn 1 rfl ?_
   obtain ⟨x31, hx31, h⟩ := Option.bind_eq_some_iff.mp h
   have f33 := g0_1.stp (S3.tr (S9.tr (S15.tr S29))) rfl rfl
   refine WO.call rfl rfl rfl rfl rfl rfl Try.call80 (i_areLetters_ok (κ := fun b => mp [] 0 (K28 b)) (Sl.map f33 (mp [] 0) rfl rfl) hx31) ?_
   rintro _ w34 ⟨k35, rfl, e36⟩
   obtain ⟨K37, S38, m39⟩ := Ent.mixed (l := []) (κ := K28) e36 3 rfl
   refine ⟨trivial, ?_⟩
   refine WO.pn 1 rfl ?_
   obtain rfl := Option.some.inj h
   exact WO.met _ trivial ⟨rfl, _, S38.wk rfl⟩ fun a ha => (ha.more (ha.more ha.nil rfl) rfl)
  | false =>
   intro h; replace h := cF h
   refine WO.pn 1 rfl ?_
   refine WO.ls rfl rfl rfl rfl ?_
   refine WO.pn 1 rfl ?_
   refine WO.ls rfl rfl rfl rfl ?_
   refine WO.pn 1 rfl ?_
   obtain rfl := Option.some.inj h
   exact WO.met _ trivial ⟨rfl, _, (Stp.refl _ _).wk rfl⟩ fun a ha => (ha.more (ha.more ha.nil rfl) rfl)
 rintro _ w41 _ ⟨rfl, K42, S43⟩
 have h := hK30
 refine WO.pn 1 rfl ?_
 refine WO.fin ?_
 refine DN.seq ?_
 refine WC.ret ?_
 have f44 := hE.stp (S3.tr (S9.tr (S15.tr (S29.tr S43)))) rfl rfl
 refine DN.res (l := [.tmp 4]) Try.results105 (res_tmp rfl rfl) rfl ?_
 obtain rfl := Option.some.inj h
 exact ⟨K42, rfl, f44⟩

/- loop.example/g00869/impl.RivalWord -/
theorem i_RivalWord_ok {w : World} {κ : Col} {p0 : Sig} {a1_0 : Option Addr} {u1_0 : Nat} {a1_1 : Option Addr} {u1_1 : Nat} {p1 : Rival} {a2_0 : Option Addr} {u2_0 : Nat} {a2_1 : Option Addr} {u2_1 : Nat} {p2 : Word} (g1_0 : Rd (Rp.int .i64) κ w 0 a1_0 u1_0 p1.In) (g1_1 : Rd (Rp.sl (Rp.int .i64)) κ w 0 a1_1 u1_1 p1.Next) (g2_0 : Rd (Rp.int .i64) κ w 0 a2_0 u2_0 p2.Stem) (g2_1 : Rd (Rp.int .i64) κ w 0 a2_1 u2_1 p2.Loop) {r : Word × Bool} (h : i_RivalWord p0 p1 p2 = some r) : Ret Try.prog 57 [.agg #[.int .i64 p0.In, .int .i64 p0.Out], .agg #[.slice a1_0 p1.In.length u1_0, .slice a1_1 p1.Next.length u1_1], .agg #[.slice a2_0 p2.Stem.length u2_0, .slice a2_1 p2.Loop.length u2_1]] w (fun v w' => ∃ (κ' : Col) (ra0 : Option Addr) (ru0 : Nat) (ra1 : Option Addr) (ru1 : Nat), v = .tuple #[.agg #[.slice ra0 r.1.Stem.length ru0, .slice ra1 r.1.Loop.length ru1], .bool r.2] ∧ Ent κ w κ' w' ∧ Oc (Ep.int .i64) 2 κ' w' 2 ra0 ru0 r.1.Stem ∧ Oc (Ep.int .i64) 2 κ' w' 3 ra1 ru1 r.1.Loop) := by
 unfold i_RivalWord at h
 refine Ret.enter Try.func57 rfl Try.ntmps57 rfl ?_
 dsimp only [envOf]
 have hE := Ent.refl κ w
 refine WC.seq ?_
 refine WC.rs [(0, 1), (1, 1), (2, 1), (3, 1), (4, 2)] rfl ?_
 refine WO.box (κ := κ) 2 rfl rfl rfl rfl rfl rfl rfl fun b3 w1 K2 S3 f4 => ⟨trivial, ?_⟩
 refine WO.box (κ := K2) 3 rfl rfl rfl rfl rfl rfl rfl fun b4 w5 K6 S7 f8 => ⟨trivial, ?_⟩
 refine WO.box (κ := K6) 4 rfl rfl rfl rfl rfl rfl rfl fun b5 w9 K10 S11 f12 => ⟨trivial, ?_⟩
 refine WO.alloc (κ := K10) 5 rfl rfl rfl rfl rfl Try.zeroValue82 rfl fun b6 w13 K14 S15 f16 => ⟨trivial, ?_⟩
 refine WO.pn 1 rfl ?_
 refine WO.fin ?_
 refine DN.seq ?_
 refine WC.seq ?_
 refine WC.seq ?_
 refine WC.rx (κ := K14) 5 none [(0, 0), (1, 1), (2, 2), (3, 2), (4, 0), (5, 0), (6, 1), (7, 2), (8, 2), (9, 2), (11, 2), (10, 0), (12, 0), (13, 2), (14, 1), (15, 2), (16, 2)] [] (by kernel_rfl) (by kernel_rfl) fun w18 S17 => ?_
 have f19 := f4.stp (S7.tr (S11.tr (S15.tr S17))) rfl rfl
 refine WO.k0 rfl rfl rfl rfl (rn_la (cs := [.int .i64 p0.In, .int .i64 p0.Out]) Try.isAgg30 Try.sizeOf30 rfl rfl rfl (haC f19.cells rfl)) ?_
 obtain ⟨x13, hx13, h⟩ := Option.bind_eq_some_iff.mp h
 refine WO.call rfl rfl rfl rfl rfl rfl Try.call73 (i_isSig_ok (κ := fun b => mp [] 0 (K14 b)) (p0 := p0) hx13) ?_
 rintro _ w20 ⟨k21, rfl, e22⟩
 obtain ⟨K23, S24, m25⟩ := Ent.mixed (l := []) (κ := K14) e22 6 rfl
 refine ⟨(S24.cl rfl), ?_⟩
 refine WO.pn 2 rfl ?_
 obtain ⟨p20, h, hK27⟩ := Option.bind_eq_some_iff.mp h
 refine WO.meet [(4, 0), (5, 0), (6, 1), (7, 2), (8, 2)] [(9, 2), (11, 2), (10, 0), (12, 0), (13, 2), (14, 1), (15, 2), (16, 2)] (fun L w' => L = [(3, .pointer (some ⟨b3, 0, none⟩)), (4, .pointer (some ⟨b4, 0, none⟩)), (5, .pointer (some ⟨b5, 0, none⟩)), (6, .pointer (some ⟨b6, 0, none⟩)), (20, .bool p20)] ∧ ∃ κ', Stp [] K23 w20 κ' w') (S24.cl rfl) ?_ ?_
 ·
  revert h
  cases ht28 : (!x13) with
  | true =>
   intro h; replace h := cT h
   refine WO.qs rfl rfl rfl rfl ?_
   refine WO.qs rfl rfl rfl rfl ?_
   refine WO.ls rfl rfl rfl rfl ?_
   refine WO.pn 2 rfl ?_
   obtain rfl := Option.some.inj h
   exact WO.met _ (S24.cl rfl) ⟨rfl, _, (Stp.refl _ _).wk rfl⟩ fun a ha => (ha.more (ha.more (ha.more (ha.more (ha.more ha.nil rfl) rfl) rfl) rfl) rfl)
  | false =>
   intro h; replace h := cF h
   refine WO.k0 rfl rfl rfl rfl (rn_la (cs := [.int .i64 p0.In, .int .i64 p0.Out]) Try.isAgg30 Try.sizeOf30 rfl rfl rfl (haC f19.cells rfl)) ?_
   have f29 := f8.stp (S11.tr (S15.tr S17)) rfl rfl
   refine WO.k0 rfl rfl rfl rfl (rn_la (cs := [.slice a1_0 p1.In.length u1_0, .slice a1_1 p1.Next.length u1_1]) Try.isAgg32 Try.sizeOf32 rfl rfl rfl (haC f29.cells rfl)) ?_
   obtain ⟨x18, hx18, h⟩ := Option.bind_eq_some_iff.mp h
   have f30 := g1_0.stp (S3.tr (S7.tr (S11.tr (S15.tr (S17.tr S24))))) rfl rfl
   have f31 := g1_1.stp (S3.tr (S7.tr (S11.tr (S15.tr (S17.tr S24))))) rfl rfl
   refine WO.call rfl rfl rfl rfl rfl rfl Try.call74 (i_isRival_ok (κ := fun b => mp [] 0 (K23 b)) (p0 := p0) (p1 := p1) (Sl.map f30 (mp [] 0) rfl rfl) (Sl.map f31 (mp [] 0) rfl rfl) hx18) ?_
   rintro _ w32 ⟨k33, rfl, e34⟩
   obtain ⟨K35, S36, m37⟩ := Ent.mixed (l := []) (κ := K23) e34 8 rfl
   refine ⟨((S24.tr S36).cl rfl), ?_⟩
   refine WO.pn 2 rfl ?_
   obtain rfl := Option.some.inj h
   exact WO.met _ ((S24.tr S36).cl rfl) ⟨rfl, _, S36.wk rfl⟩ fun a ha => (ha.more (ha.more (ha.more (ha.more (ha.more ha.nil rfl) rfl) rfl) rfl) rfl)
 rintro _ w39 _ ⟨rfl, K40, S41⟩
 have h := hK27
 refine WO.pn 1 rfl ?_
 obtain ⟨p28, h, hK42⟩ := Option.bind_eq_some_iff.mp h
 refine WO.meet [(11, 2), (10, 0), (12, 0), (13, 2), (14, 1), (15, 2), (16, 2)] [] (fun L w' => L = [(3, .pointer (some ⟨b3, 0, none⟩)), (4, .pointer (some ⟨b4, 0, none⟩)), (5, .pointer (some ⟨b5, 0, none⟩)), (6, .pointer (some ⟨b6, 0, none⟩)), (28, .bool p28)] ∧ ∃ κ', Stp [] K40 w39 κ' w') ((S24.tr S41).cl rfl) ?_ ?_
 ·
  revert h
  cases ht43 : p20 with
  | true =>
   intro h; replace h := cT h
   refine WO.pn 1 rfl ?_
   refine WO.qs rfl rfl rfl rfl ?_
   refine WO.qs rfl rfl rfl rfl ?_
   refine WO.pn 1 rfl ?_
   refine WO.ls rfl rfl rfl rfl ?_
   refine WO.pn 2 rfl ?_
   obtain rfl := Option.some.inj h
   exact WO.met _ ((S24.tr S41).cl rfl) ⟨rfl, _, (Stp.refl _ _).wk rfl⟩ fun a ha => (ha.more (ha.more (ha.more (ha.more (ha.more ha.nil rfl) rfl) rfl) rfl) rfl)
  | false =>
   intro h; replace h := cF h
   refine WO.k2 rfl rfl rfl rfl (rn_fieldAddr Try.runUnderlying30 rfl Try.sizeOf2 rfl rfl) ?_
   have f44 := f12.stp (S15.tr S17) rfl rfl
   refine WO.k0 rfl rfl rfl rfl (rn_la (cs := [.slice a2_0 p2.Stem.length u2_0, .slice a2_1 p2.Loop.length u2_1]) Try.isAgg82 Try.sizeOf82 rfl rfl rfl (haC f44.cells rfl)) ?_
   refine WO.k0 rfl rfl rfl rfl (rn_ld Try.isAgg2 rfl rfl (hvC (f19.ld 1 rfl rfl) rfl)) ?_
   obtain ⟨_z25, hz25, h⟩ := Option.bind_eq_some_iff.mp h
   refine WO.k2 rfl rfl rfl rfl (rn_shl rfl rfl rfl (nn_ok hz25)) ?_
   obtain ⟨x26, hx26, h⟩ := Option.bind_eq_some_iff.mp h
   have f45 := g2_0.stp (S3.tr (S7.tr (S11.tr (S15.tr (S17.tr (S24.tr S41)))))) rfl rfl
   have f46 := g2_1.stp (S3.tr (S7.tr (S11.tr (S15.tr (S17.tr (S24.tr S41)))))) rfl rfl
   refine WO.call rfl rfl rfl rfl rfl rfl Try.call105 (i_isWord_ok (κ := fun b => mp [] 0 (K40 b)) (p0 := p2) (Sl.map f45 (mp [] 0) rfl rfl) (Sl.map f46 (mp [] 0) rfl rfl) hx26) ?_
   rintro _ w47 ⟨k48, rfl, e49⟩
   obtain ⟨K50, S51, m52⟩ := Ent.mixed (l := []) (κ := K40) e49 8 rfl
   refine ⟨((S24.tr (S41.tr S51)).cl rfl), ?_⟩
   refine WO.pn 2 rfl ?_
   obtain rfl := Option.some.inj h
   exact WO.met _ ((S24.tr (S41.tr S51)).cl rfl) ⟨rfl, _, S51.wk rfl⟩ fun a ha => (ha.more (ha.more (ha.more (ha.more (ha.more ha.nil rfl) rfl) rfl) rfl) rfl)
 rintro _ w54 _ ⟨rfl, K55, S56⟩
 have h := hK42
 refine WO.nx ?_
 refine WO.fin ?_
 refine DN.seq ?_
 revert h
 cases ht57 : p28 with
 | true =>
  intro h; replace h := cT h
  refine WC.ct rfl ?_
  refine WC.seq ?_
  refine WC.rs [(0, 2), (1, 1), (2, 2)] rfl ?_
  refine WO.k2 rfl rfl rfl rfl (rn_build (parts := []) (cells := [.slice none 0 0, .slice none 0 0]) rfl rfl (by kernel_rfl)) ?_
  have f58 := f16.stp (S17.tr (S24.tr (S41.tr S56))) rfl rfl
  refine WO.stB0 (κ := K55) 5 (vc := [.slice none 0 0, .slice none 0 0]) rfl rfl rfl rfl rfl rfl rfl Try.sizeOf82 rfl rfl f58 rfl fun w59 S60 f61 => ⟨trivial, ?_⟩
  refine WO.pn 1 rfl ?_
  refine WO.fin ?_
  refine DN.seq ?_
  refine WC.ret ?_
  refine DN.retThen ?_
  have f62 := hE.stp (S3.tr (S7.tr (S11.tr (S15.tr (S17.tr (S24.tr (S41.tr (S56.tr S60)))))))) rfl rfl
  refine DN.res (l := [.cell 6 82, .tmp 7]) Try.results57 (res_cellA rfl f61 Try.isAgg82 Try.sizeOf82 rfl (res_tmp rfl rfl)) rfl ?_
  obtain rfl := Option.some.inj h
  exact ⟨K55, none, 0, none, 0, rfl, f62, Ow.nil, Ow.nil⟩
 | false =>
  intro h; replace h := cF h
  refine WC.cf rfl ?_
  refine WC.skip ?_
  refine DN.seq ?_
  refine WC.seq ?_
  refine WC.rs [(0, 1), (1, 1), (2, 1)] rfl ?_
  refine WO.bl0 (κ := K55) (E := (Ep.int .i64)) 8 rfl rfl rfl rfl rfl Try.underlying24 Tryinfo2 rfl fun a30 u30 w63 K64 S65 f66 => ⟨trivial, ?_⟩
  refine WO.alloc (κ := K64) 9 rfl rfl rfl rfl rfl Try.zeroValue24 rfl fun b8 w67 K68 S69 f70 => ⟨trivial, ?_⟩
  refine WO.stB0 (κ := K68) 9 (vc := [.slice a30 ([] : List Int).length u30]) rfl rfl rfl rfl rfl rfl rfl Try.sizeOf24 rfl rfl f70 rfl fun w71 S72 f73 => ⟨trivial, ?_⟩
  refine WO.fin ?_
  refine DN.seq ?_
  refine WC.seq ?_
  refine WC.rs [(0, 1), (1, 1)] rfl ?_
  refine WO.alloc (κ := K68) 10 rfl rfl rfl rfl rfl Try.zeroValue2 rfl fun b9 w74 K75 S76 f77 => ⟨trivial, ?_⟩
  refine WO.stB0 (κ := K75) 10 (vc := [.int .i64 0]) rfl rfl rfl rfl rfl rfl rfl Try.sizeOf2 rfl rfl f77 rfl fun w78 S79 f80 => ⟨trivial, ?_⟩
  refine WO.fin ?_
  refine DN.seq ?_
  refine WC.seq ?_
  refine WC.rs [(0, 2), (1, 2)] rfl ?_
  refine WO.k2 rfl rfl rfl rfl (rn_makeFunc (first := []) (captured := [.tmp 8, .tmp 3, .tmp 4, .tmp 9]) rfl rfl rfl ⟨_, rfl⟩) ?_
  refine WO.pn 1 rfl ?_
  refine WO.fin ?_
  refine DN.seq ?_
  refine WC.seq ?_
  refine WC.rs [(0, 2), (1, 2), (2, 1), (3, 1)] rfl ?_
  refine WO.pn 1 rfl ?_
  refine WO.k2 rfl rfl rfl rfl (rn_fieldAddr Try.runUnderlying82 rfl Try.sizeOf24 rfl rfl) ?_
  have f81 := f12.stp (S15.tr (S17.tr (S24.tr (S41.tr (S56.tr (S65.tr (S69.tr (S72.tr (S76.tr S79))))))))) rfl rfl
  refine WO.k1 trivial rfl rfl rfl rfl (rn_ld Try.isAgg24 rfl rfl (hvE (f81.ld 0 rfl rfl))) ?_
  obtain ⟨x35, hx35, h⟩ := Option.bind_eq_some_iff.mp h
  have f82 := g2_0.stp (S3.tr (S7.tr (S11.tr (S15.tr (S17.tr (S24.tr (S41.tr (S56.tr (S65.tr (S69.tr (S72.tr (S76.tr S79)))))))))))) rfl rfl
  have f83 := f66.stp (S69.tr (S72.tr (S76.tr S79))) rfl rfl
  have f84 := g1_0.stp (S3.tr (S7.tr (S11.tr (S15.tr (S17.tr (S24.tr (S41.tr (S56.tr (S65.tr (S69.tr (S72.tr (S76.tr S79)))))))))))) rfl rfl
  have f85 := g1_1.stp (S3.tr (S7.tr (S11.tr (S15.tr (S17.tr (S24.tr (S41.tr (S56.tr (S65.tr (S69.tr (S72.tr (S76.tr S79)))))))))))) rfl rfl
  have f86 := f73.stp (S76.tr S79) rfl rfl
  have f87 := f19.stp (S24.tr (S41.tr (S56.tr (S65.tr (S69.tr (S72.tr (S76.tr S79))))))) rfl rfl
  have f88 := f8.stp (S11.tr (S15.tr (S17.tr (S24.tr (S41.tr (S56.tr (S65.tr (S69.tr (S72.tr (S76.tr S79)))))))))) rfl rfl
  refine WO.callV rfl rfl rfl rfl rfl rfl rfl rfl Try.call112 (i_RivalWord_1_ok (κ := fun b => mp [(8, 2), (9, 3), (10, 4)] 0 (K75 b)) (Sl.map f82 (mp [(8, 2), (9, 3), (10, 4)] 0) rfl rfl) (f83.map (mp [(8, 2), (9, 3), (10, 4)] 0) rfl rfl) (Sl.map f84 (mp [(8, 2), (9, 3), (10, 4)] 0) rfl rfl) (Sl.map f85 (mp [(8, 2), (9, 3), (10, 4)] 0) rfl rfl) (f86.map (mp [(8, 2), (9, 3), (10, 4)] 0) rfl rfl) (f87.map (mp [(8, 2), (9, 3), (10, 4)] 0) rfl rfl) (f88.map (mp [(8, 2), (9, 3), (10, 4)] 0) rfl rfl) (f80.map (mp [(8, 2), (9, 3), (10, 4)] 0) rfl rfl) hx35) ?_
  rintro _ w89 ⟨k90, a35_m0, u35_m0, rfl, e91, f92, f93, f94⟩
  obtain ⟨K95, S96, m97⟩ := Ent.mixed (l := [(8, 2), (9, 3), (10, 4)]) (κ := K75) e91 11 rfl
  refine ⟨trivial, ?_⟩
  have f99 := f92.mx (no_int _) m97 rfl (rfl : 11 + 2 = 13)
  have f100 := f93.mx m97 rfl (rfl : 11 + 3 = 14)
  have f101 := f94.mx m97 rfl (rfl : 11 + 4 = 15)
  refine WO.fin ?_
  refine DN.seq ?_
  refine WC.seq ?_
  refine WC.rs [(0, 1), (1, 2)] rfl ?_
  refine WO.bl0 (κ := K95) (E := (Ep.int .i64)) 16 rfl rfl rfl rfl rfl Try.underlying24 Tryinfo2 rfl fun a36 u36 w102 K103 S104 f105 => ⟨trivial, ?_⟩
  refine WO.pn 1 rfl ?_
  refine WO.fin ?_
  refine DN.seq ?_
  refine WC.seq ?_
  obtain ⟨q2, hq108, hK107⟩ := Option.bind_eq_some_iff.mp h
  clear h
  refine WC.meet (fun L w' => ∃ (κ' : Col) (s3 : (List Int) × (List Int) × Int) (las3_0 : Option Addr) (lus3_0 : Nat) (las3_1 : Option Addr) (lus3_1 : Nat), L = [(5, .pointer (some ⟨b5, 0, none⟩)), (6, .pointer (some ⟨b6, 0, none⟩)), (8, .pointer (some ⟨b8, 0, none⟩)), (9, .pointer (some ⟨b9, 0, none⟩)), (11, .slice las3_0 s3.1.length lus3_0)] ∧ Stp [13, 14, 15, 16, 22, 23, 24] K103 w102 κ' w' ∧ Oc (Ep.int .i64) 2 κ' w' 16 las3_0 lus3_0 s3.1 ∧ Oc (Ep.int .i64) 2 κ' w' 13 las3_1 lus3_1 s3.2.1 ∧ Bc κ' w' 14 b8 24 [.slice las3_1 s3.2.1.length lus3_1] ∧ Bc κ' w' 15 b9 2 [.int .i64 s3.2.2] ∧ q2 = Sum.inr s3) ?_ ?_
  ·
   refine WC.block ?_
   have f123 := f99.stp S104 rfl rfl
   have f124 := f100.stp S104 rfl rfl
   have f125 := f101.stp S104 rfl rfl
   refine WC.loop (fun k L w' => ∃ (κ' : Col) (s1 : (List Int) × (List Int) × Int) (las1_0 : Option Addr) (lus1_0 : Nat) (las1_1 : Option Addr) (lus1_1 : Nat), L = [(5, .pointer (some ⟨b5, 0, none⟩)), (6, .pointer (some ⟨b6, 0, none⟩)), (8, .pointer (some ⟨b8, 0, none⟩)), (9, .pointer (some ⟨b9, 0, none⟩)), (10, .func (.func 112) #[] #[.pointer (some ⟨b8, 0, none⟩), .pointer (some ⟨b3, 0, none⟩), .pointer (some ⟨b4, 0, none⟩), .pointer (some ⟨b9, 0, none⟩)]), (11, .slice las1_0 s1.1.length lus1_0)] ∧ Stp [13, 14, 15, 16, 22, 23, 24] K103 w102 κ' w' ∧ Oc (Ep.int .i64) 2 κ' w' 16 las1_0 lus1_0 s1.1 ∧ Oc (Ep.int .i64) 2 κ' w' 13 las1_1 lus1_1 s1.2.1 ∧ Bc κ' w' 14 b8 24 [.slice las1_1 s1.2.1.length lus1_1] ∧ Bc κ' w' 15 b9 2 [.int .i64 s1.2.2] ∧ whileM (i_RivalWord_b0 p0 p1 p2) k s1 = some q2) ⟨_, _, ⟨K103, ((([] : List Int) : (List Int)), (x35.1 : (List Int)), (x35.2 : Int)), a36, u36, a35_m0, u35_m0, rfl, (Stp.refl _ _).wk rfl, f105, f123, f124, f125, hq108⟩, fun a ha => (ha.more (ha.more (ha.more (ha.more (ha.more (ha.more ha.nil rfl) rfl) rfl) rfl) rfl) rfl)⟩ ?_
   rintro k _ w116 ⟨K117, s1, las1_0, lus1_0, las1_1, lus1_1, rfl, S118, f119, f120, f121, f122, h⟩
   rcases k with _ | k
   ·
    cases h
   ·
    obtain ⟨o106, h, hk126⟩ := Option.bind_eq_some_iff.mp h; unfold i_RivalWord_b0 at h
    refine WC.seq ?_
    refine WC.seq ?_
    refine WC.rs [(0, 2), (1, 1), (2, 1), (3, 2)] rfl ?_
    refine WO.pn 1 rfl ?_
    refine WO.k1 trivial rfl rfl rfl rfl (rn_ld Try.isAgg2 rfl rfl (hvE (f122.ld 0 rfl rfl))) ?_
    obtain ⟨x39, hx39, h⟩ := Option.bind_eq_some_iff.mp h
    refine WO.call rfl rfl rfl rfl rfl rfl Try.call113 (slices_Contains_I_int64_ok (κ := fun b => mp [] 0 (K117 b)) (Sl.map f119.rdc (mp [] 0) rfl rfl) hx39) ?_
    rintro _ w127 ⟨k128, rfl, e129⟩
    obtain ⟨K130, S131, m132⟩ := Ent.mixed (l := []) (κ := K117) e129 17 rfl
    refine ⟨trivial, ?_⟩
    refine WO.pn 1 rfl ?_
    refine WO.fin ?_
    refine DN.seq ?_
    revert h
    cases ht134 : (!x39) with
    | true =>
     intro h; replace h := cT h
     refine WC.ct rfl ?_
     refine WC.skip ?_
     refine DN.seq ?_
     refine WC.block ?_
     refine WC.seq ?_
     refine WC.rs [(0, 2), (1, 1), (2, 1), (3, 1), (4, 2)] rfl ?_
     refine WO.pn 1 rfl ?_
     have f135 := f122.stp S131 rfl rfl
     refine WO.k1 trivial rfl rfl rfl rfl (rn_ld Try.isAgg2 rfl rfl (hvE (f135.ld 0 rfl rfl))) ?_
     refine WO.bl (κ := K130) (E := (Ep.int .i64)) 19 [] (parts := [(0, .tmp 42)]) (cells := [.int .i64 s1.2.2]) (xs := ([s1.2.2] : List Int)) rfl rfl rfl rfl rfl rfl Try.underlying24 Tryinfo2 rfl rfl rfl rfl rfl rfl rfl rfl rfl rfl ⟨[.int .i64 s1.2.2], [], Zl K130 w127 [], Zl K130 w127 [], rfl, Zl.sp (l1 := []) (l2 := []) rfl, Zl.sr (l1 := []) (l2 := []), rfl, rfl⟩ fun a43 u43 w136 K137 S138 f139 => ⟨trivial, ?_⟩
     obtain ⟨x44, hx44, h⟩ := Option.bind_eq_some_iff.mp h
     have f140 := f119.stp (S131.tr S138) rfl rfl
     refine WO.app (κ := K137) (E := (Ep.int .i64)) 16 [] rfl rfl rfl rfl rfl rfl rfl rfl rfl Try.underlying24 Tryinfo2 rfl rfl rfl rfl f140 (Sl.srcP (pu_int _) f139.rdc) sy_false hx44 rfl fun a44 u44 w141 K142 S143 f144 => ⟨trivial, ?_⟩
     refine WO.pn 1 rfl ?_
     refine WO.fin ?_
     refine DN.seq ?_
     refine WC.rs [(0, 2), (1, 2), (2, 1), (3, 1)] rfl ?_
     refine WO.pn 1 rfl ?_
     refine WO.k2 rfl rfl rfl rfl (rn_fieldAddr Try.runUnderlying82 rfl Try.sizeOf24 rfl rfl) ?_
     have f145 := f81.stp (S96.tr (S104.tr (S118.tr (S131.tr (S138.tr S143))))) rfl rfl
     refine WO.k1 trivial rfl rfl rfl rfl (rn_ld Try.isAgg24 rfl rfl (hvE (f145.ld 1 rfl rfl))) ?_
     obtain ⟨x48, hx48, h⟩ := Option.bind_eq_some_iff.mp h
     have f146 := g2_1.stp (S3.tr (S7.tr (S11.tr (S15.tr (S17.tr (S24.tr (S41.tr (S56.tr (S65.tr (S69.tr (S72.tr (S76.tr (S79.tr (S96.tr (S104.tr (S118.tr (S131.tr (S138.tr S143)))))))))))))))))) rfl rfl
     have f147 := f120.stp (S131.tr (S138.tr S143)) rfl rfl
     have f148 := f84.stp (S96.tr (S104.tr (S118.tr (S131.tr (S138.tr S143))))) rfl rfl
     have f149 := f85.stp (S96.tr (S104.tr (S118.tr (S131.tr (S138.tr S143))))) rfl rfl
     have f150 := f121.stp (S131.tr (S138.tr S143)) rfl rfl
     have f151 := f87.stp (S96.tr (S104.tr (S118.tr (S131.tr (S138.tr S143))))) rfl rfl
     have f152 := f88.stp (S96.tr (S104.tr (S118.tr (S131.tr (S138.tr S143))))) rfl rfl
     have f153 := f135.stp (S138.tr S143) rfl rfl
     refine WO.callV rfl rfl rfl rfl rfl rfl rfl rfl Try.call112 (i_RivalWord_1_ok (κ := fun b => mp [(13, 2), (14, 3), (15, 4)] 0 (K142 b)) (Sl.map f146 (mp [(13, 2), (14, 3), (15, 4)] 0) rfl rfl) (f147.map (mp [(13, 2), (14, 3), (15, 4)] 0) rfl rfl) (Sl.map f148 (mp [(13, 2), (14, 3), (15, 4)] 0) rfl rfl) (Sl.map f149 (mp [(13, 2), (14, 3), (15, 4)] 0) rfl rfl) (f150.map (mp [(13, 2), (14, 3), (15, 4)] 0) rfl rfl) (f151.map (mp [(13, 2), (14, 3), (15, 4)] 0) rfl rfl) (f152.map (mp [(13, 2), (14, 3), (15, 4)] 0) rfl rfl) (f153.map (mp [(13, 2), (14, 3), (15, 4)] 0) rfl rfl) hx48) ?_
     rintro _ w154 ⟨k155, a48_m0, u48_m0, rfl, e156, f157, f158, f159⟩
     obtain ⟨K160, S161, m162⟩ := Ent.mixed (l := [(13, 2), (14, 3), (15, 4)]) (κ := K142) e156 20 rfl
     refine ⟨trivial, ?_⟩
     have f164 := f157.mx (no_int _) m162 rfl (rfl : 20 + 2 = 22)
     have f165 := f158.mx m162 rfl (rfl : 20 + 3 = 23)
     have f166 := f159.mx m162 rfl (rfl : 20 + 4 = 24)
     refine WO.fin ?_
     refine DN.block ?_
     have f167 := f144.stp S161 rfl rfl
     obtain rfl := Option.some.inj h
     refine DN.round fun a ha => ?_
     exact ⟨k, _, Nat.lt_succ_self _, ⟨(fun b => ren [(22, 13), (23, 14), (24, 15)] (K160 b)), ((x44 : (List Int)), (x48.1 : (List Int)), (x48.2 : Int)), a44, u44, a48_m0, u48_m0, rfl, (Stp.ren ((S118.tr (S131.tr (S138.tr (S143.tr S161)))).wk rfl) [(22, 13), (23, 14), (24, 15)] rfl), (f167.map (ren [(22, 13), (23, 14), (24, 15)]) rfl rfl), (f164.map (ren [(22, 13), (23, 14), (24, 15)]) rfl rfl), (f165.map (ren [(22, 13), (23, 14), (24, 15)]) rfl rfl), (f166.map (ren [(22, 13), (23, 14), (24, 15)]) rfl rfl), hk126⟩, (ha.more (ha.more (ha.more (ha.more (ha.more (ha.more ha.nil rfl) rfl) rfl) rfl) rfl) rfl)⟩
    | false =>
     intro h; replace h := cF h
     refine WC.cf rfl ?_
     refine WC.exit ?_
     refine DN.exitThen ?_
     refine DN.exitThen ?_
     obtain rfl := Option.some.inj h
     have h := hk126
     refine DN.hit ?_
     have f168 := f119.stp S131 rfl rfl
     have f169 := f120.stp S131 rfl rfl
     have f170 := f121.stp S131 rfl rfl
     have f171 := f122.stp S131 rfl rfl
     obtain rfl := Option.some.inj h
     exact DN.meet _ ⟨K130, ((s1.1 : (List Int)), (s1.2.1 : (List Int)), (s1.2.2 : Int)), las1_0, lus1_0, las1_1, lus1_1, rfl, (S118.tr S131).wk rfl, f168, f169, f170, f171, rfl⟩ fun a ha => (ha.more (ha.more (ha.more (ha.more (ha.more ha.nil rfl) rfl) rfl) rfl) rfl)
  rintro _ w109 ⟨K110, s3, las3_0, lus3_0, las3_1, lus3_1, rfl, S111, f112, f113, f114, f115, rfl⟩
  have h := hK107
  dsimp only [aft] at h
  refine DN.seq ?_
  refine WC.seq ?_
  refine WC.rx (κ := K110) 16 (some 15) [(1, 2), (4, 2), (7, 2), (0, 0), (2, 0), (3, 2), (5, 0), (8, 0), (9, 2), (6, 1), (10, 2), (11, 2), (12, 1), (13, 2), (14, 2)] [(15, 1), (16, 2)] (by kernel_rfl) (by kernel_rfl) fun w173 S172 => ?_
  refine WO.k2 rfl rfl rfl rfl (rn_fieldAddr Try.runUnderlying82 rfl Try.sizeOf24 rfl rfl) ?_
  refine WO.pn 1 rfl ?_
  refine WO.k2 rfl rfl rfl rfl (rn_fieldAddr Try.runUnderlying82 rfl Try.sizeOf24 rfl rfl) ?_
  have f174 := f114.stp S172 rfl rfl
  refine WO.k0 rfl rfl rfl rfl (rn_ld Try.isAgg24 rfl rfl (hvC (f174.ld 0 rfl rfl) rfl)) ?_
  have f175 := f81.stp (S96.tr (S104.tr (S111.tr S172))) rfl rfl
  refine WO.k0 rfl rfl rfl rfl (rn_ld Try.isAgg24 rfl rfl (hvC (f175.ld 0 rfl rfl) rfl)) ?_
  refine WO.k2 rfl rfl rfl rfl (rn_len Try.runUnderlying24 rfl rfl) ?_
  have f176 := f115.stp S172 rfl rfl
  refine WO.k0 rfl rfl rfl rfl (rn_ld Try.isAgg2 rfl rfl (hvC (f176.ld 0 rfl rfl) rfl)) ?_
  refine WO.k0 rfl rfl rfl rfl (rn_ld Try.isAgg24 rfl rfl (hvC (f175.ld 1 rfl rfl) rfl)) ?_
  refine WO.k2 rfl rfl rfl rfl (rn_len Try.runUnderlying24 rfl rfl) ?_
  obtain ⟨x55, hx55, h⟩ := Option.bind_eq_some_iff.mp h
  have f177 := f112.stp S172 rfl rfl
  refine WO.call rfl rfl rfl rfl rfl rfl Try.call115 (slices_Index_I_int64_ok (κ := fun b => mp [] 0 (K110 b)) (Sl.map f177.rdc (mp [] 0) rfl rfl) hx55) ?_
  rintro _ w178 ⟨k179, rfl, e180⟩
  obtain ⟨K181, S182, m183⟩ := Ent.mixed (l := []) (κ := K110) e180 17 rfl
  refine ⟨(S182.cl rfl), ?_⟩
  refine WO.pn 2 rfl ?_
  obtain ⟨x61, hx61, h⟩ := Option.bind_eq_some_iff.mp h
  have f185 := f113.stp (S172.tr S182) rfl rfl
  refine WO.call rfl rfl rfl rfl rfl rfl Try.call114 (i_cutWord_ok (κ := fun b => mp [] 0 (K181 b)) (Sl.map f185.rdc (mp [] 0) rfl rfl) hx61) ?_
  rintro _ w186 ⟨k187, a61_0, u61_0, a61_1, u61_1, rfl, e188, f189, f190⟩
  obtain ⟨K191, S192, m193⟩ := Ent.mixed (l := []) (κ := K181) e188 19 rfl
  refine ⟨((S182.tr S192).cl rfl), ?_⟩
  have f195 := f189.mx (no_int _) m193 rfl (rfl : 19 + 2 = 21)
  have f196 := f190.mx (no_int _) m193 rfl (rfl : 19 + 3 = 22)
  refine WO.pn 2 rfl ?_
  refine WO.nx ?_
  have f197 := f16.stp (S17.tr (S24.tr (S41.tr (S56.tr (S65.tr (S69.tr (S72.tr (S76.tr (S79.tr (S96.tr (S104.tr (S111.tr (S172.tr (S182.tr S192)))))))))))))) rfl rfl
  refine WO.stB0 (κ := K191) 5 (vc := [.slice a61_0 x61.1.Stem.length u61_0, .slice a61_1 x61.1.Loop.length u61_1]) rfl rfl rfl rfl rfl rfl rfl Try.sizeOf82 rfl rfl f197 rfl fun w198 S199 f200 => ⟨trivial, ?_⟩
  refine WO.pn 1 rfl ?_
  refine WO.fin ?_
  refine DN.seq ?_
  refine WC.ret ?_
  have f201 := hE.stp (S3.tr (S7.tr (S11.tr (S15.tr (S17.tr (S24.tr (S41.tr (S56.tr (S65.tr (S69.tr (S72.tr (S76.tr (S79.tr (S96.tr (S104.tr (S111.tr (S172.tr (S182.tr (S192.tr S199))))))))))))))))))) rfl rfl
  have f202 := f195.stp S199 rfl rfl
  have f203 := f196.stp S199 rfl rfl
  refine DN.res (l := [.cell 6 82, .tmp 7]) Try.results57 (res_cellA rfl f200 Try.isAgg82 Try.sizeOf82 rfl (res_tmp rfl rfl)) rfl ?_
  obtain rfl := Option.some.inj h
  exact ⟨(fun b => ren [(21, 2), (22, 3)] (K191 b)), a61_0, u61_0, a61_1, u61_1, rfl, (f201.map (ren [(21, 2), (22, 3)]) rfl rfl), (f202.map (ren [(21, 2), (22, 3)]) rfl rfl), (f203.map (ren [(21, 2), (22, 3)]) rfl rfl)⟩

end Go.Proofs.Ytgniipbjjkodaaa
