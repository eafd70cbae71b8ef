/- The walks, part 3. By program. -/
import Derived.Test.YtgniipbjjkodaaaFnsC122
set_option linter.unusedVariables false
set_option linter.unusedSimpArgs false
namespace Go.Proofs.Ytgniipbjjkodaaa
open Go Go.Wk Go.Proofs
set_option maxRecDepth 100000
set_option maxHeartbeats 1000000

/- loop.example/g00869/spec.DuelOf -/
theorem s_DuelOf_ok {w : World} {κ : Col} {p0 : Sig} {a1_0 : Option Addr} {u1_0 : Nat} {a1_1 : Option Addr} {u1_1 : Nat} {p1 : Machine} {a2_0 : Option Addr} {u2_0 : Nat} {a2_1 : Option Addr} {u2_1 : Nat} {p2 : Rival} (g1_0 : Rd (Rp.sl (Rp.int .i64)) κ w 0 a1_0 u1_0 p1.Next) (g1_1 : Rd (Rp.sl (Rp.int .i64)) κ w 0 a1_1 u1_1 p1.Out) (g2_0 : Rd (Rp.int .i64) κ w 0 a2_0 u2_0 p2.In) (g2_1 : Rd (Rp.sl (Rp.int .i64)) κ w 0 a2_1 u2_1 p2.Next) {r : Word × Bool} (h : s_DuelOf p0 p1 p2 = some r) : Ret Try.prog 61 [.agg #[.int .i64 p0.In, .int .i64 p0.Out], .agg #[.slice a1_0 p1.Next.length u1_0, .slice a1_1 p1.Out.length u1_1], .agg #[.slice a2_0 p2.In.length u2_0, .slice a2_1 p2.Next.length u2_1]] w (fun v w' => ∃ (κ' : Col) (ra0 : Option Addr) (ru0 : Nat) (ra1 : Option Addr) (ru1 : Nat), v = .tuple #[.agg #[.slice ra0 r.1.Stem.length ru0, .slice ra1 r.1.Loop.length ru1], .bool r.2] ∧ Ent κ w κ' w' ∧ Oc (Ep.int .i64) 2 κ' w' 2 ra0 ru0 r.1.Stem ∧ Oc (Ep.int .i64) 2 κ' w' 3 ra1 ru1 r.1.Loop) := by
 unfold s_DuelOf at h
 refine Ret.enter Try.func61 rfl Try.ntmps61 rfl ?_
 dsimp only [envOf]
 have hE := Ent.refl κ w
 refine WC.seq ?_
 refine WC.rs [(0, 1), (1, 1), (2, 1), (3, 1), (4, 2)] rfl ?_
 refine WO.box (κ := κ) 2 rfl rfl rfl rfl rfl rfl rfl fun b3 w1 K2 S3 f4 => ⟨trivial, ?_⟩
 refine WO.box (κ := K2) 3 rfl rfl rfl rfl rfl rfl rfl fun b4 w5 K6 S7 f8 => ⟨trivial, ?_⟩
 refine WO.box (κ := K6) 4 rfl rfl rfl rfl rfl rfl rfl fun b5 w9 K10 S11 f12 => ⟨trivial, ?_⟩
 refine WO.alloc (κ := K10) 5 rfl rfl rfl rfl rfl Try.zeroValue82 rfl fun b6 w13 K14 S15 f16 => ⟨trivial, ?_⟩
 refine WO.pn 1 rfl ?_
 refine WO.fin ?_
 refine DN.seq ?_
 refine WC.seq ?_
 refine WC.seq ?_
 refine WC.rs [(0, 1), (1, 1), (2, 1), (3, 2), (4, 2), (5, 1), (6, 1), (7, 1), (8, 2), (9, 2)] rfl ?_
 have f17 := f4.stp (S7.tr (S11.tr S15)) rfl rfl
 refine WO.k1 trivial rfl rfl rfl rfl (rn_la (cs := [.int .i64 p0.In, .int .i64 p0.Out]) Try.isAgg30 Try.sizeOf30 rfl rfl rfl (haE f17.cells)) ?_
 have f18 := f8.stp (S11.tr S15) rfl rfl
 refine WO.k1 trivial rfl rfl rfl rfl (rn_la (cs := [.slice a1_0 p1.Next.length u1_0, .slice a1_1 p1.Out.length u1_1]) Try.isAgg84 Try.sizeOf84 rfl rfl rfl (haE f18.cells)) ?_
 obtain ⟨x18, hx18, h⟩ := Option.bind_eq_some_iff.mp h
 have f19 := g1_0.stp (S3.tr (S7.tr (S11.tr S15))) rfl rfl
 have f20 := g1_1.stp (S3.tr (S7.tr (S11.tr S15))) rfl rfl
 refine WO.call rfl rfl rfl rfl rfl rfl Try.call99 (s_MachineOk_ok (κ := fun b => mp [] 0 (K14 b)) (p0 := p0) (p1 := p1) (Sl.map f19 (mp [] 0) rfl rfl) (Sl.map f20 (mp [] 0) rfl rfl) hx18) ?_
 rintro _ w21 ⟨k22, rfl, e23⟩
 obtain ⟨K24, S25, m26⟩ := Ent.mixed (l := []) (κ := K14) e23 6 rfl
 refine ⟨trivial, ?_⟩
 refine WO.pn 2 rfl ?_
 obtain ⟨p25, h, hK28⟩ := Option.bind_eq_some_iff.mp h
 refine WO.meet [(5, 1), (6, 1), (7, 1), (8, 2), (9, 2)] [] (fun L w' => L = [(3, .pointer (some ⟨b3, 0, none⟩)), (4, .pointer (some ⟨b4, 0, none⟩)), (5, .pointer (some ⟨b5, 0, none⟩)), (6, .pointer (some ⟨b6, 0, none⟩)), (25, .bool p25)] ∧ ∃ κ', Stp [] K24 w21 κ' w') trivial ?_ ?_
 ·
  revert h
  cases ht29 : (!x18) with
  | true =>
   intro h; replace h := cT h
   refine WO.ls rfl rfl rfl rfl ?_
   refine WO.ls rfl rfl rfl rfl ?_
   refine WO.ls rfl rfl rfl rfl ?_
   refine WO.pn 2 rfl ?_
   obtain rfl := Option.some.inj h
   exact WO.met _ trivial ⟨rfl, _, (Stp.refl _ _).wk rfl⟩ fun a ha => (ha.more (ha.more (ha.more (ha.more (ha.more ha.nil rfl) rfl) rfl) rfl) rfl)
  | false =>
   intro h; replace h := cF h
   have f30 := f17.stp S25 rfl rfl
   refine WO.k1 trivial rfl rfl rfl rfl (rn_la (cs := [.int .i64 p0.In, .int .i64 p0.Out]) Try.isAgg30 Try.sizeOf30 rfl rfl rfl (haE f30.cells)) ?_
   have f31 := f12.stp (S15.tr S25) rfl rfl
   refine WO.k1 trivial rfl rfl rfl rfl (rn_la (cs := [.slice a2_0 p2.In.length u2_0, .slice a2_1 p2.Next.length u2_1]) Try.isAgg32 Try.sizeOf32 rfl rfl rfl (haE f31.cells)) ?_
   obtain ⟨x23, hx23, h⟩ := Option.bind_eq_some_iff.mp h
   have f32 := g2_0.stp (S3.tr (S7.tr (S11.tr (S15.tr S25)))) rfl rfl
   have f33 := g2_1.stp (S3.tr (S7.tr (S11.tr (S15.tr S25)))) rfl rfl
   refine WO.call rfl rfl rfl rfl rfl rfl Try.call70 (s_RivalOk_ok (κ := fun b => mp [] 0 (K24 b)) (p0 := p0) (p1 := p2) (Sl.map f32 (mp [] 0) rfl rfl) (Sl.map f33 (mp [] 0) rfl rfl) hx23) ?_
   rintro _ w34 ⟨k35, rfl, e36⟩
   obtain ⟨K37, S38, m39⟩ := Ent.mixed (l := []) (κ := K24) e36 8 rfl
   refine ⟨trivial, ?_⟩
   refine WO.pn 2 rfl ?_
   obtain rfl := Option.some.inj h
   exact WO.met _ trivial ⟨rfl, _, S38.wk rfl⟩ fun a ha => (ha.more (ha.more (ha.more (ha.more (ha.more ha.nil rfl) rfl) rfl) rfl) rfl)
 rintro _ w41 _ ⟨rfl, K42, S43⟩
 have h := hK28
 refine WO.fin ?_
 refine DN.seq ?_
 revert h
 cases ht44 : p25 with
 | true =>
  intro h; replace h := cT h
  refine WC.ct rfl ?_
  refine WC.seq ?_
  refine WC.rs [(0, 2), (1, 1), (2, 2)] rfl ?_
  refine WO.k2 rfl rfl rfl rfl (rn_build (parts := []) (cells := [.slice none 0 0, .slice none 0 0]) rfl rfl (by kernel_rfl)) ?_
  have f45 := f16.stp (S25.tr S43) rfl rfl
  refine WO.stB0 (κ := K42) 5 (vc := [.slice none 0 0, .slice none 0 0]) rfl rfl rfl rfl rfl rfl rfl Try.sizeOf82 rfl rfl f45 rfl fun w46 S47 f48 => ⟨trivial, ?_⟩
  refine WO.pn 1 rfl ?_
  refine WO.fin ?_
  refine DN.seq ?_
  refine WC.ret ?_
  refine DN.retThen ?_
  have f49 := hE.stp (S3.tr (S7.tr (S11.tr (S15.tr (S25.tr (S43.tr S47)))))) rfl rfl
  refine DN.res (l := [.cell 6 82, .tmp 7]) Try.results61 (res_cellA rfl f48 Try.isAgg82 Try.sizeOf82 rfl (res_tmp rfl rfl)) rfl ?_
  obtain rfl := Option.some.inj h
  exact ⟨K42, none, 0, none, 0, rfl, f49, Ow.nil, Ow.nil⟩
 | false =>
  intro h; replace h := cF h
  refine WC.cf rfl ?_
  refine WC.skip ?_
  refine DN.seq ?_
  refine WC.seq ?_
  refine WC.rs [(0, 1), (1, 2)] rfl ?_
  refine WO.bl0 (κ := K42) (E := (Ep.own (Ep.int .i64) 2)) 8 rfl rfl rfl rfl rfl Try.underlying25 Tryinfo24 rfl fun a27 u27 w50 K51 S52 f53 => ⟨trivial, ?_⟩
  refine WO.pn 1 rfl ?_
  refine WO.fin ?_
  refine DN.seq ?_
  refine WC.seq ?_
  refine WC.rs [(0, 1), (1, 2)] rfl ?_
  refine WO.bl0 (κ := K51) (E := (Ep.int .i64)) 9 rfl rfl rfl rfl rfl Try.underlying24 Tryinfo2 rfl fun a28 u28 w54 K55 S56 f57 => ⟨trivial, ?_⟩
  refine WO.pn 1 rfl ?_
  refine WO.fin ?_
  refine DN.seq ?_
  refine WC.seq ?_
  refine WC.rs [(0, 2)] rfl ?_
  refine WO.pn 1 rfl ?_
  refine WO.fin ?_
  refine DN.seq ?_
  refine WC.seq ?_
  refine WC.rs [(0, 2)] rfl ?_
  refine WO.pn 1 rfl ?_
  refine WO.fin ?_
  refine DN.seq ?_
  refine WC.seq ?_
  obtain ⟨q2, hq60, hK59⟩ := Option.bind_eq_some_iff.mp h
  clear h
  refine WC.meet (fun L w' => ∃ (κ' : Col) (s3 : (List (List Int)) × (List Int) × Int × Int) (las3_0 : Option Addr) (lus3_0 : Nat) (las3_1 : Option Addr) (lus3_1 : Nat), L = [(6, .pointer (some ⟨b6, 0, none⟩)), (8, .slice las3_0 s3.1.length lus3_0), (9, .slice las3_1 s3.2.1.length lus3_1), (10, .int .i64 s3.2.2.1), (11, .int .i64 s3.2.2.2)] ∧ Stp [8, 9, 12, 13] K55 w54 κ' w' ∧ Oc (Ep.own (Ep.int .i64) 2) 24 κ' w' 8 las3_0 lus3_0 s3.1 ∧ Oc (Ep.int .i64) 2 κ' w' 9 las3_1 lus3_1 s3.2.1 ∧ q2 = Sum.inr s3) ?_ ?_
  ·
   refine WC.block ?_
   have f71 := f53.stp S56 rfl rfl
   refine WC.loop (fun k L w' => ∃ (κ' : Col) (s1 : (List (List Int)) × (List Int) × Int × Int) (las1_0 : Option Addr) (lus1_0 : Nat) (las1_1 : Option Addr) (lus1_1 : Nat), L = [(3, .pointer (some ⟨b3, 0, none⟩)), (4, .pointer (some ⟨b4, 0, none⟩)), (5, .pointer (some ⟨b5, 0, none⟩)), (6, .pointer (some ⟨b6, 0, none⟩)), (8, .slice las1_0 s1.1.length lus1_0), (9, .slice las1_1 s1.2.1.length lus1_1), (10, .int .i64 s1.2.2.1), (11, .int .i64 s1.2.2.2)] ∧ Stp [8, 9, 12, 13] K55 w54 κ' w' ∧ Oc (Ep.own (Ep.int .i64) 2) 24 κ' w' 8 las1_0 lus1_0 s1.1 ∧ Oc (Ep.int .i64) 2 κ' w' 9 las1_1 lus1_1 s1.2.1 ∧ whileM (s_DuelOf_b0 p0 p1 p2) k s1 = some q2) ⟨_, _, ⟨K55, ((([] : List (List Int)) : (List (List Int))), (([] : List Int) : (List Int)), (0 : Int), (0 : Int)), a27, u27, a28, u28, rfl, (Stp.refl _ _).wk rfl, f71, f57, hq60⟩, fun a ha => (ha.more (ha.more (ha.more (ha.more (ha.more (ha.more (ha.more (ha.more ha.nil rfl) rfl) rfl) rfl) rfl) rfl) rfl) rfl)⟩ ?_
   rintro k _ w66 ⟨K67, s1, las1_0, lus1_0, las1_1, lus1_1, rfl, S68, f69, f70, h⟩
   rcases k with _ | k
   ·
    cases h
   ·
    obtain ⟨o58, h, hk72⟩ := Option.bind_eq_some_iff.mp h; unfold s_DuelOf_b0 at h
    refine WC.seq ?_
    refine WC.seq ?_
    refine WC.rs [(0, 2), (1, 2), (2, 2), (3, 1), (4, 2)] rfl ?_
    refine WO.pn 3 rfl ?_
    obtain ⟨x32, hx32, h⟩ := Option.bind_eq_some_iff.mp h
    refine WO.call rfl rfl rfl rfl rfl rfl Try.call124 (s_l26Place_ok (κ := fun b => mp [] 0 (K67 b)) (Sl.map f69.rdc (mp [] 0) rfl rfl) hx32) ?_
    rintro _ w73 ⟨k74, rfl, e75⟩
    obtain ⟨K76, S77, m78⟩ := Ent.mixed (l := []) (κ := K67) e75 10 rfl
    refine ⟨trivial, ?_⟩
    refine WO.pn 1 rfl ?_
    refine WO.fin ?_
    refine DN.seq ?_
    revert h
    cases ht80 : decide (x32 < 0) with
    | true =>
     intro h; replace h := cT h
     refine WC.ct rfl ?_
     refine WC.skip ?_
     refine DN.seq ?_
     refine WC.block ?_
     refine WC.seq ?_
     refine WC.rs [(0, 2), (1, 2), (2, 2), (3, 1), (4, 1), (5, 1), (6, 2)] rfl ?_
     refine WO.pn 3 rfl ?_
     refine WO.bl (κ := K76) (E := (Ep.int .i64)) 12 [] (parts := [(0, .tmp 35), (1, .tmp 36)]) (cells := [.int .i64 s1.2.2.1, .int .i64 s1.2.2.2]) (xs := ([s1.2.2.1, s1.2.2.2] : List Int)) rfl rfl rfl rfl rfl rfl Try.underlying24 Tryinfo2 rfl rfl rfl rfl rfl rfl rfl rfl rfl rfl ⟨[.int .i64 s1.2.2.1], [.int .i64 s1.2.2.2], Zl K76 w73 [], Zl K76 w73 [], rfl, Zl.sp (l1 := []) (l2 := []) rfl, Zl.sr (l1 := []) (l2 := []), rfl, ⟨[.int .i64 s1.2.2.2], [], Zl K76 w73 [], Zl K76 w73 [], rfl, Zl.sp (l1 := []) (l2 := []) rfl, Zl.sr (l1 := []) (l2 := []), rfl, rfl⟩⟩ fun a37 u37 w81 K82 S83 f84 => ⟨trivial, ?_⟩
     refine WO.bl (κ := K82) (E := (Ep.own (Ep.int .i64) 2)) 13 [12] (parts := [(0, .tmp 37)]) (cells := [.slice a37 ([s1.2.2.1, s1.2.2.2] : List Int).length u37]) (xs := ([([s1.2.2.1, s1.2.2.2] : List Int)] : List (List Int))) rfl rfl rfl rfl rfl rfl Try.underlying25 Tryinfo24 rfl rfl rfl rfl rfl rfl rfl rfl rfl rfl ⟨[.slice a37 ([s1.2.2.1, s1.2.2.2] : List Int).length u37], [], Zl K82 w81 [12], Zl K82 w81 [], rfl, Zl.sp (l1 := [12]) (l2 := []) rfl, Zl.sr (l1 := [12]) (l2 := []), ⟨_, _, rfl, f84⟩, rfl⟩ fun a38 u38 w85 K86 S87 f88 => ⟨trivial, ?_⟩
     obtain ⟨x39, hx39, h⟩ := Option.bind_eq_some_iff.mp h
     have f89 := f69.stp (S77.tr (S83.tr S87)) rfl rfl
     refine WO.app (κ := K86) (E := (Ep.own (Ep.int .i64) 2)) 8 [13] rfl rfl rfl rfl rfl rfl rfl rfl rfl Try.underlying25 Tryinfo24 rfl rfl rfl rfl f89 f88.src (sy_one rfl) hx39 rfl fun a39 u39 w90 K91 S92 f93 => ⟨trivial, ?_⟩
     refine WO.pn 1 rfl ?_
     refine WO.fin ?_
     refine DN.seq ?_
     refine WC.seq ?_
     refine WC.rs [(0, 2), (1, 1), (2, 2), (3, 2), (4, 1), (5, 2)] rfl ?_
     refine WO.k2 rfl rfl rfl rfl (rn_fieldAddr Try.runUnderlying32 rfl Try.sizeOf24 rfl rfl) ?_
     have f94 := f12.stp (S15.tr (S25.tr (S43.tr (S52.tr (S56.tr (S68.tr (S77.tr (S83.tr (S87.tr S92))))))))) rfl rfl
     refine WO.k1 trivial rfl rfl rfl rfl (rn_ld Try.isAgg24 rfl rfl (hvE (f94.ld 0 rfl rfl))) ?_
     refine WO.pn 1 rfl ?_
     obtain ⟨x43, hx43, h⟩ := Option.bind_eq_some_iff.mp h
     refine WO.k2 rfl rfl rfl rfl (rn_index g2_0 hx43 Try.runUnderlying24 Try.sizeOf2 rfl rfl rfl rfl) ?_
     have f95 := g2_0.stp (S3.tr (S7.tr (S11.tr (S15.tr (S25.tr (S43.tr (S52.tr (S56.tr (S68.tr (S77.tr (S83.tr (S87.tr S92)))))))))))) rfl rfl
     refine WO.k1 trivial rfl rfl rfl rfl (rn_ld Try.isAgg2 rfl rfl (hvE (f95.gInt hx43))) ?_
     refine WO.pn 1 rfl ?_
     refine WO.fin ?_
     refine DN.seq ?_
     refine WC.seq ?_
     refine WC.rs [(0, 2), (1, 1), (2, 2), (3, 2), (4, 1), (5, 2), (6, 2), (7, 1), (8, 2)] rfl ?_
     refine WO.k2 rfl rfl rfl rfl (rn_fieldAddr Try.runUnderlying84 rfl Try.sizeOf25 rfl rfl) ?_
     have f96 := f18.stp (S25.tr (S43.tr (S52.tr (S56.tr (S68.tr (S77.tr (S83.tr (S87.tr S92)))))))) rfl rfl
     refine WO.k1 trivial rfl rfl rfl rfl (rn_ld Try.isAgg25 rfl rfl (hvE (f96.ld 1 rfl rfl))) ?_
     refine WO.pn 1 rfl ?_
     obtain ⟨x48, hx48, h⟩ := Option.bind_eq_some_iff.mp h
     refine WO.k2 rfl rfl rfl rfl (rn_index f20 hx48 Try.runUnderlying25 Try.sizeOf24 rfl rfl rfl rfl) ?_
     have f97 := f20.stp (S25.tr (S43.tr (S52.tr (S56.tr (S68.tr (S77.tr (S83.tr (S87.tr S92)))))))) rfl rfl
     obtain ⟨ax48, ux48, f98, hl99⟩ := f97.gSl hx48
     refine WO.k1 trivial rfl rfl rfl rfl (rn_ld Try.isAgg24 rfl rfl (hvE hl99)) ?_
     refine WO.pn 1 rfl ?_
     obtain ⟨x51, hx51, h⟩ := Option.bind_eq_some_iff.mp h
     refine WO.k2 rfl rfl rfl rfl (rn_index f98 hx51 Try.runUnderlying24 Try.sizeOf2 rfl rfl rfl rfl) ?_
     refine WO.k1 trivial rfl rfl rfl rfl (rn_ld Try.isAgg2 rfl rfl (hvE (f98.gInt hx51))) ?_
     refine WO.pn 1 rfl ?_
     refine WO.fin ?_
     refine DN.seq ?_
     refine WC.seq ?_
     refine WC.rs [(0, 2), (1, 1), (2, 2), (3, 2), (4, 1), (5, 1), (6, 1), (7, 2)] rfl ?_
     refine WO.pn 1 rfl ?_
     have f100 := f17.stp (S25.tr (S43.tr (S52.tr (S56.tr (S68.tr (S77.tr (S83.tr (S87.tr S92)))))))) rfl rfl
     refine WO.k1 trivial rfl rfl rfl rfl (rn_la (cs := [.int .i64 p0.In, .int .i64 p0.Out]) Try.isAgg30 Try.sizeOf30 rfl rfl rfl (haE f100.cells)) ?_
     refine WO.pn 2 rfl ?_
     obtain ⟨x57, hx57, h⟩ := Option.bind_eq_some_iff.mp h
     refine WO.call rfl rfl rfl rfl rfl rfl Try.call125 (s_LetterOf_ok (κ := fun b => mp [] 0 (K91 b)) (p0 := p0) hx57) ?_
     rintro _ w101 ⟨k102, rfl, e103⟩
     obtain ⟨K104, S105, m106⟩ := Ent.mixed (l := []) (κ := K91) e103 14 rfl
     refine ⟨trivial, ?_⟩
     refine WO.bl (κ := K104) (E := (Ep.int .i64)) 16 [] (parts := [(0, .tmp 57)]) (cells := [.int .i64 x57]) (xs := ([x57] : List Int)) rfl rfl rfl rfl rfl rfl Try.underlying24 Tryinfo2 rfl rfl rfl rfl rfl rfl rfl rfl rfl rfl ⟨[.int .i64 x57], [], Zl K104 w101 [], Zl K104 w101 [], rfl, Zl.sp (l1 := []) (l2 := []) rfl, Zl.sr (l1 := []) (l2 := []), rfl, rfl⟩ fun a58 u58 w108 K109 S110 f111 => ⟨trivial, ?_⟩
     obtain ⟨x59, hx59, h⟩ := Option.bind_eq_some_iff.mp h
     have f112 := f70.stp (S77.tr (S83.tr (S87.tr (S92.tr (S105.tr S110))))) rfl rfl
     refine WO.app (κ := K109) (E := (Ep.int .i64)) 9 [] rfl rfl rfl rfl rfl rfl rfl rfl rfl Try.underlying24 Tryinfo2 rfl rfl rfl rfl f112 (Sl.srcP (pu_int _) f111.rdc) sy_false hx59 rfl fun a59 u59 w113 K114 S115 f116 => ⟨trivial, ?_⟩
     refine WO.pn 1 rfl ?_
     refine WO.fin ?_
     refine DN.seq ?_
     refine WC.seq ?_
     refine WC.rs [(0, 2), (1, 1), (2, 2), (3, 2), (4, 1), (5, 2), (6, 2), (7, 1), (8, 2)] rfl ?_
     refine WO.k2 rfl rfl rfl rfl (rn_fieldAddr Try.runUnderlying84 rfl Try.sizeOf25 rfl rfl) ?_
     have f117 := f96.stp (S105.tr (S110.tr S115)) rfl rfl
     refine WO.k1 trivial rfl rfl rfl rfl (rn_ld Try.isAgg25 rfl rfl (hvE (f117.ld 0 rfl rfl))) ?_
     refine WO.pn 1 rfl ?_
     obtain ⟨x63, hx63, h⟩ := Option.bind_eq_some_iff.mp h
     refine WO.k2 rfl rfl rfl rfl (rn_index f19 hx63 Try.runUnderlying25 Try.sizeOf24 rfl rfl rfl rfl) ?_
     have f118 := f19.stp (S25.tr (S43.tr (S52.tr (S56.tr (S68.tr (S77.tr (S83.tr (S87.tr (S92.tr (S105.tr (S110.tr S115))))))))))) rfl rfl
     obtain ⟨ax63, ux63, f119, hl120⟩ := f118.gSl hx63
     refine WO.k1 trivial rfl rfl rfl rfl (rn_ld Try.isAgg24 rfl rfl (hvE hl120)) ?_
     refine WO.pn 1 rfl ?_
     obtain ⟨x66, hx66, h⟩ := Option.bind_eq_some_iff.mp h
     refine WO.k2 rfl rfl rfl rfl (rn_index f119 hx66 Try.runUnderlying24 Try.sizeOf2 rfl rfl rfl rfl) ?_
     refine WO.k1 trivial rfl rfl rfl rfl (rn_ld Try.isAgg2 rfl rfl (hvE (f119.gInt hx66))) ?_
     refine WO.pn 1 rfl ?_
     refine WO.fin ?_
     refine DN.seq ?_
     refine WC.rs [(0, 2), (1, 1), (2, 2), (3, 2), (4, 1), (5, 2), (6, 2), (7, 1), (8, 2)] rfl ?_
     refine WO.k2 rfl rfl rfl rfl (rn_fieldAddr Try.runUnderlying32 rfl Try.sizeOf25 rfl rfl) ?_
     have f121 := f94.stp (S105.tr (S110.tr S115)) rfl rfl
     refine WO.k1 trivial rfl rfl rfl rfl (rn_ld Try.isAgg25 rfl rfl (hvE (f121.ld 1 rfl rfl))) ?_
     refine WO.pn 1 rfl ?_
     obtain ⟨x71, hx71, h⟩ := Option.bind_eq_some_iff.mp h
     refine WO.k2 rfl rfl rfl rfl (rn_index g2_1 hx71 Try.runUnderlying25 Try.sizeOf24 rfl rfl rfl rfl) ?_
     have f122 := g2_1.stp (S3.tr (S7.tr (S11.tr (S15.tr (S25.tr (S43.tr (S52.tr (S56.tr (S68.tr (S77.tr (S83.tr (S87.tr (S92.tr (S105.tr (S110.tr S115))))))))))))))) rfl rfl
     obtain ⟨ax71, ux71, f123, hl124⟩ := f122.gSl hx71
     refine WO.k1 trivial rfl rfl rfl rfl (rn_ld Try.isAgg24 rfl rfl (hvE hl124)) ?_
     refine WO.pn 1 rfl ?_
     obtain ⟨x74, hx74, h⟩ := Option.bind_eq_some_iff.mp h
     refine WO.k2 rfl rfl rfl rfl (rn_index f123 hx74 Try.runUnderlying24 Try.sizeOf2 rfl rfl rfl rfl) ?_
     refine WO.k1 trivial rfl rfl rfl rfl (rn_ld Try.isAgg2 rfl rfl (hvE (f123.gInt hx74))) ?_
     refine WO.pn 1 rfl ?_
     refine WO.fin ?_
     refine DN.block ?_
     have f125 := f93.stp (S105.tr (S110.tr S115)) rfl rfl
     obtain rfl := Option.some.inj h
     refine DN.round fun a ha => ?_
     exact ⟨k, _, Nat.lt_succ_self _, ⟨K114, ((x39 : (List (List Int))), (x59 : (List Int)), (x66 : Int), (x74 : Int)), a39, u39, a59, u59, rfl, (S68.tr (S77.tr (S83.tr (S87.tr (S92.tr (S105.tr (S110.tr S115))))))).wk rfl, f125, f116, hk72⟩, (ha.more (ha.more (ha.more (ha.more (ha.more (ha.more (ha.more (ha.more ha.nil rfl) rfl) rfl) rfl) rfl) rfl) rfl) rfl)⟩
    | false =>
     intro h; replace h := cF h
     refine WC.cf rfl ?_
     refine WC.exit ?_
     refine DN.exitThen ?_
     refine DN.exitThen ?_
     obtain rfl := Option.some.inj h
     have h := hk72
     refine DN.hit ?_
     have f126 := f69.stp S77 rfl rfl
     have f127 := f70.stp S77 rfl rfl
     obtain rfl := Option.some.inj h
     exact DN.meet _ ⟨K76, ((s1.1 : (List (List Int))), (s1.2.1 : (List Int)), (s1.2.2.1 : Int), (s1.2.2.2 : Int)), las1_0, lus1_0, las1_1, lus1_1, rfl, (S68.tr S77).wk rfl, f126, f127, rfl⟩ fun a ha => (ha.more (ha.more (ha.more (ha.more (ha.more ha.nil rfl) rfl) rfl) rfl) rfl)
  rintro _ w61 ⟨K62, s3, las3_0, lus3_0, las3_1, lus3_1, rfl, S63, f64, f65, rfl⟩
  have h := hK59
  dsimp only [aft] at h
  refine DN.seq ?_
  refine WC.seq ?_
  refine WC.rs [(0, 2), (1, 2), (2, 2), (3, 1), (4, 2)] rfl ?_
  refine WO.pn 3 rfl ?_
  obtain ⟨x79, hx79, h⟩ := Option.bind_eq_some_iff.mp h
  refine WO.call rfl rfl rfl rfl rfl rfl Try.call124 (s_l26Place_ok (κ := fun b => mp [] 0 (K62 b)) (Sl.map f64.rdc (mp [] 0) rfl rfl) hx79) ?_
  rintro _ w128 ⟨k129, rfl, e130⟩
  obtain ⟨K131, S132, m133⟩ := Ent.mixed (l := []) (κ := K62) e130 10 rfl
  refine ⟨trivial, ?_⟩
  refine WO.pn 1 rfl ?_
  refine WO.fin ?_
  refine DN.seq ?_
  refine WC.seq ?_
  obtain ⟨x82, hx82, h⟩ := Option.bind_eq_some_iff.mp h
  obtain ⟨x86, hx86, h⟩ := Option.bind_eq_some_iff.mp h
  obtain ⟨x83, hx83, h⟩ := Option.bind_eq_some_iff.mp h
  obtain ⟨x87, hx87, h⟩ := Option.bind_eq_some_iff.mp h
  refine WC.meet (fun L w' => ∃ (κ' : Col) (b15 : Nat) (lar138_0 : Option Addr) (lur138_0 : Nat) (lar138_1 : Option Addr) (lur138_1 : Nat), L = [(6, .pointer (some ⟨b6, 0, none⟩)), (15, .pointer (some ⟨b15, 0, none⟩))] ∧ Stp [12, 14, 15, 17, 18] K131 w128 κ' w' ∧ Oc (Ep.int .i64) 2 κ' w' 12 lar138_0 lur138_0 ((⟨x83, x87⟩ : Word).Stem) ∧ Oc (Ep.int .i64) 2 κ' w' 13 lar138_1 lur138_1 ((⟨x83, x87⟩ : Word).Loop) ∧ Bc κ' w' 14 b15 82 [.slice lar138_0 ((⟨x83, x87⟩ : Word).Stem).length lur138_0, .slice lar138_1 ((⟨x83, x87⟩ : Word).Loop).length lur138_1]) ?_ ?_
  ·
   refine WC.rxt (κ := K131) 11 none (by kernel_rfl) fun w142 S143 => ?_
   refine WA.seg (fuel := 5) [(0, 2), (1, 2), (2, 2), (4, 2), (5, 2), (6, 2)] (by kernel_rfl) (by kernel_rfl) rfl ?_
   refine WO.pn 2 rfl ?_
   refine WO.k2 rfl rfl rfl rfl (rn_slice (k1 := .i64) (k2 := .i64) Try.runUnderlying24 Try.sizeOf2 (.inl ⟨rfl, rfl⟩) (.inr ⟨_, rfl, rfl⟩) hx82 f65.rdc.1 rfl rfl rfl) ?_
   have f145 := f65.stp (S132.tr S143) rfl rfl
   have f144 := f145.rdc.sub hx82
   refine WO.pn 2 rfl ?_
   refine WO.k2 rfl rfl rfl rfl (rn_slice (k1 := .i64) (k2 := .i64) Try.runUnderlying24 Try.sizeOf2 (.inr ⟨_, rfl, rfl⟩) (.inl ⟨rfl, rfl⟩) hx86 f145.rdc.1 rfl rfl rfl) ?_
   have f146 := f145.rdc.sub hx86
   refine WO.wa ?_
   refine WA.fork2 (fuel := 4) 3 9 (by kernel_rfl) rfl ?_ ?_
   ·
    refine WO.call rfl rfl rfl rfl rfl rfl Try.call111 (s_l1Copy_ok (κ := fun b => mp [] 0 (K131 b)) (Sl.map f144 (mp [] 0) rfl rfl) hx83) ?_
    rintro _ w147 ⟨k148, a83_0, u83_0, rfl, e149, f150⟩
    obtain ⟨K151, S152, m153⟩ := Ent.mixed (l := []) (κ := K131) e149 12 rfl
    refine ⟨(S152.cl rfl), ?_⟩
    have f155 := f150.mx (no_int _) m153 rfl (rfl : 12 + 2 = 14)
    refine WO.wa ?_
    refine WA.fork2 (fuel := 3) 7 9 (by kernel_rfl) rfl ?_ ?_
    ·
     have f156 := f146.stp S152 rfl rfl
     refine WO.call rfl rfl rfl rfl rfl rfl Try.call111 (s_l1Copy_ok (κ := fun b => mp [] 0 (K151 b)) (Sl.map f156 (mp [] 0) rfl rfl) hx87) ?_
     rintro _ w157 ⟨k158, a87_0, u87_0, rfl, e159, f160⟩
     obtain ⟨K161, S162, m163⟩ := Ent.mixed (l := []) (κ := K151) e159 15 rfl
     refine ⟨((S152.tr S162).cl rfl), ?_⟩
     have f165 := f160.mx (no_int _) m163 rfl (rfl : 15 + 2 = 17)
     refine WO.wa ?_
     refine WA.seg (fuel := 0) [(8, 2), (9, 1), (10, 1)] (by kernel_rfl) (by kernel_rfl) rfl ?_
     refine WO.k2 rfl rfl rfl rfl (rn_build (parts := [(0, .tmp 83), (1, .tmp 87)]) (cells := [.slice a83_0 x83.length u83_0, .slice a87_0 x87.length u87_0]) rfl rfl (by kernel_rfl)) ?_
     refine WO.alloc (κ := K161) 18 rfl rfl rfl rfl rfl Try.zeroValue82 rfl fun b15 w166 K167 S168 f169 => ⟨((S152.tr (S162.tr S168)).cl rfl), ?_⟩
     refine WO.stB0 (κ := K167) 18 (vc := [.slice a83_0 x83.length u83_0, .slice a87_0 x87.length u87_0]) rfl rfl rfl rfl rfl rfl rfl Try.sizeOf82 rfl rfl f169 rfl fun w170 S171 f172 => ⟨((S152.tr (S162.tr (S168.tr S171))).cl rfl), ?_⟩
     refine WO.wa ?_
     refine WA.last [] (by kernel_rfl) (by kernel_rfl) rfl ?_
     refine WO.fin ?_
     have f173 := f155.stp (S162.tr (S168.tr S171)) rfl rfl
     have f174 := f165.stp (S168.tr S171) rfl rfl
     exact DN.meet _ ⟨(fun b => ren [(14, 12), (17, 13), (18, 14)] (K167 b)), b15, a83_0, u83_0, a87_0, u87_0, rfl, (Stp.ren ((S143.tr (S152.tr (S162.tr (S168.tr S171)))).wk rfl) [(14, 12), (17, 13), (18, 14)] rfl), (f173.map (ren [(14, 12), (17, 13), (18, 14)]) rfl rfl), (f174.map (ren [(14, 12), (17, 13), (18, 14)]) rfl rfl), (f172.map (ren [(14, 12), (17, 13), (18, 14)]) rfl rfl)⟩ fun a ha => (ha.more (ha.more ha.nil rfl) rfl)
    ·
     refine WO.alloc (κ := K151) 15 rfl rfl rfl rfl rfl Try.zeroValue82 rfl fun b15 w175 K176 S177 f178 => ⟨((S152.tr S177).cl rfl), ?_⟩
     refine WO.wa ?_
     refine WA.seg (fuel := 0) [(7, 1), (8, 2), (10, 1)] (by kernel_rfl) (by kernel_rfl) rfl ?_
     have f179 := f146.stp (S152.tr S177) rfl rfl
     refine WO.call rfl rfl rfl rfl rfl rfl Try.call111 (s_l1Copy_ok (κ := fun b => mp [] 0 (K176 b)) (Sl.map f179 (mp [] 0) rfl rfl) hx87) ?_
     rintro _ w180 ⟨k181, a87_0, u87_0, rfl, e182, f183⟩
     obtain ⟨K184, S185, m186⟩ := Ent.mixed (l := []) (κ := K176) e182 16 rfl
     refine ⟨((S152.tr (S177.tr S185)).cl rfl), ?_⟩
     have f188 := f183.mx (no_int _) m186 rfl (rfl : 16 + 2 = 18)
     refine WO.k2 rfl rfl rfl rfl (rn_build (parts := [(0, .tmp 83), (1, .tmp 87)]) (cells := [.slice a83_0 x83.length u83_0, .slice a87_0 x87.length u87_0]) rfl rfl (by kernel_rfl)) ?_
     have f189 := f178.stp S185 rfl rfl
     refine WO.stB0 (κ := K184) 15 (vc := [.slice a83_0 x83.length u83_0, .slice a87_0 x87.length u87_0]) rfl rfl rfl rfl rfl rfl rfl Try.sizeOf82 rfl rfl f189 rfl fun w190 S191 f192 => ⟨((S152.tr (S177.tr (S185.tr S191))).cl rfl), ?_⟩
     refine WO.wa ?_
     refine WA.last [] (by kernel_rfl) (by kernel_rfl) rfl ?_
     refine WO.fin ?_
     have f193 := f155.stp (S177.tr (S185.tr S191)) rfl rfl
     have f194 := f188.stp S191 rfl rfl
     exact DN.meet _ ⟨(fun b => ren [(14, 12), (18, 13), (15, 14)] (K184 b)), b15, a83_0, u83_0, a87_0, u87_0, rfl, (Stp.ren ((S143.tr (S152.tr (S177.tr (S185.tr S191)))).wk rfl) [(14, 12), (18, 13), (15, 14)] rfl), (f193.map (ren [(14, 12), (18, 13), (15, 14)]) rfl rfl), (f194.map (ren [(14, 12), (18, 13), (15, 14)]) rfl rfl), (f192.map (ren [(14, 12), (18, 13), (15, 14)]) rfl rfl)⟩ fun a ha => (ha.more (ha.more ha.nil rfl) rfl)
   ·
    refine WO.alloc (κ := K131) 12 rfl rfl rfl rfl rfl Try.zeroValue82 rfl fun b15 w195 K196 S197 f198 => ⟨(S197.cl rfl), ?_⟩
    refine WO.wa ?_
    refine WA.seg (fuel := 0) [(3, 1), (7, 1), (8, 2), (10, 1)] (by kernel_rfl) (by kernel_rfl) rfl ?_
    have f199 := f144.stp S197 rfl rfl
    refine WO.call rfl rfl rfl rfl rfl rfl Try.call111 (s_l1Copy_ok (κ := fun b => mp [] 0 (K196 b)) (Sl.map f199 (mp [] 0) rfl rfl) hx83) ?_
    rintro _ w200 ⟨k201, a83_0, u83_0, rfl, e202, f203⟩
    obtain ⟨K204, S205, m206⟩ := Ent.mixed (l := []) (κ := K196) e202 13 rfl
    refine ⟨((S197.tr S205).cl rfl), ?_⟩
    have f208 := f203.mx (no_int _) m206 rfl (rfl : 13 + 2 = 15)
    have f209 := f146.stp (S197.tr S205) rfl rfl
    refine WO.call rfl rfl rfl rfl rfl rfl Try.call111 (s_l1Copy_ok (κ := fun b => mp [] 0 (K204 b)) (Sl.map f209 (mp [] 0) rfl rfl) hx87) ?_
    rintro _ w210 ⟨k211, a87_0, u87_0, rfl, e212, f213⟩
    obtain ⟨K214, S215, m216⟩ := Ent.mixed (l := []) (κ := K204) e212 16 rfl
    refine ⟨((S197.tr (S205.tr S215)).cl rfl), ?_⟩
    have f218 := f213.mx (no_int _) m216 rfl (rfl : 16 + 2 = 18)
    refine WO.k2 rfl rfl rfl rfl (rn_build (parts := [(0, .tmp 83), (1, .tmp 87)]) (cells := [.slice a83_0 x83.length u83_0, .slice a87_0 x87.length u87_0]) rfl rfl (by kernel_rfl)) ?_
    have f219 := f198.stp (S205.tr S215) rfl rfl
    refine WO.stB0 (κ := K214) 12 (vc := [.slice a83_0 x83.length u83_0, .slice a87_0 x87.length u87_0]) rfl rfl rfl rfl rfl rfl rfl Try.sizeOf82 rfl rfl f219 rfl fun w220 S221 f222 => ⟨((S197.tr (S205.tr (S215.tr S221))).cl rfl), ?_⟩
    refine WO.wa ?_
    refine WA.last [] (by kernel_rfl) (by kernel_rfl) rfl ?_
    refine WO.fin ?_
    have f223 := f208.stp (S215.tr S221) rfl rfl
    have f224 := f218.stp S221 rfl rfl
    exact DN.meet _ ⟨(fun b => ren [(15, 12), (18, 13), (12, 14)] (K214 b)), b15, a83_0, u83_0, a87_0, u87_0, rfl, (Stp.ren ((S143.tr (S197.tr (S205.tr (S215.tr S221)))).wk rfl) [(15, 12), (18, 13), (12, 14)] rfl), (f223.map (ren [(15, 12), (18, 13), (12, 14)]) rfl rfl), (f224.map (ren [(15, 12), (18, 13), (12, 14)]) rfl rfl), (f222.map (ren [(15, 12), (18, 13), (12, 14)]) rfl rfl)⟩ fun a ha => (ha.more (ha.more ha.nil rfl) rfl)
  rintro _ w135 ⟨K136, b15, lar138_0, lur138_0, lar138_1, lur138_1, rfl, S137, f139, f140, f141⟩
  refine DN.seq ?_
  refine WC.seq ?_
  refine WC.seq ?_
  refine WC.rs [(0, 2), (1, 1), (2, 2), (3, 2), (4, 2), (5, 2), (6, 1), (7, 2), (8, 2), (9, 2)] rfl ?_
  refine WO.k2 rfl rfl rfl rfl (rn_fieldAddr Try.runUnderlying82 rfl Try.sizeOf24 rfl rfl) ?_
  refine WO.k1 trivial rfl rfl rfl rfl (rn_ld Try.isAgg24 rfl rfl (hvE (f141.ld 0 rfl rfl))) ?_
  refine WO.k2 rfl rfl rfl rfl (rn_len Try.runUnderlying24 rfl rfl) ?_
  refine WO.pn 2 rfl ?_
  obtain ⟨p98, h, hK225⟩ := Option.bind_eq_some_iff.mp h
  refine WO.meet [(5, 2), (6, 1), (7, 2), (8, 2), (9, 2)] [] (fun L w' => L = [(6, .pointer (some ⟨b6, 0, none⟩)), (15, .pointer (some ⟨b15, 0, none⟩)), (98, .bool p98)] ∧ ∃ κ', Stp [] K136 w135 κ' w') trivial ?_ ?_
  ·
   revert h
   cases ht226 : decide (600 < (((⟨x83, x87⟩ : Word).Stem).length : Int)) with
   | true =>
    intro h; replace h := cT h
    refine WO.pn 1 rfl ?_
    refine WO.ls rfl rfl rfl rfl ?_
    refine WO.pn 3 rfl ?_
    obtain rfl := Option.some.inj h
    exact WO.met _ trivial ⟨rfl, _, (Stp.refl _ _).wk rfl⟩ fun a ha => (ha.more (ha.more (ha.more ha.nil rfl) rfl) rfl)
   | false =>
    intro h; replace h := cF h
    refine WO.k2 rfl rfl rfl rfl (rn_fieldAddr Try.runUnderlying82 rfl Try.sizeOf24 rfl rfl) ?_
    refine WO.k1 trivial rfl rfl rfl rfl (rn_ld Try.isAgg24 rfl rfl (hvE (f141.ld 1 rfl rfl))) ?_
    refine WO.k2 rfl rfl rfl rfl (rn_len Try.runUnderlying24 rfl rfl) ?_
    refine WO.pn 2 rfl ?_
    obtain rfl := Option.some.inj h
    exact WO.met _ trivial ⟨rfl, _, (Stp.refl _ _).wk rfl⟩ fun a ha => (ha.more (ha.more (ha.more ha.nil rfl) rfl) rfl)
  rintro _ w227 _ ⟨rfl, K228, S229⟩
  have h := hK225
  refine WO.fin ?_
  refine DN.seq ?_
  revert h
  cases ht230 : p98 with
  | true =>
   intro h; replace h := cT h
   refine WC.ct rfl ?_
   refine WC.seq ?_
   refine WC.rs [(0, 2), (1, 1), (2, 2)] rfl ?_
   refine WO.k2 rfl rfl rfl rfl (rn_build (parts := []) (cells := [.slice none 0 0, .slice none 0 0]) rfl rfl (by kernel_rfl)) ?_
   have f231 := f16.stp (S25.tr (S43.tr (S52.tr (S56.tr (S63.tr (S132.tr (S137.tr S229))))))) rfl rfl
   refine WO.stB0 (κ := K228) 5 (vc := [.slice none 0 0, .slice none 0 0]) rfl rfl rfl rfl rfl rfl rfl Try.sizeOf82 rfl rfl f231 rfl fun w232 S233 f234 => ⟨trivial, ?_⟩
   refine WO.pn 1 rfl ?_
   refine WO.fin ?_
   refine DN.seq ?_
   refine WC.ret ?_
   refine DN.retThen ?_
   have f235 := hE.stp (S3.tr (S7.tr (S11.tr (S15.tr (S25.tr (S43.tr (S52.tr (S56.tr (S63.tr (S132.tr (S137.tr (S229.tr S233)))))))))))) rfl rfl
   refine DN.res (l := [.cell 6 82, .tmp 7]) Try.results61 (res_cellA rfl f234 Try.isAgg82 Try.sizeOf82 rfl (res_tmp rfl rfl)) rfl ?_
   obtain rfl := Option.some.inj h
   exact ⟨K228, none, 0, none, 0, rfl, f235, Ow.nil, Ow.nil⟩
  | false =>
   intro h; replace h := cF h
   refine WC.cf rfl ?_
   refine WC.skip ?_
   refine DN.seq ?_
   refine WC.seq ?_
   refine WC.rs [(0, 1), (1, 1), (2, 2)] rfl ?_
   have f236 := f141.stp S229 rfl rfl
   refine WO.k1 trivial rfl rfl rfl rfl (rn_la (cs := [.slice lar138_0 ((⟨x83, x87⟩ : Word).Stem).length lur138_0, .slice lar138_1 ((⟨x83, x87⟩ : Word).Loop).length lur138_1]) Try.isAgg82 Try.sizeOf82 rfl rfl rfl (haE f236.cells)) ?_
   have f237 := f16.stp (S25.tr (S43.tr (S52.tr (S56.tr (S63.tr (S132.tr (S137.tr S229))))))) rfl rfl
   refine WO.stB0 (κ := K228) 5 (vc := [.slice lar138_0 ((⟨x83, x87⟩ : Word).Stem).length lur138_0, .slice lar138_1 ((⟨x83, x87⟩ : Word).Loop).length lur138_1]) rfl rfl rfl rfl rfl rfl rfl Try.sizeOf82 rfl rfl f237 rfl fun w238 S239 f240 => ⟨trivial, ?_⟩
   refine WO.pn 1 rfl ?_
   refine WO.fin ?_
   refine DN.seq ?_
   refine WC.ret ?_
   have f241 := hE.stp (S3.tr (S7.tr (S11.tr (S15.tr (S25.tr (S43.tr (S52.tr (S56.tr (S63.tr (S132.tr (S137.tr (S229.tr S239)))))))))))) rfl rfl
   have f242 := f139.stp (S229.tr S239) rfl rfl
   have f243 := f140.stp (S229.tr S239) rfl rfl
   refine DN.res (l := [.cell 6 82, .tmp 7]) Try.results61 (res_cellA rfl f240 Try.isAgg82 Try.sizeOf82 rfl (res_tmp rfl rfl)) rfl ?_
   obtain rfl := Option.some.inj h
   exact ⟨(fun b => ren [(12, 2), (13, 3)] (K228 b)), lar138_0, lur138_0, lar138_1, lur138_1, rfl, (f241.map (ren [(12, 2), (13, 3)]) rfl rfl), (f242.map (ren [(12, 2), (13, 3)]) rfl rfl), (f243.map (ren [(12, 2), (13, 3)]) rfl rfl)⟩

/- loop.example/g00869/impl.areLetters -/
theorem i_areLetters_ok {w : World} {κ : Col} {a0 : Option Addr} {u0 : Nat} {p0 : (List Int)} {p1 : Int} (g0 : Rd (Rp.int .i64) κ w 0 a0 u0 p0) {r : Bool} (h : i_areLetters p0 p1 = some r) : Ret Try.prog 80 [.slice a0 p0.length u0, .int .i64 p1] w (fun v w' => ∃ (κ' : Col), v = .bool r ∧ Ent κ w κ' w') := by
 unfold i_areLetters at h
 refine Ret.enter Try.func80 rfl Try.ntmps80 rfl ?_
 dsimp only [envOf]
 have hE := Ent.refl κ w
 refine WC.seq ?_
 refine WC.rs [(0, 1), (1, 2)] rfl ?_
 refine WO.box (κ := κ) 2 rfl rfl rfl rfl rfl rfl rfl fun b3 w1 K2 S3 f4 => ⟨trivial, ?_⟩
 refine WO.pn 1 rfl ?_
 refine WO.fin ?_
 refine DN.seq ?_
 refine WC.seq ?_
 refine WC.rs [(0, 2), (1, 2), (2, 1), (3, 2), (4, 2)] rfl ?_
 refine WO.pn 1 rfl ?_
 refine WO.k2 rfl rfl rfl rfl (rn_makeFunc (first := []) (captured := [.tmp 3]) rfl rfl rfl ⟨_, rfl⟩) ?_
 obtain ⟨x7, hx7, h⟩ := Option.bind_eq_some_iff.mp h
 have f5 := g0.stp S3 rfl rfl
 refine WO.call rfl rfl rfl rfl rfl rfl Try.call134 (slices_ContainsFunc_I_int64__i_areLetters_1_ok (κ := fun b => mp [] 0 (K2 b)) (Sl.map f5 (mp [] 0) rfl rfl) (f4.map (mp [] 0) rfl rfl) hx7) ?_
 rintro _ w6 ⟨k7, rfl, e8⟩
 obtain ⟨K9, S10, m11⟩ := Ent.mixed (l := []) (κ := K2) e8 3 rfl
 refine ⟨trivial, ?_⟩
 refine WO.pn 2 rfl ?_
 refine WO.fin ?_
 refine DN.seq ?_
 refine WC.ret ?_
 have f13 := hE.stp (S3.tr S10) rfl rfl
 refine DN.res (l := [.tmp 4]) Try.results80 (res_tmp rfl rfl) rfl ?_
 obtain rfl := Option.some.inj h
 exact ⟨K9, rfl, f13⟩

/- loop.example/g00869/impl.isMachine -/
theorem i_isMachine_ok {w : World} {κ : Col} {p0 : Sig} {a1_0 : Option Addr} {u1_0 : Nat} {a1_1 : Option Addr} {u1_1 : Nat} {p1 : Machine} (g1_0 : Rd (Rp.sl (Rp.int .i64)) κ w 0 a1_0 u1_0 p1.Next) (g1_1 : Rd (Rp.sl (Rp.int .i64)) κ w 0 a1_1 u1_1 p1.Out) {r : Bool} (h : i_isMachine p0 p1 = some r) : Ret Try.prog 104 [.agg #[.int .i64 p0.In, .int .i64 p0.Out], .agg #[.slice a1_0 p1.Next.length u1_0, .slice a1_1 p1.Out.length u1_1]] w (fun v w' => ∃ (κ' : Col), v = .bool r ∧ Ent κ w κ' w') := by
 unfold i_isMachine at h
 refine Ret.enter Try.func104 rfl Try.ntmps104 rfl ?_
 dsimp only [envOf]
 have hE := Ent.refl κ w
 refine WC.seq ?_
 refine WC.rs [(0, 1), (1, 1), (2, 2)] rfl ?_
 refine WO.box (κ := κ) 2 rfl rfl rfl rfl rfl rfl rfl fun b2 w1 K2 S3 f4 => ⟨trivial, ?_⟩
 refine WO.box (κ := K2) 3 rfl rfl rfl rfl rfl rfl rfl fun b3 w5 K6 S7 f8 => ⟨trivial, ?_⟩
 refine WO.pn 1 rfl ?_
 refine WO.fin ?_
 refine DN.seq ?_
 refine WC.seq ?_
 refine WC.rs [(0, 2), (1, 1), (2, 2), (3, 2)] rfl ?_
 refine WO.k2 rfl rfl rfl rfl (rn_fieldAddr Try.runUnderlying84 rfl Try.sizeOf25 rfl rfl) ?_
 refine WO.k1 trivial rfl rfl rfl rfl (rn_ld Try.isAgg25 rfl rfl (hvE (f8.ld 0 rfl rfl))) ?_
 refine WO.k2 rfl rfl rfl rfl (rn_len Try.runUnderlying25 rfl rfl) ?_
 refine WO.pn 1 rfl ?_
 refine WO.fin ?_
 refine DN.seq ?_
 refine WC.seq ?_
 refine WC.seq ?_
 refine WC.rs [(0, 2), (1, 2), (2, 2), (3, 2), (4, 2), (5, 2), (6, 2), (7, 2), (8, 1), (9, 2), (10, 2), (11, 1), (12, 2), (13, 2), (14, 2)] rfl ?_
 refine WO.pn 3 rfl ?_
 obtain ⟨p16, h, hK9⟩ := Option.bind_eq_some_iff.mp h
 refine WO.meet [(3, 2), (4, 2), (5, 2)] [(6, 2), (7, 2), (8, 1), (9, 2), (10, 2), (11, 1), (12, 2), (13, 2), (14, 2)] (fun L w' => L = [(2, .pointer (some ⟨b2, 0, none⟩)), (3, .pointer (some ⟨b3, 0, none⟩)), (5, .int .i64 (p1.Next.length : Int)), (16, .bool p16)] ∧ ∃ κ', Stp [] K6 w5 κ' w') trivial ?_ ?_
 ·
  revert h
  cases ht10 : decide ((p1.Next.length : Int) < 1) with
  | true =>
   intro h; replace h := cT h
   refine WO.pn 3 rfl ?_
   obtain rfl := Option.some.inj h
   exact WO.met _ trivial ⟨rfl, _, (Stp.refl _ _).wk rfl⟩ fun a ha => (ha.more (ha.more (ha.more (ha.more ha.nil rfl) rfl) rfl) rfl)
  | false =>
   intro h; replace h := cF h
   refine WO.pn 3 rfl ?_
   obtain rfl := Option.some.inj h
   exact WO.met _ trivial ⟨rfl, _, (Stp.refl _ _).wk rfl⟩ fun a ha => (ha.more (ha.more (ha.more (ha.more ha.nil rfl) rfl) rfl) rfl)
 rintro _ w11 _ ⟨rfl, K12, S13⟩
 have h := hK9
 refine WO.pn 1 rfl ?_
 obtain ⟨p25, h, hK14⟩ := Option.bind_eq_some_iff.mp h
 refine WO.meet [(7, 2), (8, 1), (9, 2), (10, 2), (11, 1), (12, 2), (13, 2), (14, 2)] [] (fun L w' => L = [(2, .pointer (some ⟨b2, 0, none⟩)), (3, .pointer (some ⟨b3, 0, none⟩)), (5, .int .i64 (p1.Next.length : Int)), (25, .bool p25)] ∧ ∃ κ', Stp [] K12 w11 κ' w') trivial ?_ ?_
 ·
  revert h
  cases ht15 : p16 with
  | true =>
   intro h; replace h := cT h
   refine WO.pn 1 rfl ?_
   refine WO.ls rfl rfl rfl rfl ?_
   refine WO.pn 2 rfl ?_
   refine WO.ls rfl rfl rfl rfl ?_
   refine WO.pn 3 rfl ?_
   obtain rfl := Option.some.inj h
   exact WO.met _ trivial ⟨rfl, _, (Stp.refl _ _).wk rfl⟩ fun a ha => (ha.more (ha.more (ha.more (ha.more ha.nil rfl) rfl) rfl) rfl)
  | false =>
   intro h; replace h := cF h
   refine WO.k2 rfl rfl rfl rfl (rn_fieldAddr Try.runUnderlying84 rfl Try.sizeOf25 rfl rfl) ?_
   have f16 := f8.stp S13 rfl rfl
   refine WO.k1 trivial rfl rfl rfl rfl (rn_ld Try.isAgg25 rfl rfl (hvE (f16.ld 1 rfl rfl))) ?_
   refine WO.k2 rfl rfl rfl rfl (rn_len Try.runUnderlying25 rfl rfl) ?_
   refine WO.k2 rfl rfl rfl rfl (rn_fieldAddr Try.runUnderlying84 rfl Try.sizeOf25 rfl rfl) ?_
   refine WO.k1 trivial rfl rfl rfl rfl (rn_ld Try.isAgg25 rfl rfl (hvE (f16.ld 0 rfl rfl))) ?_
   refine WO.k2 rfl rfl rfl rfl (rn_len Try.runUnderlying25 rfl rfl) ?_
   refine WO.pn 2 rfl ?_
   obtain rfl := Option.some.inj h
   exact WO.met _ trivial ⟨rfl, _, (Stp.refl _ _).wk rfl⟩ fun a ha => (ha.more (ha.more (ha.more (ha.more ha.nil rfl) rfl) rfl) rfl)
 rintro _ w17 _ ⟨rfl, K18, S19⟩
 have h := hK14
 refine WO.fin ?_
 refine DN.seq ?_
 revert h
 cases ht20 : p25 with
 | true =>
  intro h; replace h := cT h
  refine WC.ct rfl ?_
  refine WC.seq ?_
  refine WC.rs [(0, 2)] rfl ?_
  refine WO.pn 1 rfl ?_
  refine WO.fin ?_
  refine DN.seq ?_
  refine WC.ret ?_
  refine DN.retThen ?_
  have f21 := hE.stp (S3.tr (S7.tr (S13.tr S19))) rfl rfl
  refine DN.res (l := [.tmp 4]) Try.results104 (res_tmp rfl rfl) rfl ?_
  obtain rfl := Option.some.inj h
  exact ⟨K18, rfl, f21⟩
 | false =>
  intro h; replace h := cF h
  refine WC.cf rfl ?_
  refine WC.skip ?_
  refine DN.seq ?_
  refine WC.seq ?_
  refine WC.seq ?_
  refine WC.rs [(0, 2), (1, 1), (2, 2), (3, 2)] rfl ?_
  refine WO.k2 rfl rfl rfl rfl (rn_fieldAddr Try.runUnderlying84 rfl Try.sizeOf25 rfl rfl) ?_
  have f22 := f8.stp (S13.tr S19) rfl rfl
  refine WO.k1 trivial rfl rfl rfl rfl (rn_ld Try.isAgg25 rfl rfl (hvE (f22.ld 0 rfl rfl))) ?_
  refine WO.k2 rfl rfl rfl rfl (rn_len Try.runUnderlying25 rfl rfl) ?_
  refine WO.pn 1 rfl ?_
  refine WO.fin ?_
  refine DN.seq ?_
  have hN23 : (p1.Next.length : Int) ≤ 9223372036854775807 := g1_0.len_le
  obtain ⟨q2, hq25, hK24⟩ := Option.bind_eq_some_iff.mp h
  clear h
  refine WC.meet (fun L w' => ∃ (κ' : Col), L = [] ∧ Stp [] K18 w17 κ' w' ∧ q2 = Sum.inr ()) ?_ ?_
  ·
   refine WC.block ?_
   refine WC.loop (fun k L w' => ∃ (κ' : Col) (v29 : Int), L = [(2, .pointer (some ⟨b2, 0, none⟩)), (3, .pointer (some ⟨b3, 0, none⟩)), (5, .int .i64 (p1.Next.length : Int)), (27, .slice a1_0 p1.Next.length u1_0), (28, .int .i64 (p1.Next.length : Int)), (29, .int .i64 v29)] ∧ Stp [] K18 w17 κ' w' ∧ 0 ≤ v29 ∧ Int.toNat ((p1.Next.length : Int) - v29) = k ∧ cntM (i_isMachine_b0 p0 p1) k v29 () = some q2) ⟨_, _, ⟨K18, 0, rfl, (Stp.refl _ _).wk rfl, (by decide), (by simp), hq25⟩, fun a ha => (ha.more (ha.more (ha.more (ha.more (ha.more (ha.more ha.nil rfl) rfl) rfl) rfl) rfl) rfl)⟩ ?_
   rintro k _ w29 ⟨K30, v29, rfl, S31, hj23, hJ23, h⟩
   rcases k with _ | k
   ·
    have hk32 := h; obtain ⟨o23, h⟩ := ex_eq (Sum.inr (Sum.inl ()) : Bool ⊕ ((Unit) ⊕ (Unit)))
    have hc23 : decide (v29 < (p1.Next.length : Int)) = false := decide_eq_false (by omega)
    refine WC.seq ?_
    refine WC.rs [(0, 2)] rfl ?_
    refine WO.pn 1 rfl ?_
    refine WO.fin ?_
    refine DN.seq ?_
    refine WC.seq ?_
    refine WC.cf' rfl hc23 ?_
    refine WC.exit ?_
    refine DN.exitThen ?_
    refine DN.exitThen ?_
    obtain rfl := Option.some.inj h
    have h := hk32
    refine DN.hit ?_
    obtain rfl := Option.some.inj h
    exact DN.meet _ ⟨K30, rfl, S31.wk rfl, rfl⟩ fun a ha => ha.nil
   ·
    obtain ⟨o23, h, hk32⟩ := Option.bind_eq_some_iff.mp h; unfold i_isMachine_b0 at h
    have hc23 : decide (v29 < (p1.Next.length : Int)) = true := decide_eq_true (by omega)
    refine WC.seq ?_
    refine WC.rs [(0, 2)] rfl ?_
    refine WO.pn 1 rfl ?_
    refine WO.fin ?_
    refine DN.seq ?_
    refine WC.seq ?_
    refine WC.ct' rfl hc23 ?_
    refine WC.skip ?_
    refine DN.seq ?_
    refine WC.seq ?_
    refine WC.block ?_
    refine WC.seq ?_
    refine WC.rs [(0, 2), (1, 2), (2, 1), (3, 2), (4, 2)] rfl ?_
    refine WO.pn 1 rfl ?_
    obtain ⟨x32, hx32, h⟩ := Option.bind_eq_some_iff.mp h
    refine WO.k2 rfl rfl rfl rfl (rn_index g1_0 hx32 Try.runUnderlying25 Try.sizeOf24 rfl rfl rfl rfl) ?_
    have f33 := g1_0.stp (S3.tr (S7.tr (S13.tr (S19.tr S31)))) rfl rfl
    obtain ⟨ax32, ux32, f34, hl35⟩ := f33.gSl hx32
    refine WO.k1 trivial rfl rfl rfl rfl (rn_ld Try.isAgg24 rfl rfl (hvE hl35)) ?_
    refine WO.pn 2 rfl ?_
    refine WO.fin ?_
    refine DN.seq ?_
    refine WC.seq ?_
    refine WC.rx (κ := K30) 3 none [(0, 2), (1, 2), (2, 0), (3, 1), (4, 2), (5, 2), (6, 2), (8, 2), (12, 2), (13, 2), (7, 0), (9, 2), (10, 0), (11, 2), (14, 2), (15, 2), (16, 2), (17, 2), (18, 2), (19, 1), (20, 2), (21, 2), (22, 2), (23, 2), (25, 2), (28, 2), (24, 0), (26, 2), (27, 0), (29, 0), (30, 2), (31, 1), (32, 2), (33, 2)] [] (by kernel_rfl) (by kernel_rfl) fun w37 S36 => ?_
    refine WO.pn 1 rfl ?_
    refine WO.k2 rfl rfl rfl rfl (rn_len Try.runUnderlying24 rfl rfl) ?_
    have f38 := f4.stp (S7.tr (S13.tr (S19.tr (S31.tr S36)))) rfl rfl
    refine WO.k0 rfl rfl rfl rfl (rn_la (cs := [.int .i64 p0.In, .int .i64 p0.Out]) Try.isAgg30 Try.sizeOf30 rfl rfl rfl (haC f38.cells rfl)) ?_
    obtain ⟨x37, hx37, h⟩ := Option.bind_eq_some_iff.mp h
    refine WO.call rfl rfl rfl rfl rfl rfl Try.call106 (i_inputsOf_ok (κ := fun b => mp [] 0 (K30 b)) (p0 := p0) hx37) ?_
    rintro _ w39 ⟨k40, rfl, e41⟩
    obtain ⟨K42, S43, m44⟩ := Ent.mixed (l := []) (κ := K30) e41 4 rfl
    refine ⟨(S43.cl rfl), ?_⟩
    refine WO.pn 2 rfl ?_
    obtain ⟨p49, h, hK46⟩ := Option.bind_eq_some_iff.mp h
    refine WO.meet [(6, 2), (8, 2), (12, 2), (13, 2), (7, 0), (9, 2), (10, 0), (11, 2), (14, 2), (15, 2)] [(16, 2), (17, 2), (18, 2), (19, 1), (20, 2), (21, 2), (22, 2), (23, 2), (25, 2), (28, 2), (24, 0), (26, 2), (27, 0), (29, 0), (30, 2), (31, 1), (32, 2), (33, 2)] (fun L w' => L = [(2, .pointer (some ⟨b2, 0, none⟩)), (3, .pointer (some ⟨b3, 0, none⟩)), (5, .int .i64 (p1.Next.length : Int)), (6, .int .i64 v29), (7, .slice ax32 x32.length ux32), (27, .slice a1_0 p1.Next.length u1_0), (28, .int .i64 (p1.Next.length : Int)), (29, .int .i64 v29), (49, .bool p49)] ∧ ∃ κ', Stp [] K42 w39 κ' w') (S43.cl rfl) ?_ ?_
    ·
     revert h
     cases ht47 : ((x32.length : Int) != x37) with
     | true =>
      intro h; replace h := cT h
      refine WO.pn 4 rfl ?_
      refine WO.qs rfl rfl rfl rfl ?_
      refine WO.pn 1 rfl ?_
      refine WO.qs rfl rfl rfl rfl ?_
      refine WO.pn 3 rfl ?_
      obtain rfl := Option.some.inj h
      exact WO.met _ (S43.cl rfl) ⟨rfl, _, (Stp.refl _ _).wk rfl⟩ fun a ha => (ha.more (ha.more (ha.more (ha.more (ha.more (ha.more (ha.more (ha.more (ha.more ha.nil rfl) rfl) rfl) rfl) rfl) rfl) rfl) rfl) rfl)
     | false =>
      intro h; replace h := cF h
      refine WO.k2 rfl rfl rfl rfl (rn_fieldAddr Try.runUnderlying84 rfl Try.sizeOf25 rfl rfl) ?_
      refine WO.pn 2 rfl ?_
      refine WO.k2 rfl rfl rfl rfl (rn_len Try.runUnderlying24 rfl rfl) ?_
      have f48 := f22.stp (S31.tr S36) rfl rfl
      refine WO.k0 rfl rfl rfl rfl (rn_ld Try.isAgg25 rfl rfl (hvC (f48.ld 1 rfl rfl) rfl)) ?_
      obtain ⟨x43, hx43, h⟩ := Option.bind_eq_some_iff.mp h
      refine WO.k2 rfl rfl rfl rfl (rn_index g1_1 hx43 Try.runUnderlying25 Try.sizeOf24 rfl rfl rfl rfl) ?_
      have f49 := g1_1.stp (S3.tr (S7.tr (S13.tr (S19.tr (S31.tr S36))))) rfl rfl
      obtain ⟨ax43, ux43, f50, hl51⟩ := f49.gSl hx43
      refine WO.k0 rfl rfl rfl rfl (rn_ld Try.isAgg24 rfl rfl (hvC hl51 rfl)) ?_
      refine WO.k2 rfl rfl rfl rfl (rn_len Try.runUnderlying24 rfl rfl) ?_
      refine WO.pn 2 rfl ?_
      obtain rfl := Option.some.inj h
      exact WO.met _ (S43.cl rfl) ⟨rfl, _, (Stp.refl _ _).wk rfl⟩ fun a ha => (ha.more (ha.more (ha.more (ha.more (ha.more (ha.more (ha.more (ha.more (ha.more ha.nil rfl) rfl) rfl) rfl) rfl) rfl) rfl) rfl) rfl)
    rintro _ w52 _ ⟨rfl, K53, S54⟩
    have h := hK46
    refine WO.pn 1 rfl ?_
    obtain ⟨p55, h, hK55⟩ := Option.bind_eq_some_iff.mp h
    refine WO.meet [(17, 2), (18, 2), (19, 1), (20, 2), (21, 2)] [(22, 2), (23, 2), (25, 2), (28, 2), (24, 0), (26, 2), (27, 0), (29, 0), (30, 2), (31, 1), (32, 2), (33, 2)] (fun L w' => L = [(2, .pointer (some ⟨b2, 0, none⟩)), (3, .pointer (some ⟨b3, 0, none⟩)), (5, .int .i64 (p1.Next.length : Int)), (6, .int .i64 v29), (27, .slice a1_0 p1.Next.length u1_0), (28, .int .i64 (p1.Next.length : Int)), (29, .int .i64 v29), (55, .bool p55)] ∧ ∃ κ', Stp [] K53 w52 κ' w') ((S43.tr S54).cl rfl) ?_ ?_
    ·
     revert h
     cases ht56 : p49 with
     | true =>
      intro h; replace h := cT h
      refine WO.pn 2 rfl ?_
      refine WO.ls rfl rfl rfl rfl ?_
      refine WO.pn 2 rfl ?_
      obtain rfl := Option.some.inj h
      exact WO.met _ ((S43.tr S54).cl rfl) ⟨rfl, _, (Stp.refl _ _).wk rfl⟩ fun a ha => (ha.more (ha.more (ha.more (ha.more (ha.more (ha.more (ha.more (ha.more ha.nil rfl) rfl) rfl) rfl) rfl) rfl) rfl) rfl)
     | false =>
      intro h; replace h := cF h
      refine WO.pn 2 rfl ?_
      obtain ⟨x53, hx53, h⟩ := Option.bind_eq_some_iff.mp h
      have f57 := f34.stp (S36.tr (S43.tr S54)) rfl rfl
      refine WO.call rfl rfl rfl rfl rfl rfl Try.call80 (i_areLetters_ok (κ := fun b => mp [] 0 (K53 b)) (Sl.map f57 (mp [] 0) rfl rfl) hx53) ?_
      rintro _ w58 ⟨k59, rfl, e60⟩
      obtain ⟨K61, S62, m63⟩ := Ent.mixed (l := []) (κ := K53) e60 6 rfl
      refine ⟨((S43.tr (S54.tr S62)).cl rfl), ?_⟩
      refine WO.pn 2 rfl ?_
      obtain rfl := Option.some.inj h
      exact WO.met _ ((S43.tr (S54.tr S62)).cl rfl) ⟨rfl, _, S62.wk rfl⟩ fun a ha => (ha.more (ha.more (ha.more (ha.more (ha.more (ha.more (ha.more (ha.more ha.nil rfl) rfl) rfl) rfl) rfl) rfl) rfl) rfl)
    rintro _ w65 _ ⟨rfl, K66, S67⟩
    have h := hK55
    refine WO.pn 1 rfl ?_
    obtain ⟨p67, h, hK68⟩ := Option.bind_eq_some_iff.mp h
    refine WO.meet [(23, 2), (25, 2), (28, 2), (24, 0), (26, 2), (27, 0), (29, 0), (30, 2), (31, 1), (32, 2), (33, 2)] [] (fun L w' => L = [(2, .pointer (some ⟨b2, 0, none⟩)), (3, .pointer (some ⟨b3, 0, none⟩)), (5, .int .i64 (p1.Next.length : Int)), (27, .slice a1_0 p1.Next.length u1_0), (28, .int .i64 (p1.Next.length : Int)), (29, .int .i64 v29), (67, .bool p67)] ∧ ∃ κ', Stp [] K66 w65 κ' w') ((S43.tr (S54.tr S67)).cl rfl) ?_ ?_
    ·
     revert h
     cases ht69 : p55 with
     | true =>
      intro h; replace h := cT h
      refine WO.pn 3 rfl ?_
      refine WO.qs rfl rfl rfl rfl ?_
      refine WO.pn 1 rfl ?_
      refine WO.qs rfl rfl rfl rfl ?_
      refine WO.qs rfl rfl rfl rfl ?_
      refine WO.pn 1 rfl ?_
      refine WO.ls rfl rfl rfl rfl ?_
      refine WO.pn 2 rfl ?_
      obtain rfl := Option.some.inj h
      exact WO.met _ ((S43.tr (S54.tr S67)).cl rfl) ⟨rfl, _, (Stp.refl _ _).wk rfl⟩ fun a ha => (ha.more (ha.more (ha.more (ha.more (ha.more (ha.more (ha.more ha.nil rfl) rfl) rfl) rfl) rfl) rfl) rfl)
     | false =>
      intro h; replace h := cF h
      refine WO.k2 rfl rfl rfl rfl (rn_fieldAddr Try.runUnderlying84 rfl Try.sizeOf25 rfl rfl) ?_
      refine WO.pn 1 rfl ?_
      refine WO.k2 rfl rfl rfl rfl (rn_fieldAddr Try.runUnderlying30 rfl Try.sizeOf2 rfl rfl) ?_
      have f70 := f22.stp (S31.tr S36) rfl rfl
      refine WO.k0 rfl rfl rfl rfl (rn_ld Try.isAgg25 rfl rfl (hvC (f70.ld 1 rfl rfl) rfl)) ?_
      obtain ⟨x60, hx60, h⟩ := Option.bind_eq_some_iff.mp h
      refine WO.k2 rfl rfl rfl rfl (rn_index g1_1 hx60 Try.runUnderlying25 Try.sizeOf24 rfl rfl rfl rfl) ?_
      have f71 := g1_1.stp (S3.tr (S7.tr (S13.tr (S19.tr (S31.tr S36))))) rfl rfl
      obtain ⟨ax60, ux60, f72, hl73⟩ := f71.gSl hx60
      refine WO.k0 rfl rfl rfl rfl (rn_ld Try.isAgg24 rfl rfl (hvC hl73 rfl)) ?_
      refine WO.k0 rfl rfl rfl rfl (rn_ld Try.isAgg2 rfl rfl (hvC (f38.ld 1 rfl rfl) rfl)) ?_
      obtain ⟨_z64, hz64, h⟩ := Option.bind_eq_some_iff.mp h
      refine WO.k2 rfl rfl rfl rfl (rn_shl rfl rfl rfl (nn_ok hz64)) ?_
      obtain ⟨x65, hx65, h⟩ := Option.bind_eq_some_iff.mp h
      have f74 := f72.stp (S43.tr (S54.tr S67)) rfl rfl
      refine WO.call rfl rfl rfl rfl rfl rfl Try.call80 (i_areLetters_ok (κ := fun b => mp [] 0 (K66 b)) (Sl.map f74 (mp [] 0) rfl rfl) hx65) ?_
      rintro _ w75 ⟨k76, rfl, e77⟩
      obtain ⟨K78, S79, m80⟩ := Ent.mixed (l := []) (κ := K66) e77 6 rfl
      refine ⟨((S43.tr (S54.tr (S67.tr S79))).cl rfl), ?_⟩
      refine WO.pn 2 rfl ?_
      obtain rfl := Option.some.inj h
      exact WO.met _ ((S43.tr (S54.tr (S67.tr S79))).cl rfl) ⟨rfl, _, S79.wk rfl⟩ fun a ha => (ha.more (ha.more (ha.more (ha.more (ha.more (ha.more (ha.more ha.nil rfl) rfl) rfl) rfl) rfl) rfl) rfl)
    rintro _ w82 _ ⟨rfl, K83, S84⟩
    have h := hK68
    refine WO.nx ?_
    refine WO.fin ?_
    refine DN.seq ?_
    revert h
    cases ht85 : p67 with
    | true =>
     intro h; replace h := cT h
     refine WC.ct rfl ?_
     refine WC.seq ?_
     refine WC.rs [(0, 2)] rfl ?_
     refine WO.pn 1 rfl ?_
     refine WO.fin ?_
     refine DN.seq ?_
     refine WC.ret ?_
     refine DN.retBlock ?_
     refine DN.retThen ?_
     refine DN.retThen ?_
     obtain rfl := Option.some.inj h
     obtain rfl := Option.some.inj hk32
     have h := hK24
     dsimp only [aft] at h
     refine DN.retBlock ?_
     refine DN.retMeet ?_
     refine DN.retThen ?_
     have f86 := hE.stp (S3.tr (S7.tr (S13.tr (S19.tr (S31.tr (S36.tr (S43.tr (S54.tr (S67.tr S84))))))))) rfl rfl
     refine DN.res (l := [.tmp 4]) Try.results104 (res_tmp rfl rfl) rfl ?_
     obtain rfl := Option.some.inj h
     exact ⟨K83, rfl, f86⟩
    | false =>
     intro h; replace h := cF h
     refine WC.cf rfl ?_
     refine WC.skip ?_
     refine DN.block ?_
     refine DN.seq ?_
     refine WC.rs [(0, 2), (1, 2)] rfl ?_
     refine WO.pn 2 rfl ?_
     refine WO.fin ?_
     have hw23 : IntKind.wrap .i64 (v29 + 1) = v29 + 1 := wr1 hj23 (of_decide_eq_true hc23) hN23
     rw [hw23]
     have hc23 := of_decide_eq_true hc23
     obtain rfl := Option.some.inj h
     refine DN.round fun a ha => ?_
     exact ⟨k, _, Nat.lt_succ_self _, ⟨K83, v29 + 1, rfl, (S31.tr (S36.tr (S43.tr (S54.tr (S67.tr S84))))).wk rfl, by omega, by omega, hk32⟩, (ha.more (ha.more (ha.more (ha.more (ha.more (ha.more ha.nil rfl) rfl) rfl) rfl) rfl) rfl)⟩
  rintro _ w26 ⟨K27, rfl, S28, rfl⟩
  have h := hK24
  dsimp only [aft] at h
  refine DN.seq ?_
  refine WC.seq ?_
  refine WC.rs [(0, 2)] rfl ?_
  refine WO.pn 1 rfl ?_
  refine WO.fin ?_
  refine DN.seq ?_
  refine WC.ret ?_
  have f87 := hE.stp (S3.tr (S7.tr (S13.tr (S19.tr S28)))) rfl rfl
  refine DN.res (l := [.tmp 4]) Try.results104 (res_tmp rfl rfl) rfl ?_
  obtain rfl := Option.some.inj h
  exact ⟨K27, rfl, f87⟩

/- loop.example/g00869/impl.isRival -/
theorem i_isRival_ok {w : World} {κ : Col} {p0 : Sig} {a1_0 : Option Addr} {u1_0 : Nat} {a1_1 : Option Addr} {u1_1 : Nat} {p1 : Rival} (g1_0 : Rd (Rp.int .i64) κ w 0 a1_0 u1_0 p1.In) (g1_1 : Rd (Rp.sl (Rp.int .i64)) κ w 0 a1_1 u1_1 p1.Next) {r : Bool} (h : i_isRival p0 p1 = some r) : Ret Try.prog 74 [.agg #[.int .i64 p0.In, .int .i64 p0.Out], .agg #[.slice a1_0 p1.In.length u1_0, .slice a1_1 p1.Next.length u1_1]] w (fun v w' => ∃ (κ' : Col), v = .bool r ∧ Ent κ w κ' w') := by
 unfold i_isRival at h
 refine Ret.enter Try.func74 rfl Try.ntmps74 rfl ?_
 dsimp only [envOf]
 have hE := Ent.refl κ w
 refine WC.seq ?_
 refine WC.rs [(0, 1), (1, 1), (2, 2)] rfl ?_
 refine WO.box (κ := κ) 2 rfl rfl rfl rfl rfl rfl rfl fun b2 w1 K2 S3 f4 => ⟨trivial, ?_⟩
 refine WO.box (κ := K2) 3 rfl rfl rfl rfl rfl rfl rfl fun b3 w5 K6 S7 f8 => ⟨trivial, ?_⟩
 refine WO.pn 1 rfl ?_
 refine WO.fin ?_
 refine DN.seq ?_
 refine WC.seq ?_
 refine WC.rs [(0, 2), (1, 1), (2, 2), (3, 2)] rfl ?_
 refine WO.k2 rfl rfl rfl rfl (rn_fieldAddr Try.runUnderlying32 rfl Try.sizeOf24 rfl rfl) ?_
 refine WO.k1 trivial rfl rfl rfl rfl (rn_ld Try.isAgg24 rfl rfl (hvE (f8.ld 0 rfl rfl))) ?_
 refine WO.k2 rfl rfl rfl rfl (rn_len Try.runUnderlying24 rfl rfl) ?_
 refine WO.pn 1 rfl ?_
 refine WO.fin ?_
 refine DN.seq ?_
 refine WC.seq ?_
 refine WC.seq ?_
 refine WC.rx (κ := K6) 3 none [(0, 2), (1, 2), (2, 2), (3, 2), (4, 2), (5, 2), (6, 2), (7, 2), (10, 2), (8, 0), (9, 2), (11, 0), (12, 2), (13, 2), (14, 2), (15, 2), (16, 2), (17, 0), (18, 0), (19, 1), (20, 1), (21, 2), (22, 2)] [] (by kernel_rfl) (by kernel_rfl) fun w10 S9 => ?_
 refine WO.pn 3 rfl ?_
 obtain ⟨p16, h, hK11⟩ := Option.bind_eq_some_iff.mp h
 refine WO.meet [(3, 2), (4, 2), (5, 2)] [(6, 2), (7, 2), (10, 2), (8, 0), (9, 2), (11, 0), (12, 2), (13, 2), (14, 2), (15, 2), (16, 2), (17, 0), (18, 0), (19, 1), (20, 1), (21, 2), (22, 2)] (fun L w' => L = [(2, .pointer (some ⟨b2, 0, none⟩)), (3, .pointer (some ⟨b3, 0, none⟩)), (5, .int .i64 (p1.In.length : Int)), (16, .bool p16)] ∧ ∃ κ', Stp [] K6 w10 κ' w') (Cl.refl _ _ _) ?_ ?_
 ·
  revert h
  cases ht12 : decide ((p1.In.length : Int) < 1) with
  | true =>
   intro h; replace h := cT h
   refine WO.pn 3 rfl ?_
   obtain rfl := Option.some.inj h
   exact WO.met _ (Cl.refl _ _ _) ⟨rfl, _, (Stp.refl _ _).wk rfl⟩ fun a ha => (ha.more (ha.more (ha.more (ha.more ha.nil rfl) rfl) rfl) rfl)
  | false =>
   intro h; replace h := cF h
   refine WO.pn 3 rfl ?_
   obtain rfl := Option.some.inj h
   exact WO.met _ (Cl.refl _ _ _) ⟨rfl, _, (Stp.refl _ _).wk rfl⟩ fun a ha => (ha.more (ha.more (ha.more (ha.more ha.nil rfl) rfl) rfl) rfl)
 rintro _ w13 _ ⟨rfl, K14, S15⟩
 have h := hK11
 refine WO.pn 1 rfl ?_
 obtain ⟨p25, h, hK16⟩ := Option.bind_eq_some_iff.mp h
 refine WO.meet [(7, 2), (10, 2), (8, 0), (9, 2), (11, 0), (12, 2), (13, 2), (14, 2)] [(15, 2), (16, 2), (17, 0), (18, 0), (19, 1), (20, 1), (21, 2), (22, 2)] (fun L w' => L = [(2, .pointer (some ⟨b2, 0, none⟩)), (3, .pointer (some ⟨b3, 0, none⟩)), (5, .int .i64 (p1.In.length : Int)), (25, .bool p25)] ∧ ∃ κ', Stp [] K14 w13 κ' w') (S15.cl rfl) ?_ ?_
 ·
  revert h
  cases ht17 : p16 with
  | true =>
   intro h; replace h := cT h
   refine WO.pn 2 rfl ?_
   refine WO.qs rfl rfl rfl rfl ?_
   refine WO.pn 1 rfl ?_
   refine WO.qs rfl rfl rfl rfl ?_
   refine WO.pn 3 rfl ?_
   obtain rfl := Option.some.inj h
   exact WO.met _ (S15.cl rfl) ⟨rfl, _, (Stp.refl _ _).wk rfl⟩ fun a ha => (ha.more (ha.more (ha.more (ha.more ha.nil rfl) rfl) rfl) rfl)
  | false =>
   intro h; replace h := cF h
   refine WO.k2 rfl rfl rfl rfl (rn_fieldAddr Try.runUnderlying32 rfl Try.sizeOf25 rfl rfl) ?_
   refine WO.k2 rfl rfl rfl rfl (rn_fieldAddr Try.runUnderlying32 rfl Try.sizeOf24 rfl rfl) ?_
   have f18 := f8.stp S9 rfl rfl
   refine WO.k0 rfl rfl rfl rfl (rn_ld Try.isAgg25 rfl rfl (hvC (f18.ld 1 rfl rfl) rfl)) ?_
   refine WO.k2 rfl rfl rfl rfl (rn_len Try.runUnderlying25 rfl rfl) ?_
   refine WO.k0 rfl rfl rfl rfl (rn_ld Try.isAgg24 rfl rfl (hvC (f18.ld 0 rfl rfl) rfl)) ?_
   refine WO.k2 rfl rfl rfl rfl (rn_len Try.runUnderlying24 rfl rfl) ?_
   refine WO.pn 2 rfl ?_
   obtain rfl := Option.some.inj h
   exact WO.met _ (S15.cl rfl) ⟨rfl, _, (Stp.refl _ _).wk rfl⟩ fun a ha => (ha.more (ha.more (ha.more (ha.more ha.nil rfl) rfl) rfl) rfl)
 rintro _ w19 _ ⟨rfl, K20, S21⟩
 have h := hK16
 refine WO.pn 1 rfl ?_
 obtain ⟨p33, h, hK22⟩ := Option.bind_eq_some_iff.mp h
 refine WO.meet [(16, 2), (17, 0), (18, 0), (19, 1), (20, 1), (21, 2), (22, 2)] [] (fun L w' => L = [(2, .pointer (some ⟨b2, 0, none⟩)), (3, .pointer (some ⟨b3, 0, none⟩)), (5, .int .i64 (p1.In.length : Int)), (33, .bool p33)] ∧ ∃ κ', Stp [] K20 w19 κ' w') ((S15.tr S21).cl rfl) ?_ ?_
 ·
  revert h
  cases ht23 : p25 with
  | true =>
   intro h; replace h := cT h
   refine WO.pn 1 rfl ?_
   refine WO.qs rfl rfl rfl rfl ?_
   refine WO.qs rfl rfl rfl rfl ?_
   refine WO.ls rfl rfl rfl rfl ?_
   refine WO.ls rfl rfl rfl rfl ?_
   refine WO.pn 2 rfl ?_
   obtain rfl := Option.some.inj h
   exact WO.met _ ((S15.tr S21).cl rfl) ⟨rfl, _, (Stp.refl _ _).wk rfl⟩ fun a ha => (ha.more (ha.more (ha.more (ha.more ha.nil rfl) rfl) rfl) rfl)
  | false =>
   intro h; replace h := cF h
   refine WO.k2 rfl rfl rfl rfl (rn_fieldAddr Try.runUnderlying32 rfl Try.sizeOf24 rfl rfl) ?_
   have f24 := f8.stp S9 rfl rfl
   refine WO.k0 rfl rfl rfl rfl (rn_ld Try.isAgg24 rfl rfl (hvC (f24.ld 0 rfl rfl) rfl)) ?_
   have f25 := f4.stp (S7.tr S9) rfl rfl
   refine WO.k0 rfl rfl rfl rfl (rn_la (cs := [.int .i64 p0.In, .int .i64 p0.Out]) Try.isAgg30 Try.sizeOf30 rfl rfl rfl (haC f25.cells rfl)) ?_
   obtain ⟨x30, hx30, h⟩ := Option.bind_eq_some_iff.mp h
   refine WO.call rfl rfl rfl rfl rfl rfl Try.call106 (i_inputsOf_ok (κ := fun b => mp [] 0 (K20 b)) (p0 := p0) hx30) ?_
   rintro _ w26 ⟨k27, rfl, e28⟩
   obtain ⟨K29, S30, m31⟩ := Ent.mixed (l := []) (κ := K20) e28 4 rfl
   refine ⟨((S15.tr (S21.tr S30)).cl rfl), ?_⟩
   obtain ⟨x31, hx31, h⟩ := Option.bind_eq_some_iff.mp h
   have f33 := g1_0.stp (S3.tr (S7.tr (S9.tr (S15.tr (S21.tr S30))))) rfl rfl
   refine WO.call rfl rfl rfl rfl rfl rfl Try.call80 (i_areLetters_ok (κ := fun b => mp [] 0 (K29 b)) (Sl.map f33 (mp [] 0) rfl rfl) hx31) ?_
   rintro _ w34 ⟨k35, rfl, e36⟩
   obtain ⟨K37, S38, m39⟩ := Ent.mixed (l := []) (κ := K29) e36 6 rfl
   refine ⟨((S15.tr (S21.tr (S30.tr S38))).cl rfl), ?_⟩
   refine WO.pn 2 rfl ?_
   obtain rfl := Option.some.inj h
   exact WO.met _ ((S15.tr (S21.tr (S30.tr S38))).cl rfl) ⟨rfl, _, (S30.tr S38).wk rfl⟩ fun a ha => (ha.more (ha.more (ha.more (ha.more ha.nil rfl) rfl) rfl) rfl)
 rintro _ w41 _ ⟨rfl, K42, S43⟩
 have h := hK22
 refine WO.nx ?_
 refine WO.fin ?_
 refine DN.seq ?_
 revert h
 cases ht44 : p33 with
 | true =>
  intro h; replace h := cT h
  refine WC.ct rfl ?_
  refine WC.seq ?_
  refine WC.rs [(0, 2)] rfl ?_
  refine WO.pn 1 rfl ?_
  refine WO.fin ?_
  refine DN.seq ?_
  refine WC.ret ?_
  refine DN.retThen ?_
  have f45 := hE.stp (S3.tr (S7.tr (S9.tr (S15.tr (S21.tr S43))))) rfl rfl
  refine DN.res (l := [.tmp 4]) Try.results74 (res_tmp rfl rfl) rfl ?_
  obtain rfl := Option.some.inj h
  exact ⟨K42, rfl, f45⟩
 | false =>
  intro h; replace h := cF h
  refine WC.cf rfl ?_
  refine WC.skip ?_
  refine DN.seq ?_
  refine WC.seq ?_
  refine WC.seq ?_
  refine WC.rs [(0, 2), (1, 1), (2, 2), (3, 2)] rfl ?_
  refine WO.k2 rfl rfl rfl rfl (rn_fieldAddr Try.runUnderlying32 rfl Try.sizeOf25 rfl rfl) ?_
  have f46 := f8.stp (S9.tr (S15.tr (S21.tr S43))) rfl rfl
  refine WO.k1 trivial rfl rfl rfl rfl (rn_ld Try.isAgg25 rfl rfl (hvE (f46.ld 1 rfl rfl))) ?_
  refine WO.k2 rfl rfl rfl rfl (rn_len Try.runUnderlying25 rfl rfl) ?_
  refine WO.pn 1 rfl ?_
  refine WO.fin ?_
  refine DN.seq ?_
  have hN47 : (p1.Next.length : Int) ≤ 9223372036854775807 := g1_1.len_le
  obtain ⟨q2, hq49, hK48⟩ := Option.bind_eq_some_iff.mp h
  clear h
  refine WC.meet (fun L w' => ∃ (κ' : Col), L = [] ∧ Stp [] K42 w41 κ' w' ∧ q2 = Sum.inr ()) ?_ ?_
  ·
   refine WC.block ?_
   refine WC.loop (fun k L w' => ∃ (κ' : Col) (v37 : Int), L = [(2, .pointer (some ⟨b2, 0, none⟩)), (5, .int .i64 (p1.In.length : Int)), (35, .slice a1_1 p1.Next.length u1_1), (36, .int .i64 (p1.Next.length : Int)), (37, .int .i64 v37)] ∧ Stp [] K42 w41 κ' w' ∧ 0 ≤ v37 ∧ Int.toNat ((p1.Next.length : Int) - v37) = k ∧ cntM (i_isRival_b0 p0 p1) k v37 () = some q2) ⟨_, _, ⟨K42, 0, rfl, (Stp.refl _ _).wk rfl, (by decide), (by simp), hq49⟩, fun a ha => (ha.more (ha.more (ha.more (ha.more (ha.more ha.nil rfl) rfl) rfl) rfl) rfl)⟩ ?_
   rintro k _ w53 ⟨K54, v37, rfl, S55, hj47, hJ47, h⟩
   rcases k with _ | k
   ·
    have hk56 := h; obtain ⟨o47, h⟩ := ex_eq (Sum.inr (Sum.inl ()) : Bool ⊕ ((Unit) ⊕ (Unit)))
    have hc47 : decide (v37 < (p1.Next.length : Int)) = false := decide_eq_false (by omega)
    refine WC.seq ?_
    refine WC.rs [(0, 2)] rfl ?_
    refine WO.pn 1 rfl ?_
    refine WO.fin ?_
    refine DN.seq ?_
    refine WC.seq ?_
    refine WC.cf' rfl hc47 ?_
    refine WC.exit ?_
    refine DN.exitThen ?_
    refine DN.exitThen ?_
    obtain rfl := Option.some.inj h
    have h := hk56
    refine DN.hit ?_
    obtain rfl := Option.some.inj h
    exact DN.meet _ ⟨K54, rfl, S55.wk rfl, rfl⟩ fun a ha => ha.nil
   ·
    obtain ⟨o47, h, hk56⟩ := Option.bind_eq_some_iff.mp h; unfold i_isRival_b0 at h
    have hc47 : decide (v37 < (p1.Next.length : Int)) = true := decide_eq_true (by omega)
    refine WC.seq ?_
    refine WC.rs [(0, 2)] rfl ?_
    refine WO.pn 1 rfl ?_
    refine WO.fin ?_
    refine DN.seq ?_
    refine WC.seq ?_
    refine WC.ct' rfl hc47 ?_
    refine WC.skip ?_
    refine DN.seq ?_
    refine WC.seq ?_
    refine WC.block ?_
    refine WC.seq ?_
    refine WC.rs [(0, 2), (1, 1), (2, 2)] rfl ?_
    obtain ⟨x39, hx39, h⟩ := Option.bind_eq_some_iff.mp h
    refine WO.k2 rfl rfl rfl rfl (rn_index g1_1 hx39 Try.runUnderlying25 Try.sizeOf24 rfl rfl rfl rfl) ?_
    have f57 := g1_1.stp (S3.tr (S7.tr (S9.tr (S15.tr (S21.tr (S43.tr S55)))))) rfl rfl
    obtain ⟨ax39, ux39, f58, hl59⟩ := f57.gSl hx39
    refine WO.k1 trivial rfl rfl rfl rfl (rn_ld Try.isAgg24 rfl rfl (hvE hl59)) ?_
    refine WO.pn 1 rfl ?_
    refine WO.fin ?_
    refine DN.seq ?_
    refine WC.seq ?_
    refine WC.rs [(0, 2), (1, 2), (2, 2), (3, 1), (4, 2), (5, 2), (6, 2), (7, 2), (8, 2), (9, 1), (10, 2), (11, 2)] rfl ?_
    refine WO.pn 1 rfl ?_
    refine WO.k2 rfl rfl rfl rfl (rn_len Try.runUnderlying24 rfl rfl) ?_
    refine WO.k2 rfl rfl rfl rfl (rn_fieldAddr Try.runUnderlying30 rfl Try.sizeOf2 rfl rfl) ?_
    have f60 := f4.stp (S7.tr (S9.tr (S15.tr (S21.tr (S43.tr S55))))) rfl rfl
    refine WO.k1 trivial rfl rfl rfl rfl (rn_ld Try.isAgg2 rfl rfl (hvE (f60.ld 1 rfl rfl))) ?_
    obtain ⟨_z45, hz45, h⟩ := Option.bind_eq_some_iff.mp h
    refine WO.k2 rfl rfl rfl rfl (rn_shl rfl rfl rfl (nn_ok hz45)) ?_
    refine WO.pn 2 rfl ?_
    obtain ⟨p52, h, hK61⟩ := Option.bind_eq_some_iff.mp h
    refine WO.meet [(7, 2), (8, 2), (9, 1), (10, 2), (11, 2)] [] (fun L w' => L = [(2, .pointer (some ⟨b2, 0, none⟩)), (5, .int .i64 (p1.In.length : Int)), (35, .slice a1_1 p1.Next.length u1_1), (36, .int .i64 (p1.Next.length : Int)), (37, .int .i64 v37), (52, .bool p52)] ∧ ∃ κ', Stp [] K54 w53 κ' w') trivial ?_ ?_
    ·
     revert h
     cases ht62 : ((x39.length : Int) != (IntKind.i64.wrap (1 * 2 ^ (min (Int.toNat p0.Out) (IntKind.bits IntKind.i64))))) with
     | true =>
      intro h; replace h := cT h
      refine WO.pn 2 rfl ?_
      refine WO.ls rfl rfl rfl rfl ?_
      refine WO.pn 2 rfl ?_
      obtain rfl := Option.some.inj h
      exact WO.met _ trivial ⟨rfl, _, (Stp.refl _ _).wk rfl⟩ fun a ha => (ha.more (ha.more (ha.more (ha.more (ha.more (ha.more ha.nil rfl) rfl) rfl) rfl) rfl) rfl)
     | false =>
      intro h; replace h := cF h
      refine WO.pn 2 rfl ?_
      obtain ⟨x50, hx50, h⟩ := Option.bind_eq_some_iff.mp h
      refine WO.call rfl rfl rfl rfl rfl rfl Try.call80 (i_areLetters_ok (κ := fun b => mp [] 0 (K54 b)) (Sl.map f58 (mp [] 0) rfl rfl) hx50) ?_
      rintro _ w63 ⟨k64, rfl, e65⟩
      obtain ⟨K66, S67, m68⟩ := Ent.mixed (l := []) (κ := K54) e65 4 rfl
      refine ⟨trivial, ?_⟩
      refine WO.pn 2 rfl ?_
      obtain rfl := Option.some.inj h
      exact WO.met _ trivial ⟨rfl, _, S67.wk rfl⟩ fun a ha => (ha.more (ha.more (ha.more (ha.more (ha.more (ha.more ha.nil rfl) rfl) rfl) rfl) rfl) rfl)
    rintro _ w70 _ ⟨rfl, K71, S72⟩
    have h := hK61
    refine WO.fin ?_
    refine DN.seq ?_
    revert h
    cases ht73 : p52 with
    | true =>
     intro h; replace h := cT h
     refine WC.ct rfl ?_
     refine WC.seq ?_
     refine WC.rs [(0, 2)] rfl ?_
     refine WO.pn 1 rfl ?_
     refine WO.fin ?_
     refine DN.seq ?_
     refine WC.ret ?_
     refine DN.retBlock ?_
     refine DN.retThen ?_
     refine DN.retThen ?_
     obtain rfl := Option.some.inj h
     obtain rfl := Option.some.inj hk56
     have h := hK48
     dsimp only [aft] at h
     refine DN.retBlock ?_
     refine DN.retMeet ?_
     refine DN.retThen ?_
     have f74 := hE.stp (S3.tr (S7.tr (S9.tr (S15.tr (S21.tr (S43.tr (S55.tr S72))))))) rfl rfl
     refine DN.res (l := [.tmp 4]) Try.results74 (res_tmp rfl rfl) rfl ?_
     obtain rfl := Option.some.inj h
     exact ⟨K71, rfl, f74⟩
    | false =>
     intro h; replace h := cF h
     refine WC.cf rfl ?_
     refine WC.skip ?_
     refine DN.block ?_
     refine DN.seq ?_
     refine WC.rs [(0, 2), (1, 2)] rfl ?_
     refine WO.pn 2 rfl ?_
     refine WO.fin ?_
     have hw47 : IntKind.wrap .i64 (v37 + 1) = v37 + 1 := wr1 hj47 (of_decide_eq_true hc47) hN47
     rw [hw47]
     have hc47 := of_decide_eq_true hc47
     obtain rfl := Option.some.inj h
     refine DN.round fun a ha => ?_
     exact ⟨k, _, Nat.lt_succ_self _, ⟨K71, v37 + 1, rfl, (S55.tr S72).wk rfl, by omega, by omega, hk56⟩, (ha.more (ha.more (ha.more (ha.more (ha.more ha.nil rfl) rfl) rfl) rfl) rfl)⟩
  rintro _ w50 ⟨K51, rfl, S52, rfl⟩
  have h := hK48
  dsimp only [aft] at h
  refine DN.seq ?_
  refine WC.seq ?_
  refine WC.rs [(0, 2)] rfl ?_
  refine WO.pn 1 rfl ?_
  refine WO.fin ?_
  refine DN.seq ?_
  refine WC.ret ?_
  have f75 := hE.stp (S3.tr (S7.tr (S9.tr (S15.tr (S21.tr (S43.tr S52)))))) rfl rfl
  refine DN.res (l := [.tmp 4]) Try.results74 (res_tmp rfl rfl) rfl ?_
  obtain rfl := Option.some.inj h
  exact ⟨K51, rfl, f75⟩

/- loop.example/g00869/impl.DuelOf -/
theorem i_DuelOf_ok {w : World} {κ : Col} {p0 : Sig} {a1_0 : Option Addr} {u1_0 : Nat} {a1_1 : Option Addr} {u1_1 : Nat} {p1 : Machine} {a2_0 : Option Addr} {u2_0 : Nat} {a2_1 : Option Addr} {u2_1 : Nat} {p2 : Rival} (g1_0 : Rd (Rp.sl (Rp.int .i64)) κ w 0 a1_0 u1_0 p1.Next) (g1_1 : Rd (Rp.sl (Rp.int .i64)) κ w 0 a1_1 u1_1 p1.Out) (g2_0 : Rd (Rp.int .i64) κ w 0 a2_0 u2_0 p2.In) (g2_1 : Rd (Rp.sl (Rp.int .i64)) κ w 0 a2_1 u2_1 p2.Next) {r : Word × Bool} (h : i_DuelOf p0 p1 p2 = some r) : Ret Try.prog 62 [.agg #[.int .i64 p0.In, .int .i64 p0.Out], .agg #[.slice a1_0 p1.Next.length u1_0, .slice a1_1 p1.Out.length u1_1], .agg #[.slice a2_0 p2.In.length u2_0, .slice a2_1 p2.Next.length u2_1]] w (fun v w' => ∃ (κ' : Col) (ra0 : Option Addr) (ru0 : Nat) (ra1 : Option Addr) (ru1 : Nat), v = .tuple #[.agg #[.slice ra0 r.1.Stem.length ru0, .slice ra1 r.1.Loop.length ru1], .bool r.2] ∧ Ent κ w κ' w' ∧ Oc (Ep.int .i64) 2 κ' w' 2 ra0 ru0 r.1.Stem ∧ Oc (Ep.int .i64) 2 κ' w' 3 ra1 ru1 r.1.Loop) := by
 unfold i_DuelOf at h
 refine Ret.enter Try.func62 rfl Try.ntmps62 rfl ?_
 dsimp only [envOf]
 have hE := Ent.refl κ w
 refine WC.seq ?_
 refine WC.rs [(0, 1), (1, 1), (2, 1), (3, 1), (4, 2)] rfl ?_
 refine WO.box (κ := κ) 2 rfl rfl rfl rfl rfl rfl rfl fun b3 w1 K2 S3 f4 => ⟨trivial, ?_⟩
 refine WO.box (κ := K2) 3 rfl rfl rfl rfl rfl rfl rfl fun b4 w5 K6 S7 f8 => ⟨trivial, ?_⟩
 refine WO.box (κ := K6) 4 rfl rfl rfl rfl rfl rfl rfl fun b5 w9 K10 S11 f12 => ⟨trivial, ?_⟩
 refine WO.alloc (κ := K10) 5 rfl rfl rfl rfl rfl Try.zeroValue82 rfl fun b6 w13 K14 S15 f16 => ⟨trivial, ?_⟩
 refine WO.pn 1 rfl ?_
 refine WO.fin ?_
 refine DN.seq ?_
 refine WC.seq ?_
 refine WC.seq ?_
 refine WC.rs [(0, 1), (1, 1), (2, 2), (3, 2), (4, 1), (5, 1), (6, 1), (7, 2), (8, 2), (9, 2), (10, 1), (11, 1), (12, 1), (13, 2), (14, 2)] rfl ?_
 have f17 := f4.stp (S7.tr (S11.tr S15)) rfl rfl
 refine WO.k1 trivial rfl rfl rfl rfl (rn_la (cs := [.int .i64 p0.In, .int .i64 p0.Out]) Try.isAgg30 Try.sizeOf30 rfl rfl rfl (haE f17.cells)) ?_
 obtain ⟨x16, hx16, h⟩ := Option.bind_eq_some_iff.mp h
 refine WO.call rfl rfl rfl rfl rfl rfl Try.call73 (i_isSig_ok (κ := fun b => mp [] 0 (K14 b)) (p0 := p0) hx16) ?_
 rintro _ w18 ⟨k19, rfl, e20⟩
 obtain ⟨K21, S22, m23⟩ := Ent.mixed (l := []) (κ := K14) e20 6 rfl
 refine ⟨trivial, ?_⟩
 refine WO.pn 2 rfl ?_
 obtain ⟨p23, h, hK25⟩ := Option.bind_eq_some_iff.mp h
 refine WO.meet [(4, 1), (5, 1), (6, 1), (7, 2), (8, 2)] [(9, 2), (10, 1), (11, 1), (12, 1), (13, 2), (14, 2)] (fun L w' => L = [(3, .pointer (some ⟨b3, 0, none⟩)), (4, .pointer (some ⟨b4, 0, none⟩)), (5, .pointer (some ⟨b5, 0, none⟩)), (6, .pointer (some ⟨b6, 0, none⟩)), (23, .bool p23)] ∧ ∃ κ', Stp [] K21 w18 κ' w') trivial ?_ ?_
 ·
  revert h
  cases ht26 : (!x16) with
  | true =>
   intro h; replace h := cT h
   refine WO.ls rfl rfl rfl rfl ?_
   refine WO.ls rfl rfl rfl rfl ?_
   refine WO.ls rfl rfl rfl rfl ?_
   refine WO.pn 2 rfl ?_
   obtain rfl := Option.some.inj h
   exact WO.met _ trivial ⟨rfl, _, (Stp.refl _ _).wk rfl⟩ fun a ha => (ha.more (ha.more (ha.more (ha.more (ha.more ha.nil rfl) rfl) rfl) rfl) rfl)
  | false =>
   intro h; replace h := cF h
   have f27 := f17.stp S22 rfl rfl
   refine WO.k1 trivial rfl rfl rfl rfl (rn_la (cs := [.int .i64 p0.In, .int .i64 p0.Out]) Try.isAgg30 Try.sizeOf30 rfl rfl rfl (haE f27.cells)) ?_
   have f28 := f8.stp (S11.tr (S15.tr S22)) rfl rfl
   refine WO.k1 trivial rfl rfl rfl rfl (rn_la (cs := [.slice a1_0 p1.Next.length u1_0, .slice a1_1 p1.Out.length u1_1]) Try.isAgg84 Try.sizeOf84 rfl rfl rfl (haE f28.cells)) ?_
   obtain ⟨x21, hx21, h⟩ := Option.bind_eq_some_iff.mp h
   have f29 := g1_0.stp (S3.tr (S7.tr (S11.tr (S15.tr S22)))) rfl rfl
   have f30 := g1_1.stp (S3.tr (S7.tr (S11.tr (S15.tr S22)))) rfl rfl
   refine WO.call rfl rfl rfl rfl rfl rfl Try.call104 (i_isMachine_ok (κ := fun b => mp [] 0 (K21 b)) (p0 := p0) (p1 := p1) (Sl.map f29 (mp [] 0) rfl rfl) (Sl.map f30 (mp [] 0) rfl rfl) hx21) ?_
   rintro _ w31 ⟨k32, rfl, e33⟩
   obtain ⟨K34, S35, m36⟩ := Ent.mixed (l := []) (κ := K21) e33 8 rfl
   refine ⟨trivial, ?_⟩
   refine WO.pn 2 rfl ?_
   obtain rfl := Option.some.inj h
   exact WO.met _ trivial ⟨rfl, _, S35.wk rfl⟩ fun a ha => (ha.more (ha.more (ha.more (ha.more (ha.more ha.nil rfl) rfl) rfl) rfl) rfl)
 rintro _ w38 _ ⟨rfl, K39, S40⟩
 have h := hK25
 refine WO.pn 1 rfl ?_
 obtain ⟨p29, h, hK41⟩ := Option.bind_eq_some_iff.mp h
 refine WO.meet [(10, 1), (11, 1), (12, 1), (13, 2), (14, 2)] [] (fun L w' => L = [(3, .pointer (some ⟨b3, 0, none⟩)), (4, .pointer (some ⟨b4, 0, none⟩)), (5, .pointer (some ⟨b5, 0, none⟩)), (6, .pointer (some ⟨b6, 0, none⟩)), (29, .bool p29)] ∧ ∃ κ', Stp [] K39 w38 κ' w') trivial ?_ ?_
 ·
  revert h
  cases ht42 : p23 with
  | true =>
   intro h; replace h := cT h
   refine WO.ls rfl rfl rfl rfl ?_
   refine WO.ls rfl rfl rfl rfl ?_
   refine WO.ls rfl rfl rfl rfl ?_
   refine WO.pn 2 rfl ?_
   obtain rfl := Option.some.inj h
   exact WO.met _ trivial ⟨rfl, _, (Stp.refl _ _).wk rfl⟩ fun a ha => (ha.more (ha.more (ha.more (ha.more (ha.more ha.nil rfl) rfl) rfl) rfl) rfl)
  | false =>
   intro h; replace h := cF h
   have f43 := f17.stp (S22.tr S40) rfl rfl
   refine WO.k1 trivial rfl rfl rfl rfl (rn_la (cs := [.int .i64 p0.In, .int .i64 p0.Out]) Try.isAgg30 Try.sizeOf30 rfl rfl rfl (haE f43.cells)) ?_
   have f44 := f12.stp (S15.tr (S22.tr S40)) rfl rfl
   refine WO.k1 trivial rfl rfl rfl rfl (rn_la (cs := [.slice a2_0 p2.In.length u2_0, .slice a2_1 p2.Next.length u2_1]) Try.isAgg32 Try.sizeOf32 rfl rfl rfl (haE f44.cells)) ?_
   obtain ⟨x27, hx27, h⟩ := Option.bind_eq_some_iff.mp h
   have f45 := g2_0.stp (S3.tr (S7.tr (S11.tr (S15.tr (S22.tr S40))))) rfl rfl
   have f46 := g2_1.stp (S3.tr (S7.tr (S11.tr (S15.tr (S22.tr S40))))) rfl rfl
   refine WO.call rfl rfl rfl rfl rfl rfl Try.call74 (i_isRival_ok (κ := fun b => mp [] 0 (K39 b)) (p0 := p0) (p1 := p2) (Sl.map f45 (mp [] 0) rfl rfl) (Sl.map f46 (mp [] 0) rfl rfl) hx27) ?_
   rintro _ w47 ⟨k48, rfl, e49⟩
   obtain ⟨K50, S51, m52⟩ := Ent.mixed (l := []) (κ := K39) e49 8 rfl
   refine ⟨trivial, ?_⟩
   refine WO.pn 2 rfl ?_
   obtain rfl := Option.some.inj h
   exact WO.met _ trivial ⟨rfl, _, S51.wk rfl⟩ fun a ha => (ha.more (ha.more (ha.more (ha.more (ha.more ha.nil rfl) rfl) rfl) rfl) rfl)
 rintro _ w54 _ ⟨rfl, K55, S56⟩
 have h := hK41
 refine WO.fin ?_
 refine DN.seq ?_
 revert h
 cases ht57 : p29 with
 | true =>
  intro h; replace h := cT h
  refine WC.ct rfl ?_
  refine WC.seq ?_
  refine WC.rs [(0, 2), (1, 1), (2, 2)] rfl ?_
  refine WO.k2 rfl rfl rfl rfl (rn_build (parts := []) (cells := [.slice none 0 0, .slice none 0 0]) rfl rfl (by kernel_rfl)) ?_
  have f58 := f16.stp (S22.tr (S40.tr S56)) rfl rfl
  refine WO.stB0 (κ := K55) 5 (vc := [.slice none 0 0, .slice none 0 0]) rfl rfl rfl rfl rfl rfl rfl Try.sizeOf82 rfl rfl f58 rfl fun w59 S60 f61 => ⟨trivial, ?_⟩
  refine WO.pn 1 rfl ?_
  refine WO.fin ?_
  refine DN.seq ?_
  refine WC.ret ?_
  refine DN.retThen ?_
  have f62 := hE.stp (S3.tr (S7.tr (S11.tr (S15.tr (S22.tr (S40.tr (S56.tr S60))))))) rfl rfl
  refine DN.res (l := [.cell 6 82, .tmp 7]) Try.results62 (res_cellA rfl f61 Try.isAgg82 Try.sizeOf82 rfl (res_tmp rfl rfl)) rfl ?_
  obtain rfl := Option.some.inj h
  exact ⟨K55, none, 0, none, 0, rfl, f62, Ow.nil, Ow.nil⟩
 | false =>
  intro h; replace h := cF h
  refine WC.cf rfl ?_
  refine WC.skip ?_
  refine DN.seq ?_
  refine WC.seq ?_
  refine WC.rs [(0, 1), (1, 2)] rfl ?_
  refine WO.bl0 (κ := K55) (E := (Ep.int .i64)) 8 rfl rfl rfl rfl rfl Try.underlying24 Tryinfo2 rfl fun a31 u31 w63 K64 S65 f66 => ⟨trivial, ?_⟩
  refine WO.pn 1 rfl ?_
  refine WO.fin ?_
  refine DN.seq ?_
  refine WC.seq ?_
  refine WC.rs [(0, 1), (1, 2)] rfl ?_
  refine WO.mkmap (κ := K64) 9 rfl rfl rfl rfl rfl kwI2 kvI2 (fun v : Int => .int .i64 v) fun mb32 w67 K68 S69 f70 => ⟨trivial, ?_⟩
  refine WO.pn 1 rfl ?_
  refine WO.fin ?_
  refine DN.seq ?_
  refine WC.seq ?_
  refine WC.rs [(0, 2), (1, 1), (2, 1)] rfl ?_
  refine WO.k2 rfl rfl rfl rfl (rn_build (parts := []) (cells := [.int .i64 0, .int .i64 0]) rfl rfl (by kernel_rfl)) ?_
  refine WO.alloc (κ := K68) 10 rfl rfl rfl rfl rfl Try.zeroValue147 rfl fun b10 w71 K72 S73 f74 => ⟨trivial, ?_⟩
  refine WO.stB0 (κ := K72) 10 (vc := [.int .i64 0, .int .i64 0]) rfl rfl rfl rfl rfl rfl rfl Try.sizeOf147 rfl rfl f74 rfl fun w75 S76 f77 => ⟨trivial, ?_⟩
  refine WO.fin ?_
  refine DN.seq ?_
  obtain ⟨q2, hq80, hK79⟩ := Option.bind_eq_some_iff.mp h
  clear h
  refine WC.block ?_
  have f88 := f66.stp (S69.tr (S73.tr S76)) rfl rfl
  have f89 := f70.stp (S73.tr S76) rfl rfl
  refine WC.loop (fun k L w' => ∃ (κ' : Col) (s1 : (List Int) × Int × Int × (List ((Int × Int) × Int))) (las1_0 : Option Addr) (lus1_0 : Nat), L = [(3, .pointer (some ⟨b3, 0, none⟩)), (4, .pointer (some ⟨b4, 0, none⟩)), (5, .pointer (some ⟨b5, 0, none⟩)), (6, .pointer (some ⟨b6, 0, none⟩)), (8, .slice las1_0 s1.1.length lus1_0), (9, .map (some mb32)), (10, .pointer (some ⟨b10, 0, none⟩))] ∧ Stp [8, 9, 10] K72 w75 κ' w' ∧ Oc (Ep.int .i64) 2 κ' w' 8 las1_0 lus1_0 s1.1 ∧ Mc kwI2 kvI2 (fun v : Int => .int .i64 v) κ' w' 9 mb32 s1.2.2.2 ∧ Bc κ' w' 10 b10 147 [.int .i64 s1.2.1, .int .i64 s1.2.2.1] ∧ whileM (i_DuelOf_b0 p0 p1 p2) k s1 = some q2) ⟨_, _, ⟨K72, ((([] : List Int) : (List Int)), (0 : Int), (0 : Int), (([] : List ((Int × Int) × Int)) : (List ((Int × Int) × Int)))), a31, u31, rfl, (Stp.refl _ _).wk rfl, f88, f89, f77, hq80⟩, fun a ha => (ha.more (ha.more (ha.more (ha.more (ha.more (ha.more (ha.more ha.nil rfl) rfl) rfl) rfl) rfl) rfl) rfl)⟩ ?_
  rintro k _ w81 ⟨K82, s1, las1_0, lus1_0, rfl, S83, f84, f85, f87, h⟩
  rcases k with _ | k
  ·
   cases h
  ·
   obtain ⟨o78, h, hk90⟩ := Option.bind_eq_some_iff.mp h; unfold i_DuelOf_b0 at h
   refine WC.block ?_
   refine WC.seq ?_
   refine WC.seq ?_
   refine WC.rs [(0, 2), (1, 1), (2, 1), (3, 2), (4, 2), (5, 2), (6, 2), (7, 2)] rfl ?_
   refine WO.pn 1 rfl ?_
   refine WO.k1 trivial rfl rfl rfl rfl (rn_la (cs := [.int .i64 s1.2.1, .int .i64 s1.2.2.1]) Try.isAgg147 Try.sizeOf147 rfl rfl rfl (haE f87.cells)) ?_
   obtain ⟨x37, hx37, h⟩ := Option.bind_eq_some_iff.mp h
   refine WO.k1 trivial rfl rfl rfl rfl (rn_lookup (kf := kvI2) (vf := (fun v : Int => .int .i64 v)) keyEI2 Try.runUnderlying146 Try.zeroValue3 rfl rfl rfl (mvE f85) hx37) ?_
   refine WO.pn 5 rfl ?_
   refine WO.fin ?_
   refine DN.seq ?_
   refine WC.seq ?_
   refine WC.rs [(0, 2)] rfl ?_
   refine WO.pn 1 rfl ?_
   refine WO.fin ?_
   refine DN.seq ?_
   revert h
   cases ht91 : x37.2 with
   | true =>
    intro h; replace h := cT h
    refine WC.ct rfl ?_
    refine WC.seq ?_
    refine WC.rs [(0, 2), (1, 2), (2, 1), (3, 2), (4, 2), (5, 1), (6, 2)] rfl ?_
    refine WO.pn 2 rfl ?_
    obtain ⟨x43, hx43, h⟩ := Option.bind_eq_some_iff.mp h
    refine WO.call rfl rfl rfl rfl rfl rfl Try.call114 (i_cutWord_ok (κ := fun b => mp [] 0 (K82 b)) (Sl.map f84.rdc (mp [] 0) rfl rfl) hx43) ?_
    rintro _ w92 ⟨k93, a43_0, u43_0, a43_1, u43_1, rfl, e94, f95, f96⟩
    obtain ⟨K97, S98, m99⟩ := Ent.mixed (l := []) (κ := K82) e94 11 rfl
    refine ⟨trivial, ?_⟩
    have f101 := f95.mx (no_int _) m99 rfl (rfl : 11 + 2 = 13)
    have f102 := f96.mx (no_int _) m99 rfl (rfl : 11 + 3 = 14)
    refine WO.pn 2 rfl ?_
    have f103 := f16.stp (S22.tr (S40.tr (S56.tr (S65.tr (S69.tr (S73.tr (S76.tr (S83.tr S98)))))))) rfl rfl
    refine WO.stB0 (κ := K97) 5 (vc := [.slice a43_0 x43.1.Stem.length u43_0, .slice a43_1 x43.1.Loop.length u43_1]) rfl rfl rfl rfl rfl rfl rfl Try.sizeOf82 rfl rfl f103 rfl fun w104 S105 f106 => ⟨trivial, ?_⟩
    refine WO.pn 1 rfl ?_
    refine WO.fin ?_
    refine DN.seq ?_
    refine WC.ret ?_
    refine DN.retThen ?_
    refine DN.retBlock ?_
    refine DN.retThen ?_
    obtain rfl := Option.some.inj h
    obtain rfl := Option.some.inj hk90
    have h := hK79
    dsimp only [aft] at h
    refine DN.retBlock ?_
    have f107 := hE.stp (S3.tr (S7.tr (S11.tr (S15.tr (S22.tr (S40.tr (S56.tr (S65.tr (S69.tr (S73.tr (S76.tr (S83.tr (S98.tr S105))))))))))))) rfl rfl
    have f108 := f101.stp S105 rfl rfl
    have f109 := f102.stp S105 rfl rfl
    refine DN.res (l := [.cell 6 82, .tmp 7]) Try.results62 (res_cellA rfl f106 Try.isAgg82 Try.sizeOf82 rfl (res_tmp rfl rfl)) rfl ?_
    obtain rfl := Option.some.inj h
    exact ⟨(fun b => ren [(13, 2), (14, 3)] (K97 b)), a43_0, u43_0, a43_1, u43_1, rfl, (f107.map (ren [(13, 2), (14, 3)]) rfl rfl), (f108.map (ren [(13, 2), (14, 3)]) rfl rfl), (f109.map (ren [(13, 2), (14, 3)]) rfl rfl)⟩
   | false =>
    intro h; replace h := cF h
    refine WC.cf rfl ?_
    refine WC.skip ?_
    refine DN.seq ?_
    refine WC.seq ?_
    refine WC.rs [(0, 2), (1, 1), (2, 2), (3, 2), (4, 1)] rfl ?_
    refine WO.pn 1 rfl ?_
    refine WO.k1 trivial rfl rfl rfl rfl (rn_la (cs := [.int .i64 s1.2.1, .int .i64 s1.2.2.1]) Try.isAgg147 Try.sizeOf147 rfl rfl rfl (haE f87.cells)) ?_
    refine WO.pn 1 rfl ?_
    refine WO.k2 rfl rfl rfl rfl (rn_len Try.runUnderlying24 rfl rfl) ?_
    obtain ⟨y13, hy13, h⟩ := Option.bind_eq_some_iff.mp h
    refine WO.mapup (κ := K82) (kf := kvI2) (vf := (fun v : Int => .int .i64 v)) (v := (s1.1.length : Int)) 9 rfl rfl rfl rfl rfl rfl rfl keyEI2 Try.runUnderlying146 f85 hy13 fun w110 S111 f112 => ⟨trivial, ?_⟩
    refine WO.fin ?_
    refine DN.seq ?_
    refine WC.seq ?_
    refine WC.rs [(0, 2), (1, 1), (2, 2), (3, 1), (4, 2), (5, 1), (6, 2)] rfl ?_
    refine WO.k2 rfl rfl rfl rfl (rn_fieldAddr Try.runUnderlying32 rfl Try.sizeOf24 rfl rfl) ?_
    have f113 := f12.stp (S15.tr (S22.tr (S40.tr (S56.tr (S65.tr (S69.tr (S73.tr (S76.tr (S83.tr S111))))))))) rfl rfl
    refine WO.k1 trivial rfl rfl rfl rfl (rn_ld Try.isAgg24 rfl rfl (hvE (f113.ld 0 rfl rfl))) ?_
    refine WO.k2 rfl rfl rfl rfl (rn_indexA Try.runUnderlying147 Try.sizeOf2 rfl rfl rfl rfl) ?_
    have f114 := f87.stp S111 rfl rfl
    refine WO.k1 trivial rfl rfl rfl rfl (rn_ld Try.isAgg2 rfl rfl (hvE (f114.ld 1 rfl rfl))) ?_
    obtain ⟨x54, hx54, h⟩ := Option.bind_eq_some_iff.mp h
    refine WO.k2 rfl rfl rfl rfl (rn_index g2_0 hx54 Try.runUnderlying24 Try.sizeOf2 rfl rfl rfl rfl) ?_
    have f115 := g2_0.stp (S3.tr (S7.tr (S11.tr (S15.tr (S22.tr (S40.tr (S56.tr (S65.tr (S69.tr (S73.tr (S76.tr (S83.tr S111)))))))))))) rfl rfl
    refine WO.k1 trivial rfl rfl rfl rfl (rn_ld Try.isAgg2 rfl rfl (hvE (f115.gInt hx54))) ?_
    refine WO.pn 1 rfl ?_
    refine WO.fin ?_
    refine DN.seq ?_
    refine WC.seq ?_
    refine WC.rs [(0, 2), (1, 1), (2, 2), (3, 1), (4, 2), (5, 1), (6, 2), (7, 2), (8, 1), (9, 2)] rfl ?_
    refine WO.k2 rfl rfl rfl rfl (rn_fieldAddr Try.runUnderlying84 rfl Try.sizeOf25 rfl rfl) ?_
    have f116 := f8.stp (S11.tr (S15.tr (S22.tr (S40.tr (S56.tr (S65.tr (S69.tr (S73.tr (S76.tr (S83.tr S111)))))))))) rfl rfl
    refine WO.k1 trivial rfl rfl rfl rfl (rn_ld Try.isAgg25 rfl rfl (hvE (f116.ld 1 rfl rfl))) ?_
    refine WO.k2 rfl rfl rfl rfl (rn_indexA Try.runUnderlying147 Try.sizeOf2 rfl rfl rfl rfl) ?_
    refine WO.k1 trivial rfl rfl rfl rfl (rn_ld Try.isAgg2 rfl rfl (hvE (f114.ld 0 rfl rfl))) ?_
    obtain ⟨x60, hx60, h⟩ := Option.bind_eq_some_iff.mp h
    refine WO.k2 rfl rfl rfl rfl (rn_index g1_1 hx60 Try.runUnderlying25 Try.sizeOf24 rfl rfl rfl rfl) ?_
    have f117 := g1_1.stp (S3.tr (S7.tr (S11.tr (S15.tr (S22.tr (S40.tr (S56.tr (S65.tr (S69.tr (S73.tr (S76.tr (S83.tr S111)))))))))))) rfl rfl
    obtain ⟨ax60, ux60, f118, hl119⟩ := f117.gSl hx60
    refine WO.k1 trivial rfl rfl rfl rfl (rn_ld Try.isAgg24 rfl rfl (hvE hl119)) ?_
    refine WO.pn 1 rfl ?_
    obtain ⟨x63, hx63, h⟩ := Option.bind_eq_some_iff.mp h
    refine WO.k2 rfl rfl rfl rfl (rn_index f118 hx63 Try.runUnderlying24 Try.sizeOf2 rfl rfl rfl rfl) ?_
    refine WO.k1 trivial rfl rfl rfl rfl (rn_ld Try.isAgg2 rfl rfl (hvE (f118.gInt hx63))) ?_
    refine WO.pn 1 rfl ?_
    refine WO.fin ?_
    refine DN.seq ?_
    refine WC.seq ?_
    refine WC.rs [(0, 2), (1, 2), (2, 1), (3, 1), (4, 2), (5, 2), (6, 2), (7, 1), (8, 1), (9, 2)] rfl ?_
    refine WO.pn 2 rfl ?_
    have f120 := f17.stp (S22.tr (S40.tr (S56.tr (S65.tr (S69.tr (S73.tr (S76.tr (S83.tr S111)))))))) rfl rfl
    refine WO.k1 trivial rfl rfl rfl rfl (rn_la (cs := [.int .i64 p0.In, .int .i64 p0.Out]) Try.isAgg30 Try.sizeOf30 rfl rfl rfl (haE f120.cells)) ?_
    obtain ⟨x68, hx68, h⟩ := Option.bind_eq_some_iff.mp h
    refine WO.call rfl rfl rfl rfl rfl rfl Try.call106 (i_inputsOf_ok (κ := fun b => mp [] 0 (K82 b)) (p0 := p0) hx68) ?_
    rintro _ w121 ⟨k122, rfl, e123⟩
    obtain ⟨K124, S125, m126⟩ := Ent.mixed (l := []) (κ := K82) e123 11 rfl
    refine ⟨trivial, ?_⟩
    refine WO.pn 3 rfl ?_
    refine WO.bl (κ := K124) (E := (Ep.int .i64)) 13 [] (parts := [(0, .tmp 71)]) (cells := [.int .i64 (IntKind.i64.wrap ((IntKind.i64.wrap (x63 * x68)) + x54))]) (xs := ([(IntKind.i64.wrap ((IntKind.i64.wrap (x63 * x68)) + x54))] : List Int)) rfl rfl rfl rfl rfl rfl Try.underlying24 Tryinfo2 rfl rfl rfl rfl rfl rfl rfl rfl rfl rfl ⟨[.int .i64 (IntKind.i64.wrap ((IntKind.i64.wrap (x63 * x68)) + x54))], [], Zl K124 w121 [], Zl K124 w121 [], rfl, Zl.sp (l1 := []) (l2 := []) rfl, Zl.sr (l1 := []) (l2 := []), rfl, rfl⟩ fun a72 u72 w128 K129 S130 f131 => ⟨trivial, ?_⟩
    obtain ⟨x73, hx73, h⟩ := Option.bind_eq_some_iff.mp h
    have f132 := f84.stp (S111.tr (S125.tr S130)) rfl rfl
    refine WO.app (κ := K129) (E := (Ep.int .i64)) 8 [] rfl rfl rfl rfl rfl rfl rfl rfl rfl Try.underlying24 Tryinfo2 rfl rfl rfl rfl f132 (Sl.srcP (pu_int _) f131.rdc) sy_false hx73 rfl fun a73 u73 w133 K134 S135 f136 => ⟨trivial, ?_⟩
    refine WO.pn 1 rfl ?_
    refine WO.fin ?_
    refine DN.seq ?_
    refine WC.rx (κ := K134) 13 (some 19) [(0, 2), (2, 2), (6, 2), (9, 2), (11, 2), (15, 2), (1, 0), (3, 0), (4, 2), (5, 0), (7, 2), (8, 0), (10, 0), (12, 0), (13, 2), (14, 0), (16, 2), (17, 0), (18, 2)] [(19, 1)] (by kernel_rfl) (by kernel_rfl) fun w138 S137 => ?_
    refine WO.k2 rfl rfl rfl rfl (rn_fieldAddr Try.runUnderlying84 rfl Try.sizeOf25 rfl rfl) ?_
    refine WO.k2 rfl rfl rfl rfl (rn_indexA Try.runUnderlying147 Try.sizeOf2 rfl rfl rfl rfl) ?_
    refine WO.pn 1 rfl ?_
    refine WO.k2 rfl rfl rfl rfl (rn_fieldAddr Try.runUnderlying32 rfl Try.sizeOf25 rfl rfl) ?_
    refine WO.k2 rfl rfl rfl rfl (rn_indexA Try.runUnderlying147 Try.sizeOf2 rfl rfl rfl rfl) ?_
    refine WO.pn 1 rfl ?_
    have f139 := f116.stp (S125.tr (S130.tr (S135.tr S137))) rfl rfl
    refine WO.k0 rfl rfl rfl rfl (rn_ld Try.isAgg25 rfl rfl (hvC (f139.ld 0 rfl rfl) rfl)) ?_
    have f140 := f114.stp (S125.tr (S130.tr (S135.tr S137))) rfl rfl
    refine WO.k0 rfl rfl rfl rfl (rn_ld Try.isAgg2 rfl rfl (hvC (f140.ld 0 rfl rfl) rfl)) ?_
    obtain ⟨x78, hx78, h⟩ := Option.bind_eq_some_iff.mp h
    refine WO.k2 rfl rfl rfl rfl (rn_index g1_0 hx78 Try.runUnderlying25 Try.sizeOf24 rfl rfl rfl rfl) ?_
    have f141 := g1_0.stp (S3.tr (S7.tr (S11.tr (S15.tr (S22.tr (S40.tr (S56.tr (S65.tr (S69.tr (S73.tr (S76.tr (S83.tr (S111.tr (S125.tr (S130.tr (S135.tr S137)))))))))))))))) rfl rfl
    obtain ⟨ax78, ux78, f142, hl143⟩ := f141.gSl hx78
    refine WO.k0 rfl rfl rfl rfl (rn_ld Try.isAgg24 rfl rfl (hvC hl143 rfl)) ?_
    obtain ⟨x81, hx81, h⟩ := Option.bind_eq_some_iff.mp h
    refine WO.k2 rfl rfl rfl rfl (rn_index f142 hx81 Try.runUnderlying24 Try.sizeOf2 rfl rfl rfl rfl) ?_
    refine WO.k0 rfl rfl rfl rfl (rn_ld Try.isAgg2 rfl rfl (hvC (f142.gInt hx81) rfl)) ?_
    have f144 := f113.stp (S125.tr (S130.tr (S135.tr S137))) rfl rfl
    refine WO.k0 rfl rfl rfl rfl (rn_ld Try.isAgg25 rfl rfl (hvC (f144.ld 1 rfl rfl) rfl)) ?_
    refine WO.k0 rfl rfl rfl rfl (rn_ld Try.isAgg2 rfl rfl (hvC (f140.ld 1 rfl rfl) rfl)) ?_
    obtain ⟨x87, hx87, h⟩ := Option.bind_eq_some_iff.mp h
    refine WO.k2 rfl rfl rfl rfl (rn_index g2_1 hx87 Try.runUnderlying25 Try.sizeOf24 rfl rfl rfl rfl) ?_
    have f145 := g2_1.stp (S3.tr (S7.tr (S11.tr (S15.tr (S22.tr (S40.tr (S56.tr (S65.tr (S69.tr (S73.tr (S76.tr (S83.tr (S111.tr (S125.tr (S130.tr (S135.tr S137)))))))))))))))) rfl rfl
    obtain ⟨ax87, ux87, f146, hl147⟩ := f145.gSl hx87
    refine WO.k0 rfl rfl rfl rfl (rn_ld Try.isAgg24 rfl rfl (hvC hl147 rfl)) ?_
    obtain ⟨x90, hx90, h⟩ := Option.bind_eq_some_iff.mp h
    refine WO.k2 rfl rfl rfl rfl (rn_index f146 hx90 Try.runUnderlying24 Try.sizeOf2 rfl rfl rfl rfl) ?_
    refine WO.k0 rfl rfl rfl rfl (rn_ld Try.isAgg2 rfl rfl (hvC (f146.gInt hx90) rfl)) ?_
    refine WO.k2 rfl rfl rfl rfl (rn_build (parts := [(0, .tmp 82), (1, .tmp 91)]) (cells := [.int .i64 x81, .int .i64 x90]) rfl rfl (by kernel_rfl)) ?_
    refine WO.nx ?_
    refine WO.stB0 (κ := K134) 10 (vc := [.int .i64 x81, .int .i64 x90]) rfl rfl rfl rfl rfl rfl rfl Try.sizeOf147 rfl rfl f140 rfl fun w148 S149 f150 => ⟨trivial, ?_⟩
    refine WO.fin ?_
    refine DN.block ?_
    have f151 := f136.stp (S137.tr S149) rfl rfl
    have f152 := f112.stp (S125.tr (S130.tr (S135.tr (S137.tr S149)))) rfl rfl
    obtain rfl := Option.some.inj h
    refine DN.round fun a ha => ?_
    exact ⟨k, _, Nat.lt_succ_self _, ⟨K134, ((x73 : (List Int)), (x81 : Int), (x90 : Int), (y13 : (List ((Int × Int) × Int)))), a73, u73, rfl, (S83.tr (S111.tr (S125.tr (S130.tr (S135.tr (S137.tr S149)))))).wk rfl, f151, f152, f150, hk90⟩, (ha.more (ha.more (ha.more (ha.more (ha.more (ha.more (ha.more ha.nil rfl) rfl) rfl) rfl) rfl) rfl) rfl)⟩

/- loop.example/g00869/impl.isWord -/
theorem i_isWord_ok {w : World} {κ : Col} {a0_0 : Option Addr} {u0_0 : Nat} {a0_1 : Option Addr} {u0_1 : Nat} {p0 : Word} {p1 : Int} (g0_0 : Rd (Rp.int .i64) κ w 0 a0_0 u0_0 p0.Stem) (g0_1 : Rd (Rp.int .i64) κ w 0 a0_1 u0_1 p0.Loop) {r : Bool} (h : i_isWord p0 p1 = some r) : Ret Try.prog 105 [.agg #[.slice a0_0 p0.Stem.length u0_0, .slice a0_1 p0.Loop.length u0_1], .int .i64 p1] w (fun v w' => ∃ (κ' : Col), v = .bool r ∧ Ent κ w κ' w') := by
 unfold i_isWord at h
 refine Ret.enter Try.func105 rfl Try.ntmps105 rfl ?_
 dsimp only [envOf]
 have hE := Ent.refl κ w
 refine WC.seq ?_
 refine WC.rs [(0, 1), (1, 2)] rfl ?_
 refine WO.box (κ := κ) 2 rfl rfl rfl rfl rfl rfl rfl fun b2 w1 K2 S3 f4 => ⟨trivial, ?_⟩
 refine WO.pn 1 rfl ?_
 refine WO.fin ?_
 refine DN.seq ?_
 refine WC.seq ?_
 refine WC.rs [(0, 2), (1, 1), (2, 2), (3, 2), (4, 2), (5, 2), (6, 1), (7, 2), (8, 2), (9, 2), (10, 2), (11, 2), (12, 1), (13, 2), (14, 2), (15, 2), (16, 2), (17, 2), (18, 1), (19, 2), (20, 1), (21, 2), (22, 2), (23, 2), (24, 1), (25, 2), (26, 1), (27, 2), (28, 2)] rfl ?_
 refine WO.k2 rfl rfl rfl rfl (rn_fieldAddr Try.runUnderlying82 rfl Try.sizeOf24 rfl rfl) ?_
 refine WO.k1 trivial rfl rfl rfl rfl (rn_ld Try.isAgg24 rfl rfl (hvE (f4.ld 0 rfl rfl))) ?_
 refine WO.k2 rfl rfl rfl rfl (rn_len Try.runUnderlying24 rfl rfl) ?_
 refine WO.pn 2 rfl ?_
 obtain ⟨p14, h, hK5⟩ := Option.bind_eq_some_iff.mp h
 refine WO.meet [(5, 2), (6, 1), (7, 2), (8, 2), (9, 2)] [(10, 2), (11, 2), (12, 1), (13, 2), (14, 2), (15, 2), (16, 2), (17, 2), (18, 1), (19, 2), (20, 1), (21, 2), (22, 2), (23, 2), (24, 1), (25, 2), (26, 1), (27, 2), (28, 2)] (fun L w' => L = [(1, .int .i64 p1), (2, .pointer (some ⟨b2, 0, none⟩)), (4, .bool false), (14, .bool p14)] ∧ ∃ κ', Stp [] K2 w1 κ' w') trivial ?_ ?_
 ·
  revert h
  cases ht6 : decide ((p0.Stem.length : Int) ≤ 600) with
  | true =>
   intro h; replace h := cT h
   refine WO.k2 rfl rfl rfl rfl (rn_fieldAddr Try.runUnderlying82 rfl Try.sizeOf24 rfl rfl) ?_
   refine WO.k1 trivial rfl rfl rfl rfl (rn_ld Try.isAgg24 rfl rfl (hvE (f4.ld 1 rfl rfl))) ?_
   refine WO.k2 rfl rfl rfl rfl (rn_len Try.runUnderlying24 rfl rfl) ?_
   refine WO.pn 2 rfl ?_
   obtain rfl := Option.some.inj h
   exact WO.met _ trivial ⟨rfl, _, (Stp.refl _ _).wk rfl⟩ fun a ha => (ha.more (ha.more (ha.more (ha.more ha.nil rfl) rfl) rfl) rfl)
  | false =>
   intro h; replace h := cF h
   refine WO.pn 1 rfl ?_
   refine WO.ls rfl rfl rfl rfl ?_
   refine WO.pn 3 rfl ?_
   obtain rfl := Option.some.inj h
   exact WO.met _ trivial ⟨rfl, _, (Stp.refl _ _).wk rfl⟩ fun a ha => (ha.more (ha.more (ha.more (ha.more ha.nil rfl) rfl) rfl) rfl)
 rintro _ w7 _ ⟨rfl, K8, S9⟩
 have h := hK5
 refine WO.pn 1 rfl ?_
 obtain ⟨p20, h, hK10⟩ := Option.bind_eq_some_iff.mp h
 refine WO.meet [(11, 2), (12, 1), (13, 2), (14, 2), (15, 2)] [(16, 2), (17, 2), (18, 1), (19, 2), (20, 1), (21, 2), (22, 2), (23, 2), (24, 1), (25, 2), (26, 1), (27, 2), (28, 2)] (fun L w' => L = [(1, .int .i64 p1), (2, .pointer (some ⟨b2, 0, none⟩)), (4, .bool false), (20, .bool p20)] ∧ ∃ κ', Stp [] K8 w7 κ' w') trivial ?_ ?_
 ·
  revert h
  cases ht11 : p14 with
  | true =>
   intro h; replace h := cT h
   refine WO.k2 rfl rfl rfl rfl (rn_fieldAddr Try.runUnderlying82 rfl Try.sizeOf24 rfl rfl) ?_
   have f12 := f4.stp S9 rfl rfl
   refine WO.k1 trivial rfl rfl rfl rfl (rn_ld Try.isAgg24 rfl rfl (hvE (f12.ld 1 rfl rfl))) ?_
   refine WO.k2 rfl rfl rfl rfl (rn_len Try.runUnderlying24 rfl rfl) ?_
   refine WO.pn 2 rfl ?_
   obtain rfl := Option.some.inj h
   exact WO.met _ trivial ⟨rfl, _, (Stp.refl _ _).wk rfl⟩ fun a ha => (ha.more (ha.more (ha.more (ha.more ha.nil rfl) rfl) rfl) rfl)
  | false =>
   intro h; replace h := cF h
   refine WO.pn 1 rfl ?_
   refine WO.ls rfl rfl rfl rfl ?_
   refine WO.pn 3 rfl ?_
   obtain rfl := Option.some.inj h
   exact WO.met _ trivial ⟨rfl, _, (Stp.refl _ _).wk rfl⟩ fun a ha => (ha.more (ha.more (ha.more (ha.more ha.nil rfl) rfl) rfl) rfl)
 rintro _ w13 _ ⟨rfl, K14, S15⟩
 have h := hK10
 refine WO.pn 1 rfl ?_
 obtain ⟨p26, h, hK16⟩ := Option.bind_eq_some_iff.mp h
 refine WO.meet [(17, 2), (18, 1), (19, 2), (20, 1), (21, 2)] [(22, 2), (23, 2), (24, 1), (25, 2), (26, 1), (27, 2), (28, 2)] (fun L w' => L = [(1, .int .i64 p1), (2, .pointer (some ⟨b2, 0, none⟩)), (4, .bool false), (26, .bool p26)] ∧ ∃ κ', Stp [] K14 w13 κ' w') trivial ?_ ?_
 ·
  revert h
  cases ht17 : p20 with
  | true =>
   intro h; replace h := cT h
   refine WO.k2 rfl rfl rfl rfl (rn_fieldAddr Try.runUnderlying82 rfl Try.sizeOf24 rfl rfl) ?_
   have f18 := f4.stp (S9.tr S15) rfl rfl
   refine WO.k1 trivial rfl rfl rfl rfl (rn_ld Try.isAgg24 rfl rfl (hvE (f18.ld 0 rfl rfl))) ?_
   refine WO.pn 1 rfl ?_
   obtain ⟨x25, hx25, h⟩ := Option.bind_eq_some_iff.mp h
   have f19 := g0_0.stp (S3.tr (S9.tr S15)) rfl rfl
   refine WO.call rfl rfl rfl rfl rfl rfl Try.call80 (i_areLetters_ok (κ := fun b => mp [] 0 (K14 b)) (Sl.map f19 (mp [] 0) rfl rfl) hx25) ?_
   rintro _ w20 ⟨k21, rfl, e22⟩
   obtain ⟨K23, S24, m25⟩ := Ent.mixed (l := []) (κ := K14) e22 3 rfl
   refine ⟨trivial, ?_⟩
   refine WO.pn 1 rfl ?_
   obtain rfl := Option.some.inj h
   exact WO.met _ trivial ⟨rfl, _, S24.wk rfl⟩ fun a ha => (ha.more (ha.more (ha.more (ha.more ha.nil rfl) rfl) rfl) rfl)
  | false =>
   intro h; replace h := cF h
   refine WO.pn 1 rfl ?_
   refine WO.ls rfl rfl rfl rfl ?_
   refine WO.pn 1 rfl ?_
   refine WO.ls rfl rfl rfl rfl ?_
   refine WO.pn 1 rfl ?_
   obtain rfl := Option.some.inj h
   exact WO.met _ trivial ⟨rfl, _, (Stp.refl _ _).wk rfl⟩ fun a ha => (ha.more (ha.more (ha.more (ha.more ha.nil rfl) rfl) rfl) rfl)
 rintro _ w27 _ ⟨rfl, K28, S29⟩
 have h := hK16
 refine WO.pn 1 rfl ?_
 obtain ⟨p32, h, hK30⟩ := Option.bind_eq_some_iff.mp h
 refine WO.meet [(23, 2), (24, 1), (25, 2), (26, 1), (27, 2)] [(28, 2)] (fun L w' => L = [(4, .bool false), (32, .bool p32)] ∧ ∃ κ', Stp [] K28 w27 κ' w') trivial ?_ ?_
 ·
  revert h
  cases ht31 : p26 with
  | true =>
   intro h; replace h := cT h
   refine WO.k2 rfl rfl rfl rfl (rn_fieldAddr Try.runUnderlying82 rfl Try.sizeOf24 rfl rfl) ?_
   have f32 := f4.stp (S9.tr (S15.tr S29)) rfl rfl
   refine WO.k1 trivial rfl rfl rfl rfl (rn_ld Try.isAgg24 rfl rfl (hvE (f32.ld 1 rfl rfl))) ?_
   refine WO.pn 1 rfl ?_
   obtain ⟨x31, hx31, h⟩ := Option.bind_eq_some_iff.mp h
   have f33 := g0_1.stp (S3.tr (S9.tr (S15.tr S29))) rfl rfl
   refine WO.call rfl rfl rfl rfl rfl rfl Try.call80 (i_areLetters_ok (κ := fun b => mp [] 0 (K28 b)) (Sl.map f33 (mp [] 0) rfl rfl) hx31) ?_
   rintro _ w34 ⟨k35, rfl, e36⟩
   obtain ⟨K37, S38, m39⟩ := Ent.mixed (l := []) (κ := K28) e36 3 rfl
   refine ⟨trivial, ?_⟩
   refine WO.pn 1 rfl ?_
   obtain rfl := Option.some.inj h
   exact WO.met _ trivial ⟨rfl, _, S38.wk rfl⟩ fun a ha => (ha.more (ha.more ha.nil rfl) rfl)
  | false =>
   intro h; replace h := cF h
   refine WO.pn 1 rfl ?_
   refine WO.ls rfl rfl rfl rfl ?_
   refine WO.pn 1 rfl ?_
   refine WO.ls rfl rfl rfl rfl ?_
   refine WO.pn 1 rfl ?_
   obtain rfl := Option.some.inj h
   exact WO.met _ trivial ⟨rfl, _, (Stp.refl _ _).wk rfl⟩ fun a ha => (ha.more (ha.more ha.nil rfl) rfl)
 rintro _ w41 _ ⟨rfl, K42, S43⟩
 have h := hK30
 refine WO.pn 1 rfl ?_
 refine WO.fin ?_
 refine DN.seq ?_
 refine WC.ret ?_
 have f44 := hE.stp (S3.tr (S9.tr (S15.tr (S29.tr S43)))) rfl rfl
 refine DN.res (l := [.tmp 4]) Try.results105 (res_tmp rfl rfl) rfl ?_
 obtain rfl := Option.some.inj h
 exact ⟨K42, rfl, f44⟩

end Go.Proofs.Ytgniipbjjkodaaa
