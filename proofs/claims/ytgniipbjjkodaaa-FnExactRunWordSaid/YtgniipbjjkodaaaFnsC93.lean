/- The walks, part 3. By program. -/
import Derived.Test.YtgniipbjjkodaaaFnsC92
set_option linter.unusedVariables false
set_option linter.unusedSimpArgs false
namespace Go.Proofs.Ytgniipbjjkodaaa
open Go Go.Wk Go.Proofs
set_option maxRecDepth 100000
set_option maxHeartbeats 1000000

/- loop.example/g00869/spec.RunWord -/
theorem s_RunWord_ok {w : World} {κ : Col} {p0 : Sig} {a1_0 : Option Addr} {u1_0 : Nat} {a1_1 : Option Addr} {u1_1 : Nat} {p1 : Machine} {a2_0 : Option Addr} {u2_0 : Nat} {a2_1 : Option Addr} {u2_1 : Nat} {p2 : Word} (g1_0 : Rd (Rp.sl (Rp.int .i64)) κ w 0 a1_0 u1_0 p1.Next) (g1_1 : Rd (Rp.sl (Rp.int .i64)) κ w 0 a1_1 u1_1 p1.Out) (g2_0 : Rd (Rp.int .i64) κ w 0 a2_0 u2_0 p2.Stem) (g2_1 : Rd (Rp.int .i64) κ w 0 a2_1 u2_1 p2.Loop) {r : Word} (h : s_RunWord p0 p1 p2 = some r) : Ret Try.prog 47 [.agg #[.int .i64 p0.In, .int .i64 p0.Out], .agg #[.slice a1_0 p1.Next.length u1_0, .slice a1_1 p1.Out.length u1_1], .agg #[.slice a2_0 p2.Stem.length u2_0, .slice a2_1 p2.Loop.length u2_1]] w (fun v w' => ∃ (κ' : Col) (ra0 : Option Addr) (ru0 : Nat) (ra1 : Option Addr) (ru1 : Nat), v = .agg #[.slice ra0 r.Stem.length ru0, .slice ra1 r.Loop.length ru1] ∧ Ent κ w κ' w' ∧ Oc (Ep.int .i64) 2 κ' w' 2 ra0 ru0 r.Stem ∧ Oc (Ep.int .i64) 2 κ' w' 3 ra1 ru1 r.Loop) := by
 unfold s_RunWord at h
 refine Ret.enter Try.func47 rfl Try.ntmps47 rfl ?_
 dsimp only [envOf]
 have hE := Ent.refl κ w
 refine WC.seq ?_
 refine WC.rs [(0, 1), (1, 1), (2, 1), (3, 1)] rfl ?_
 refine WO.box (κ := κ) 2 rfl rfl rfl rfl rfl rfl rfl fun b3 w1 K2 S3 f4 => ⟨trivial, ?_⟩
 refine WO.box (κ := K2) 3 rfl rfl rfl rfl rfl rfl rfl fun b4 w5 K6 S7 f8 => ⟨trivial, ?_⟩
 refine WO.box (κ := K6) 4 rfl rfl rfl rfl rfl rfl rfl fun b5 w9 K10 S11 f12 => ⟨trivial, ?_⟩
 refine WO.alloc (κ := K10) 5 rfl rfl rfl rfl rfl Try.zeroValue82 rfl fun b6 w13 K14 S15 f16 => ⟨trivial, ?_⟩
 refine WO.fin ?_
 refine DN.seq ?_
 refine WC.seq ?_
 refine WC.seq ?_
 refine WC.rs [(0, 1), (1, 1), (2, 1), (3, 2), (4, 2), (5, 1), (6, 2), (7, 1), (8, 1), (9, 2), (10, 2), (11, 2), (12, 1), (13, 2), (14, 1), (15, 1), (16, 2), (17, 2), (18, 2), (19, 2), (20, 1), (21, 2), (22, 2), (23, 2)] rfl ?_
 have f17 := f4.stp (S7.tr (S11.tr S15)) rfl rfl
 refine WO.k1 trivial rfl rfl rfl rfl (rn_la (cs := [.int .i64 p0.In, .int .i64 p0.Out]) Try.isAgg30 Try.sizeOf30 rfl rfl rfl (haE f17.cells)) ?_
 have f18 := f8.stp (S11.tr S15) rfl rfl
 refine WO.k1 trivial rfl rfl rfl rfl (rn_la (cs := [.slice a1_0 p1.Next.length u1_0, .slice a1_1 p1.Out.length u1_1]) Try.isAgg84 Try.sizeOf84 rfl rfl rfl (haE f18.cells)) ?_
 obtain ⟨x15, hx15, h⟩ := Option.bind_eq_some_iff.mp h
 have f19 := g1_0.stp (S3.tr (S7.tr (S11.tr S15))) rfl rfl
 have f20 := g1_1.stp (S3.tr (S7.tr (S11.tr S15))) rfl rfl
 refine WO.call rfl rfl rfl rfl rfl rfl Try.call99 (s_MachineOk_ok (κ := fun b => mp [] 0 (K14 b)) (p0 := p0) (p1 := p1) (Sl.map f19 (mp [] 0) rfl rfl) (Sl.map f20 (mp [] 0) rfl rfl) hx15) ?_
 rintro _ w21 ⟨k22, rfl, e23⟩
 obtain ⟨K24, S25, m26⟩ := Ent.mixed (l := []) (κ := K14) e23 6 rfl
 refine ⟨trivial, ?_⟩
 refine WO.pn 2 rfl ?_
 obtain ⟨p23, h, hK28⟩ := Option.bind_eq_some_iff.mp h
 refine WO.meet [(5, 1), (6, 2), (7, 1), (8, 1), (9, 2), (10, 2)] [(11, 2), (12, 1), (13, 2), (14, 1), (15, 1), (16, 2), (17, 2), (18, 2), (19, 2), (20, 1), (21, 2), (22, 2), (23, 2)] (fun L w' => L = [(3, .pointer (some ⟨b3, 0, none⟩)), (4, .pointer (some ⟨b4, 0, none⟩)), (5, .pointer (some ⟨b5, 0, none⟩)), (6, .pointer (some ⟨b6, 0, none⟩)), (23, .bool p23)] ∧ ∃ κ', Stp [] K24 w21 κ' w') trivial ?_ ?_
 ·
  revert h
  cases ht29 : (!x15) with
  | true =>
   intro h; replace h := cT h
   refine WO.ls rfl rfl rfl rfl ?_
   refine WO.pn 1 rfl ?_
   refine WO.ls rfl rfl rfl rfl ?_
   refine WO.ls rfl rfl rfl rfl ?_
   refine WO.pn 2 rfl ?_
   obtain rfl := Option.some.inj h
   exact WO.met _ trivial ⟨rfl, _, (Stp.refl _ _).wk rfl⟩ fun a ha => (ha.more (ha.more (ha.more (ha.more (ha.more ha.nil rfl) rfl) rfl) rfl) rfl)
  | false =>
   intro h; replace h := cF h
   have f30 := f17.stp S25 rfl rfl
   refine WO.k1 trivial rfl rfl rfl rfl (rn_la (cs := [.int .i64 p0.In, .int .i64 p0.Out]) Try.isAgg30 Try.sizeOf30 rfl rfl rfl (haE f30.cells)) ?_
   refine WO.k2 rfl rfl rfl rfl (rn_fieldAddr Try.runUnderlying82 rfl Try.sizeOf24 rfl rfl) ?_
   have f31 := f12.stp (S15.tr S25) rfl rfl
   refine WO.k1 trivial rfl rfl rfl rfl (rn_ld Try.isAgg24 rfl rfl (hvE (f31.ld 0 rfl rfl))) ?_
   obtain ⟨x21, hx21, h⟩ := Option.bind_eq_some_iff.mp h
   have f32 := g2_0.stp (S3.tr (S7.tr (S11.tr (S15.tr S25)))) rfl rfl
   refine WO.call rfl rfl rfl rfl rfl rfl Try.call100 (s_l29Inputs_ok (κ := fun b => mp [] 0 (K24 b)) (p0 := p0) (Sl.map f32 (mp [] 0) rfl rfl) hx21) ?_
   rintro _ w33 ⟨k34, rfl, e35⟩
   obtain ⟨K36, S37, m38⟩ := Ent.mixed (l := []) (κ := K24) e35 8 rfl
   refine ⟨trivial, ?_⟩
   refine WO.pn 2 rfl ?_
   obtain rfl := Option.some.inj h
   exact WO.met _ trivial ⟨rfl, _, S37.wk rfl⟩ fun a ha => (ha.more (ha.more (ha.more (ha.more (ha.more ha.nil rfl) rfl) rfl) rfl) rfl)
 rintro _ w40 _ ⟨rfl, K41, S42⟩
 have h := hK28
 refine WO.pn 1 rfl ?_
 obtain ⟨p30, h, hK43⟩ := Option.bind_eq_some_iff.mp h
 refine WO.meet [(12, 1), (13, 2), (14, 1), (15, 1), (16, 2), (17, 2)] [(18, 2), (19, 2), (20, 1), (21, 2), (22, 2), (23, 2)] (fun L w' => L = [(3, .pointer (some ⟨b3, 0, none⟩)), (4, .pointer (some ⟨b4, 0, none⟩)), (5, .pointer (some ⟨b5, 0, none⟩)), (6, .pointer (some ⟨b6, 0, none⟩)), (30, .bool p30)] ∧ ∃ κ', Stp [] K41 w40 κ' w') trivial ?_ ?_
 ·
  revert h
  cases ht44 : p23 with
  | true =>
   intro h; replace h := cT h
   refine WO.ls rfl rfl rfl rfl ?_
   refine WO.pn 1 rfl ?_
   refine WO.ls rfl rfl rfl rfl ?_
   refine WO.ls rfl rfl rfl rfl ?_
   refine WO.pn 2 rfl ?_
   obtain rfl := Option.some.inj h
   exact WO.met _ trivial ⟨rfl, _, (Stp.refl _ _).wk rfl⟩ fun a ha => (ha.more (ha.more (ha.more (ha.more (ha.more ha.nil rfl) rfl) rfl) rfl) rfl)
  | false =>
   intro h; replace h := cF h
   have f45 := f17.stp (S25.tr S42) rfl rfl
   refine WO.k1 trivial rfl rfl rfl rfl (rn_la (cs := [.int .i64 p0.In, .int .i64 p0.Out]) Try.isAgg30 Try.sizeOf30 rfl rfl rfl (haE f45.cells)) ?_
   refine WO.k2 rfl rfl rfl rfl (rn_fieldAddr Try.runUnderlying82 rfl Try.sizeOf24 rfl rfl) ?_
   have f46 := f12.stp (S15.tr (S25.tr S42)) rfl rfl
   refine WO.k1 trivial rfl rfl rfl rfl (rn_ld Try.isAgg24 rfl rfl (hvE (f46.ld 1 rfl rfl))) ?_
   obtain ⟨x28, hx28, h⟩ := Option.bind_eq_some_iff.mp h
   have f47 := g2_1.stp (S3.tr (S7.tr (S11.tr (S15.tr (S25.tr S42))))) rfl rfl
   refine WO.call rfl rfl rfl rfl rfl rfl Try.call100 (s_l29Inputs_ok (κ := fun b => mp [] 0 (K41 b)) (p0 := p0) (Sl.map f47 (mp [] 0) rfl rfl) hx28) ?_
   rintro _ w48 ⟨k49, rfl, e50⟩
   obtain ⟨K51, S52, m53⟩ := Ent.mixed (l := []) (κ := K41) e50 8 rfl
   refine ⟨trivial, ?_⟩
   refine WO.pn 2 rfl ?_
   obtain rfl := Option.some.inj h
   exact WO.met _ trivial ⟨rfl, _, S52.wk rfl⟩ fun a ha => (ha.more (ha.more (ha.more (ha.more (ha.more ha.nil rfl) rfl) rfl) rfl) rfl)
 rintro _ w55 _ ⟨rfl, K56, S57⟩
 have h := hK43
 refine WO.pn 1 rfl ?_
 obtain ⟨p36, h, hK58⟩ := Option.bind_eq_some_iff.mp h
 refine WO.meet [(19, 2), (20, 1), (21, 2), (22, 2), (23, 2)] [] (fun L w' => L = [(3, .pointer (some ⟨b3, 0, none⟩)), (4, .pointer (some ⟨b4, 0, none⟩)), (5, .pointer (some ⟨b5, 0, none⟩)), (6, .pointer (some ⟨b6, 0, none⟩)), (36, .bool p36)] ∧ ∃ κ', Stp [] K56 w55 κ' w') trivial ?_ ?_
 ·
  revert h
  cases ht59 : p30 with
  | true =>
   intro h; replace h := cT h
   refine WO.pn 1 rfl ?_
   refine WO.ls rfl rfl rfl rfl ?_
   refine WO.pn 3 rfl ?_
   obtain rfl := Option.some.inj h
   exact WO.met _ trivial ⟨rfl, _, (Stp.refl _ _).wk rfl⟩ fun a ha => (ha.more (ha.more (ha.more (ha.more (ha.more ha.nil rfl) rfl) rfl) rfl) rfl)
  | false =>
   intro h; replace h := cF h
   refine WO.k2 rfl rfl rfl rfl (rn_fieldAddr Try.runUnderlying82 rfl Try.sizeOf24 rfl rfl) ?_
   have f60 := f12.stp (S15.tr (S25.tr (S42.tr S57))) rfl rfl
   refine WO.k1 trivial rfl rfl rfl rfl (rn_ld Try.isAgg24 rfl rfl (hvE (f60.ld 1 rfl rfl))) ?_
   refine WO.k2 rfl rfl rfl rfl (rn_len Try.runUnderlying24 rfl rfl) ?_
   refine WO.pn 2 rfl ?_
   obtain rfl := Option.some.inj h
   exact WO.met _ trivial ⟨rfl, _, (Stp.refl _ _).wk rfl⟩ fun a ha => (ha.more (ha.more (ha.more (ha.more (ha.more ha.nil rfl) rfl) rfl) rfl) rfl)
 rintro _ w61 _ ⟨rfl, K62, S63⟩
 have h := hK58
 refine WO.fin ?_
 refine DN.seq ?_
 revert h
 cases ht64 : p36 with
 | true =>
  intro h; replace h := cT h
  refine WC.ct rfl ?_
  refine WC.seq ?_
  refine WC.rs [(0, 2), (1, 1)] rfl ?_
  refine WO.k2 rfl rfl rfl rfl (rn_build (parts := []) (cells := [.slice none 0 0, .slice none 0 0]) rfl rfl (by kernel_rfl)) ?_
  have f65 := f16.stp (S25.tr (S42.tr (S57.tr S63))) rfl rfl
  refine WO.stB0 (κ := K62) 5 (vc := [.slice none 0 0, .slice none 0 0]) rfl rfl rfl rfl rfl rfl rfl Try.sizeOf82 rfl rfl f65 rfl fun w66 S67 f68 => ⟨trivial, ?_⟩
  refine WO.fin ?_
  refine DN.seq ?_
  refine WC.ret ?_
  refine DN.retThen ?_
  have f69 := hE.stp (S3.tr (S7.tr (S11.tr (S15.tr (S25.tr (S42.tr (S57.tr (S63.tr S67)))))))) rfl rfl
  refine DN.res (l := [.cell 6 82]) Try.results47 (res_cellA rfl f68 Try.isAgg82 Try.sizeOf82 rfl rfl) rfl ?_
  obtain rfl := Option.some.inj h
  exact ⟨K62, none, 0, none, 0, rfl, f69, Ow.nil, Ow.nil⟩
 | false =>
  intro h; replace h := cF h
  refine WC.cf rfl ?_
  refine WC.skip ?_
  refine DN.seq ?_
  refine WC.seq ?_
  refine WC.rs [(0, 1), (1, 2)] rfl ?_
  refine WO.bl0 (κ := K62) (E := (Ep.int .i64)) 8 rfl rfl rfl rfl rfl Try.underlying24 Tryinfo2 rfl fun a38 u38 w70 K71 S72 f73 => ⟨trivial, ?_⟩
  refine WO.pn 1 rfl ?_
  refine WO.fin ?_
  refine DN.seq ?_
  refine WC.seq ?_
  refine WC.rs [(0, 1), (1, 2), (2, 1), (3, 1), (4, 2)] rfl ?_
  have f74 := f18.stp (S25.tr (S42.tr (S57.tr (S63.tr S72)))) rfl rfl
  refine WO.k1 trivial rfl rfl rfl rfl (rn_la (cs := [.slice a1_0 p1.Next.length u1_0, .slice a1_1 p1.Out.length u1_1]) Try.isAgg84 Try.sizeOf84 rfl rfl rfl (haE f74.cells)) ?_
  refine WO.k2 rfl rfl rfl rfl (rn_fieldAddr Try.runUnderlying82 rfl Try.sizeOf24 rfl rfl) ?_
  have f75 := f12.stp (S15.tr (S25.tr (S42.tr (S57.tr (S63.tr S72))))) rfl rfl
  refine WO.k1 trivial rfl rfl rfl rfl (rn_ld Try.isAgg24 rfl rfl (hvE (f75.ld 0 rfl rfl))) ?_
  obtain ⟨x42, hx42, h⟩ := Option.bind_eq_some_iff.mp h
  have f76 := f19.stp (S25.tr (S42.tr (S57.tr (S63.tr S72)))) rfl rfl
  have f77 := f20.stp (S25.tr (S42.tr (S57.tr (S63.tr S72)))) rfl rfl
  have f78 := g2_0.stp (S3.tr (S7.tr (S11.tr (S15.tr (S25.tr (S42.tr (S57.tr (S63.tr S72)))))))) rfl rfl
  refine WO.call rfl rfl rfl rfl rfl rfl Try.call101 (s_l29Behind_ok (κ := fun b => mp [] 0 (K71 b)) (p0 := p1) (Sl.map f76 (mp [] 0) rfl rfl) (Sl.map f77 (mp [] 0) rfl rfl) (Sl.map f78 (mp [] 0) rfl rfl) hx42) ?_
  rintro _ w79 ⟨k80, rfl, e81⟩
  obtain ⟨K82, S83, m84⟩ := Ent.mixed (l := []) (κ := K71) e81 9 rfl
  refine ⟨trivial, ?_⟩
  refine WO.pn 1 rfl ?_
  refine WO.fin ?_
  refine DN.seq ?_
  refine WC.seq ?_
  obtain ⟨q2, hq88, hK87⟩ := Option.bind_eq_some_iff.mp h
  clear h
  refine WC.meet (fun L w' => ∃ (κ' : Col) (s3 : (List Int) × Int) (las3_0 : Option Addr) (lus3_0 : Nat), L = [(3, .pointer (some ⟨b3, 0, none⟩)), (4, .pointer (some ⟨b4, 0, none⟩)), (5, .pointer (some ⟨b5, 0, none⟩)), (6, .pointer (some ⟨b6, 0, none⟩)), (7, .slice las3_0 s3.1.length lus3_0), (8, .int .i64 s3.2)] ∧ Stp [8] K82 w79 κ' w' ∧ Oc (Ep.int .i64) 2 κ' w' 8 las3_0 lus3_0 s3.1 ∧ q2 = Sum.inr s3) ?_ ?_
  ·
   refine WC.block ?_
   have f97 := f73.stp S83 rfl rfl
   refine WC.loop (fun k L w' => ∃ (κ' : Col) (s1 : (List Int) × Int) (las1_0 : Option Addr) (lus1_0 : Nat), L = [(3, .pointer (some ⟨b3, 0, none⟩)), (4, .pointer (some ⟨b4, 0, none⟩)), (5, .pointer (some ⟨b5, 0, none⟩)), (6, .pointer (some ⟨b6, 0, none⟩)), (7, .slice las1_0 s1.1.length lus1_0), (8, .int .i64 s1.2)] ∧ Stp [8] K82 w79 κ' w' ∧ Oc (Ep.int .i64) 2 κ' w' 8 las1_0 lus1_0 s1.1 ∧ whileM (s_RunWord_b0 p1 p2) k s1 = some q2) ⟨_, _, ⟨K82, ((([] : List Int) : (List Int)), (x42 : Int)), a38, u38, rfl, (Stp.refl _ _).wk rfl, f97, hq88⟩, fun a ha => (ha.more (ha.more (ha.more (ha.more (ha.more (ha.more ha.nil rfl) rfl) rfl) rfl) rfl) rfl)⟩ ?_
   rintro k _ w93 ⟨K94, s1, las1_0, lus1_0, rfl, S95, f96, h⟩
   rcases k with _ | k
   ·
    cases h
   ·
    obtain ⟨o86, h, hk98⟩ := Option.bind_eq_some_iff.mp h; unfold s_RunWord_b0 at h
    refine WC.seq ?_
    refine WC.seq ?_
    refine WC.rs [(0, 2), (1, 2), (2, 1), (3, 2)] rfl ?_
    refine WO.pn 2 rfl ?_
    obtain ⟨x45, hx45, h⟩ := Option.bind_eq_some_iff.mp h
    refine WO.call rfl rfl rfl rfl rfl rfl Try.call102 (s_l1Place_ok (κ := fun b => mp [] 0 (K94 b)) (Sl.map f96.rdc (mp [] 0) rfl rfl) hx45) ?_
    rintro _ w99 ⟨k100, rfl, e101⟩
    obtain ⟨K102, S103, m104⟩ := Ent.mixed (l := []) (κ := K94) e101 11 rfl
    refine ⟨trivial, ?_⟩
    refine WO.pn 1 rfl ?_
    refine WO.fin ?_
    refine DN.seq ?_
    revert h
    cases ht106 : decide (x45 < 0) with
    | true =>
     intro h; replace h := cT h
     refine WC.ct rfl ?_
     refine WC.skip ?_
     refine DN.seq ?_
     refine WC.block ?_
     refine WC.seq ?_
     refine WC.rs [(0, 2), (1, 2), (2, 1), (3, 1), (4, 2)] rfl ?_
     refine WO.pn 2 rfl ?_
     refine WO.bl (κ := K102) (E := (Ep.int .i64)) 13 [] (parts := [(0, .tmp 48)]) (cells := [.int .i64 s1.2]) (xs := ([s1.2] : List Int)) rfl rfl rfl rfl rfl rfl Try.underlying24 Tryinfo2 rfl rfl rfl rfl rfl rfl rfl rfl rfl rfl ⟨[.int .i64 s1.2], [], Zl K102 w99 [], Zl K102 w99 [], rfl, Zl.sp (l1 := []) (l2 := []) rfl, Zl.sr (l1 := []) (l2 := []), rfl, rfl⟩ fun a49 u49 w107 K108 S109 f110 => ⟨trivial, ?_⟩
     obtain ⟨x50, hx50, h⟩ := Option.bind_eq_some_iff.mp h
     have f111 := f96.stp (S103.tr S109) rfl rfl
     refine WO.app (κ := K108) (E := (Ep.int .i64)) 8 [] rfl rfl rfl rfl rfl rfl rfl rfl rfl Try.underlying24 Tryinfo2 rfl rfl rfl rfl f111 (Sl.srcP (pu_int _) f110.rdc) sy_false hx50 rfl fun a50 u50 w112 K113 S114 f115 => ⟨trivial, ?_⟩
     refine WO.pn 1 rfl ?_
     refine WO.fin ?_
     refine DN.seq ?_
     refine WC.rs [(0, 1), (1, 2), (2, 2), (3, 1), (4, 1), (5, 2)] rfl ?_
     have f116 := f74.stp (S83.tr (S95.tr (S103.tr (S109.tr S114)))) rfl rfl
     refine WO.k1 trivial rfl rfl rfl rfl (rn_la (cs := [.slice a1_0 p1.Next.length u1_0, .slice a1_1 p1.Out.length u1_1]) Try.isAgg84 Try.sizeOf84 rfl rfl rfl (haE f116.cells)) ?_
     refine WO.pn 1 rfl ?_
     refine WO.k2 rfl rfl rfl rfl (rn_fieldAddr Try.runUnderlying82 rfl Try.sizeOf24 rfl rfl) ?_
     have f117 := f75.stp (S83.tr (S95.tr (S103.tr (S109.tr S114)))) rfl rfl
     refine WO.k1 trivial rfl rfl rfl rfl (rn_ld Try.isAgg24 rfl rfl (hvE (f117.ld 1 rfl rfl))) ?_
     obtain ⟨x55, hx55, h⟩ := Option.bind_eq_some_iff.mp h
     have f118 := f76.stp (S83.tr (S95.tr (S103.tr (S109.tr S114)))) rfl rfl
     have f119 := f77.stp (S83.tr (S95.tr (S103.tr (S109.tr S114)))) rfl rfl
     have f120 := g2_1.stp (S3.tr (S7.tr (S11.tr (S15.tr (S25.tr (S42.tr (S57.tr (S63.tr (S72.tr (S83.tr (S95.tr (S103.tr (S109.tr S114))))))))))))) rfl rfl
     refine WO.call rfl rfl rfl rfl rfl rfl Try.call101 (s_l29Behind_ok (κ := fun b => mp [] 0 (K113 b)) (p0 := p1) (Sl.map f118 (mp [] 0) rfl rfl) (Sl.map f119 (mp [] 0) rfl rfl) (Sl.map f120 (mp [] 0) rfl rfl) hx55) ?_
     rintro _ w121 ⟨k122, rfl, e123⟩
     obtain ⟨K124, S125, m126⟩ := Ent.mixed (l := []) (κ := K113) e123 14 rfl
     refine ⟨trivial, ?_⟩
     refine WO.pn 1 rfl ?_
     refine WO.fin ?_
     refine DN.block ?_
     have f128 := f115.stp S125 rfl rfl
     obtain rfl := Option.some.inj h
     refine DN.round fun a ha => ?_
     exact ⟨k, _, Nat.lt_succ_self _, ⟨K124, ((x50 : (List Int)), (x55 : Int)), a50, u50, rfl, (S95.tr (S103.tr (S109.tr (S114.tr S125)))).wk rfl, f128, hk98⟩, (ha.more (ha.more (ha.more (ha.more (ha.more (ha.more ha.nil rfl) rfl) rfl) rfl) rfl) rfl)⟩
    | false =>
     intro h; replace h := cF h
     refine WC.cf rfl ?_
     refine WC.exit ?_
     refine DN.exitThen ?_
     refine DN.exitThen ?_
     obtain rfl := Option.some.inj h
     have h := hk98
     refine DN.hit ?_
     have f129 := f96.stp S103 rfl rfl
     obtain rfl := Option.some.inj h
     exact DN.meet _ ⟨K102, ((s1.1 : (List Int)), (s1.2 : Int)), las1_0, lus1_0, rfl, (S95.tr S103).wk rfl, f129, rfl⟩ fun a ha => (ha.more (ha.more (ha.more (ha.more (ha.more (ha.more ha.nil rfl) rfl) rfl) rfl) rfl) rfl)
  rintro _ w89 ⟨K90, s3, las3_0, lus3_0, rfl, S91, f92, rfl⟩
  have h := hK87
  dsimp only [aft] at h
  refine DN.seq ?_
  refine WC.seq ?_
  refine WC.rs [(0, 2), (1, 2), (2, 1), (3, 2)] rfl ?_
  refine WO.pn 2 rfl ?_
  obtain ⟨x58, hx58, h⟩ := Option.bind_eq_some_iff.mp h
  refine WO.call rfl rfl rfl rfl rfl rfl Try.call102 (s_l1Place_ok (κ := fun b => mp [] 0 (K90 b)) (Sl.map f92.rdc (mp [] 0) rfl rfl) hx58) ?_
  rintro _ w130 ⟨k131, rfl, e132⟩
  obtain ⟨K133, S134, m135⟩ := Ent.mixed (l := []) (κ := K90) e132 11 rfl
  refine ⟨trivial, ?_⟩
  refine WO.pn 1 rfl ?_
  refine WO.fin ?_
  refine DN.seq ?_
  refine WC.seq ?_
  refine WC.rs [(0, 1), (1, 1), (2, 2), (3, 1), (4, 1), (5, 2), (6, 1), (7, 1)] rfl ?_
  have f137 := f17.stp (S25.tr (S42.tr (S57.tr (S63.tr (S72.tr (S83.tr (S91.tr S134))))))) rfl rfl
  refine WO.k1 trivial rfl rfl rfl rfl (rn_la (cs := [.int .i64 p0.In, .int .i64 p0.Out]) Try.isAgg30 Try.sizeOf30 rfl rfl rfl (haE f137.cells)) ?_
  have f138 := f74.stp (S83.tr (S91.tr S134)) rfl rfl
  refine WO.k1 trivial rfl rfl rfl rfl (rn_la (cs := [.slice a1_0 p1.Next.length u1_0, .slice a1_1 p1.Out.length u1_1]) Try.isAgg84 Try.sizeOf84 rfl rfl rfl (haE f138.cells)) ?_
  refine WO.k2 rfl rfl rfl rfl (rn_fieldAddr Try.runUnderlying82 rfl Try.sizeOf24 rfl rfl) ?_
  have f139 := f75.stp (S83.tr (S91.tr S134)) rfl rfl
  refine WO.k1 trivial rfl rfl rfl rfl (rn_ld Try.isAgg24 rfl rfl (hvE (f139.ld 0 rfl rfl))) ?_
  obtain ⟨x63, hx63, h⟩ := Option.bind_eq_some_iff.mp h
  have f140 := f76.stp (S83.tr (S91.tr S134)) rfl rfl
  have f141 := f77.stp (S83.tr (S91.tr S134)) rfl rfl
  have f142 := f78.stp (S83.tr (S91.tr S134)) rfl rfl
  refine WO.call rfl rfl rfl rfl rfl rfl Try.call103 (s_l29Letters_ok (κ := fun b => mp [] 0 (K133 b)) (p0 := p0) (p1 := p1) (Sl.map f140 (mp [] 0) rfl rfl) (Sl.map f141 (mp [] 0) rfl rfl) (Sl.map f142 (mp [] 0) rfl rfl) hx63) ?_
  rintro _ w143 ⟨k144, a63_0, u63_0, rfl, e145, f146⟩
  obtain ⟨K147, S148, m149⟩ := Ent.mixed (l := []) (κ := K133) e145 13 rfl
  refine ⟨trivial, ?_⟩
  have f151 := f146.mx (no_int _) m149 rfl (rfl : 13 + 2 = 15)
  refine WO.k2 rfl rfl rfl rfl (rn_build (parts := [(0, .tmp 63)]) (cells := [.slice a63_0 x63.length u63_0, .slice none 0 0]) rfl rfl (by kernel_rfl)) ?_
  refine WO.alloc (κ := K147) 16 rfl rfl rfl rfl rfl Try.zeroValue82 rfl fun b10 w152 K153 S154 f155 => ⟨trivial, ?_⟩
  refine WO.stB0 (κ := K153) 16 (vc := [.slice a63_0 x63.length u63_0, .slice none 0 0]) rfl rfl rfl rfl rfl rfl rfl Try.sizeOf82 rfl rfl f155 rfl fun w156 S157 f158 => ⟨trivial, ?_⟩
  refine WO.fin ?_
  refine DN.seq ?_
  refine WC.seq ?_
  refine WC.seq ?_
  refine WC.rs [(0, 2)] rfl ?_
  refine WO.pn 1 rfl ?_
  refine WO.fin ?_
  refine DN.seq ?_
  have hN159 : (s3.1.length : Int) ≤ 9223372036854775807 := f92.len_le
  obtain ⟨q5, hq161, hK160⟩ := Option.bind_eq_some_iff.mp h
  clear h
  refine WC.meet (fun L w' => ∃ (κ' : Col) (s6 : (List Int) × (List Int)) (las6_0 : Option Addr) (lus6_0 : Nat) (las6_1 : Option Addr) (lus6_1 : Nat), L = [(6, .pointer (some ⟨b6, 0, none⟩)), (10, .pointer (some ⟨b10, 0, none⟩))] ∧ Stp [15, 16, 17] K153 w156 κ' w' ∧ Oc (Ep.int .i64) 2 κ' w' 15 las6_0 lus6_0 s6.1 ∧ Oc (Ep.int .i64) 2 κ' w' 17 las6_1 lus6_1 s6.2 ∧ Bc κ' w' 16 b10 82 [.slice las6_0 s6.1.length lus6_0, .slice las6_1 s6.2.length lus6_1] ∧ q5 = Sum.inr s6) ?_ ?_
  ·
   refine WC.block ?_
   have f174 := f151.stp (S154.tr S157) rfl rfl
   refine WC.loop (fun k L w' => ∃ (κ' : Col) (v11 : Int) (s4 : (List Int) × (List Int)) (las4_0 : Option Addr) (lus4_0 : Nat) (las4_1 : Option Addr) (lus4_1 : Nat), L = [(3, .pointer (some ⟨b3, 0, none⟩)), (4, .pointer (some ⟨b4, 0, none⟩)), (5, .pointer (some ⟨b5, 0, none⟩)), (6, .pointer (some ⟨b6, 0, none⟩)), (7, .slice las3_0 s3.1.length lus3_0), (9, .int .i64 x58), (10, .pointer (some ⟨b10, 0, none⟩)), (11, .int .i64 v11)] ∧ Stp [15, 16, 17] K153 w156 κ' w' ∧ Oc (Ep.int .i64) 2 κ' w' 15 las4_0 lus4_0 s4.1 ∧ Oc (Ep.int .i64) 2 κ' w' 17 las4_1 lus4_1 s4.2 ∧ Bc κ' w' 16 b10 82 [.slice las4_0 s4.1.length lus4_0, .slice las4_1 s4.2.length lus4_1] ∧ 0 ≤ v11 ∧ Int.toNat ((s3.1.length : Int) - v11) = k ∧ cntM (s_RunWord_b2 p0 p1 p2 s3 x58) k v11 s4 = some q5) ⟨_, _, ⟨K153, 0, ((x63 : (List Int)), (([] : List Int) : (List Int))), a63_0, u63_0, none, 0, rfl, (Stp.refl _ _).wk rfl, f174, Ow.nil, f158, (by decide), (by simp), hq161⟩, fun a ha => (ha.more (ha.more (ha.more (ha.more (ha.more (ha.more (ha.more (ha.more ha.nil rfl) rfl) rfl) rfl) rfl) rfl) rfl) rfl)⟩ ?_
   rintro k _ w168 ⟨K169, v11, s4, las4_0, lus4_0, las4_1, lus4_1, rfl, S170, f171, f172, f173, hj159, hJ159, h⟩
   rcases k with _ | k
   ·
    have hk175 := h; obtain ⟨o159, h⟩ := ex_eq (Sum.inr (Sum.inl s4) : Word ⊕ (((List Int) × (List Int)) ⊕ ((List Int) × (List Int))))
    have hc159 : decide (v11 < (s3.1.length : Int)) = false := decide_eq_false (by omega)
    refine WC.seq ?_
    refine WC.seq ?_
    refine WC.rs [(0, 2), (1, 2), (2, 2), (3, 2)] rfl ?_
    refine WO.pn 2 rfl ?_
    refine WO.k2 rfl rfl rfl rfl (rn_len Try.runUnderlying24 rfl rfl) ?_
    refine WO.pn 1 rfl ?_
    refine WO.fin ?_
    refine DN.seq ?_
    refine WC.cf' rfl hc159 ?_
    refine WC.exit ?_
    refine DN.exitThen ?_
    refine DN.exitThen ?_
    obtain rfl := Option.some.inj h
    have h := hk175
    refine DN.hit ?_
    obtain rfl := Option.some.inj h
    exact DN.meet _ ⟨K169, ((s4.1 : (List Int)), (s4.2 : (List Int))), las4_0, lus4_0, las4_1, lus4_1, rfl, S170.wk rfl, f171, f172, f173, rfl⟩ fun a ha => (ha.more (ha.more ha.nil rfl) rfl)
   ·
    obtain ⟨o159, h, hk175⟩ := Option.bind_eq_some_iff.mp h; unfold s_RunWord_b2 at h
    have hc159 : decide (v11 < (s3.1.length : Int)) = true := decide_eq_true (by omega)
    refine WC.seq ?_
    refine WC.seq ?_
    refine WC.rs [(0, 2), (1, 2), (2, 2), (3, 2)] rfl ?_
    refine WO.pn 2 rfl ?_
    refine WO.k2 rfl rfl rfl rfl (rn_len Try.runUnderlying24 rfl rfl) ?_
    refine WO.pn 1 rfl ?_
    refine WO.fin ?_
    refine DN.seq ?_
    refine WC.ct' rfl hc159 ?_
    refine WC.skip ?_
    refine DN.seq ?_
    refine WC.seq ?_
    refine WC.block ?_
    refine WC.seq ?_
    refine WC.rx (κ := K169) 17 none [(2, 2), (3, 2), (4, 2), (6, 2), (0, 0), (1, 0), (5, 0), (7, 0), (8, 1), (9, 2)] [] (by kernel_rfl) (by kernel_rfl) fun w177 S176 => ?_
    refine WO.pn 2 rfl ?_
    obtain ⟨x75, hx75, h⟩ := Option.bind_eq_some_iff.mp h
    refine WO.k2 rfl rfl rfl rfl (rn_index f92.rdc hx75 Try.runUnderlying24 Try.sizeOf2 rfl rfl rfl rfl) ?_
    refine WO.k2 rfl rfl rfl rfl (rn_fieldAddr Try.runUnderlying82 rfl Try.sizeOf24 rfl rfl) ?_
    have f178 := f137.stp (S148.tr (S154.tr (S157.tr (S170.tr S176)))) rfl rfl
    refine WO.k0 rfl rfl rfl rfl (rn_la (cs := [.int .i64 p0.In, .int .i64 p0.Out]) Try.isAgg30 Try.sizeOf30 rfl rfl rfl (haC f178.cells rfl)) ?_
    have f179 := f138.stp (S148.tr (S154.tr (S157.tr (S170.tr S176)))) rfl rfl
    refine WO.k0 rfl rfl rfl rfl (rn_la (cs := [.slice a1_0 p1.Next.length u1_0, .slice a1_1 p1.Out.length u1_1]) Try.isAgg84 Try.sizeOf84 rfl rfl rfl (haC f179.cells rfl)) ?_
    have f180 := f92.stp (S134.tr (S148.tr (S154.tr (S157.tr (S170.tr S176))))) rfl rfl
    refine WO.k0 rfl rfl rfl rfl (rn_ld Try.isAgg2 rfl rfl (hvC (f180.rdc.gInt hx75) rfl)) ?_
    have f181 := f139.stp (S148.tr (S154.tr (S157.tr (S170.tr S176)))) rfl rfl
    refine WO.k0 rfl rfl rfl rfl (rn_ld Try.isAgg24 rfl rfl (hvC (f181.ld 1 rfl rfl) rfl)) ?_
    obtain ⟨x79, hx79, h⟩ := Option.bind_eq_some_iff.mp h
    have f182 := f140.stp (S148.tr (S154.tr (S157.tr (S170.tr S176)))) rfl rfl
    have f183 := f141.stp (S148.tr (S154.tr (S157.tr (S170.tr S176)))) rfl rfl
    have f184 := g2_1.stp (S3.tr (S7.tr (S11.tr (S15.tr (S25.tr (S42.tr (S57.tr (S63.tr (S72.tr (S83.tr (S91.tr (S134.tr (S148.tr (S154.tr (S157.tr (S170.tr S176)))))))))))))))) rfl rfl
    refine WO.call rfl rfl rfl rfl rfl rfl Try.call103 (s_l29Letters_ok (κ := fun b => mp [] 0 (K169 b)) (p0 := p0) (p1 := p1) (Sl.map f182 (mp [] 0) rfl rfl) (Sl.map f183 (mp [] 0) rfl rfl) (Sl.map f184 (mp [] 0) rfl rfl) hx79) ?_
    rintro _ w185 ⟨k186, a79_0, u79_0, rfl, e187, f188⟩
    obtain ⟨K189, S190, m191⟩ := Ent.mixed (l := []) (κ := K169) e187 18 rfl
    refine ⟨(S190.cl rfl), ?_⟩
    have f193 := f188.mx (no_int _) m191 rfl (rfl : 18 + 2 = 20)
    refine WO.pn 1 rfl ?_
    refine WO.nx ?_
    refine WO.fin ?_
    refine DN.seq ?_
    refine WC.seq ?_
    refine WC.rs [(0, 2), (1, 2), (2, 2)] rfl ?_
    refine WO.pn 3 rfl ?_
    refine WO.fin ?_
    refine DN.seq ?_
    obtain ⟨q7, h, hK194⟩ := Option.bind_eq_some_iff.mp h
    refine WC.meet (fun L w' => ∃ (κ' : Col) (laq7_0 : Option Addr) (luq7_0 : Nat) (laq7_1 : Option Addr) (luq7_1 : Nat), L = [(3, .pointer (some ⟨b3, 0, none⟩)), (4, .pointer (some ⟨b4, 0, none⟩)), (5, .pointer (some ⟨b5, 0, none⟩)), (6, .pointer (some ⟨b6, 0, none⟩)), (7, .slice las3_0 s3.1.length lus3_0), (9, .int .i64 x58), (10, .pointer (some ⟨b10, 0, none⟩)), (11, .int .i64 v11)] ∧ Stp [15, 16, 17] K189 w185 κ' w' ∧ Oc (Ep.int .i64) 2 κ' w' 15 laq7_0 luq7_0 q7.1 ∧ Oc (Ep.int .i64) 2 κ' w' 17 laq7_1 luq7_1 q7.2 ∧ Bc κ' w' 16 b10 82 [.slice laq7_0 q7.1.length luq7_0, .slice laq7_1 q7.2.length luq7_1]) ?_ ?_
    ·
     revert h
     cases ht201 : decide (v11 < x58) with
     | true =>
      intro h; replace h := cT h
      refine WC.ct rfl ?_
      refine WC.rs [(0, 2), (1, 1), (2, 2), (3, 1), (4, 2), (5, 1)] rfl ?_
      refine WO.k2 rfl rfl rfl rfl (rn_fieldAddr Try.runUnderlying82 rfl Try.sizeOf24 rfl rfl) ?_
      have f202 := f173.stp (S176.tr S190) rfl rfl
      refine WO.k1 trivial rfl rfl rfl rfl (rn_ld Try.isAgg24 rfl rfl (hvE (f202.ld 0 rfl rfl))) ?_
      refine WO.pn 1 rfl ?_
      obtain ⟨x86, hx86, h⟩ := Option.bind_eq_some_iff.mp h
      have f203 := f171.stp (S176.tr S190) rfl rfl
      refine WO.app (κ := K189) (E := (Ep.int .i64)) 15 [] rfl rfl rfl rfl rfl rfl rfl rfl rfl Try.underlying24 Tryinfo2 rfl rfl rfl rfl f203 (Sl.srcP (pu_int _) f193.rdc) sy_false hx86 rfl fun a86 u86 w204 K205 S206 f207 => ⟨trivial, ?_⟩
      refine WO.k2 rfl rfl rfl rfl (rn_fieldAddr Try.runUnderlying82 rfl Try.sizeOf24 rfl rfl) ?_
      have f208 := f202.stp S206 rfl rfl
      refine WO.stB (κ := K205) 16 (off := 0) (vc := [.slice a86 x86.length u86]) (cs' := [.slice a86 x86.length u86, .slice las4_1 s4.2.length lus4_1]) rfl rfl rfl rfl rfl rfl rfl Try.sizeOf24 rfl rfl f208 rfl rfl fun w209 S210 f211 => ⟨trivial, ?_⟩
      refine WO.fin ?_
      have f212 := f207.stp S210 rfl rfl
      have f213 := f172.stp (S176.tr (S190.tr (S206.tr S210))) rfl rfl
      obtain rfl := Option.some.inj h
      exact DN.meet _ ⟨K205, a86, u86, las4_1, lus4_1, rfl, (S206.tr S210).wk rfl, f212, f213, f211⟩ fun a ha => (ha.more (ha.more (ha.more (ha.more (ha.more (ha.more (ha.more (ha.more ha.nil rfl) rfl) rfl) rfl) rfl) rfl) rfl) rfl)
     | false =>
      intro h; replace h := cF h
      refine WC.cf rfl ?_
      refine WC.rs [(0, 2), (1, 1), (2, 2), (3, 1), (4, 2), (5, 1)] rfl ?_
      refine WO.k2 rfl rfl rfl rfl (rn_fieldAddr Try.runUnderlying82 rfl Try.sizeOf24 rfl rfl) ?_
      have f214 := f173.stp (S176.tr S190) rfl rfl
      refine WO.k1 trivial rfl rfl rfl rfl (rn_ld Try.isAgg24 rfl rfl (hvE (f214.ld 1 rfl rfl))) ?_
      refine WO.pn 1 rfl ?_
      obtain ⟨x91, hx91, h⟩ := Option.bind_eq_some_iff.mp h
      have f215 := f172.stp (S176.tr S190) rfl rfl
      refine WO.app (κ := K189) (E := (Ep.int .i64)) 17 [] rfl rfl rfl rfl rfl rfl rfl rfl rfl Try.underlying24 Tryinfo2 rfl rfl rfl rfl f215 (Sl.srcP (pu_int _) f193.rdc) sy_false hx91 rfl fun a91 u91 w216 K217 S218 f219 => ⟨trivial, ?_⟩
      refine WO.k2 rfl rfl rfl rfl (rn_fieldAddr Try.runUnderlying82 rfl Try.sizeOf24 rfl rfl) ?_
      have f220 := f214.stp S218 rfl rfl
      refine WO.stB (κ := K217) 16 (off := 1) (vc := [.slice a91 x91.length u91]) (cs' := [.slice las4_0 s4.1.length lus4_0, .slice a91 x91.length u91]) rfl rfl rfl rfl rfl rfl rfl Try.sizeOf24 rfl rfl f220 rfl rfl fun w221 S222 f223 => ⟨trivial, ?_⟩
      refine WO.fin ?_
      have f224 := f171.stp (S176.tr (S190.tr (S218.tr S222))) rfl rfl
      have f225 := f219.stp S222 rfl rfl
      obtain rfl := Option.some.inj h
      exact DN.meet _ ⟨K217, las4_0, lus4_0, a91, u91, rfl, (S218.tr S222).wk rfl, f224, f225, f223⟩ fun a ha => (ha.more (ha.more (ha.more (ha.more (ha.more (ha.more (ha.more (ha.more ha.nil rfl) rfl) rfl) rfl) rfl) rfl) rfl) rfl)
    rintro _ w195 ⟨K196, laq7_0, luq7_0, laq7_1, luq7_1, rfl, S197, f198, f199, f200⟩
    have h := hK194
    refine DN.block ?_
    refine DN.seq ?_
    refine WC.rs [(0, 2), (1, 2), (2, 2)] rfl ?_
    refine WO.pn 3 rfl ?_
    refine WO.fin ?_
    have hw159 : IntKind.wrap .i64 (v11 + 1) = v11 + 1 := wr1 hj159 (of_decide_eq_true hc159) hN159
    rw [hw159]
    have hc159 := of_decide_eq_true hc159
    obtain rfl := Option.some.inj h
    refine DN.round fun a ha => ?_
    exact ⟨k, _, Nat.lt_succ_self _, ⟨K196, v11 + 1, ((q7.1 : (List Int)), (q7.2 : (List Int))), laq7_0, luq7_0, laq7_1, luq7_1, rfl, (S170.tr (S176.tr (S190.tr S197))).wk rfl, f198, f199, f200, by omega, by omega, hk175⟩, (ha.more (ha.more (ha.more (ha.more (ha.more (ha.more (ha.more (ha.more ha.nil rfl) rfl) rfl) rfl) rfl) rfl) rfl) rfl)⟩
  rintro _ w162 ⟨K163, s6, las6_0, lus6_0, las6_1, lus6_1, rfl, S164, f165, f166, f167, rfl⟩
  have h := hK160
  dsimp only [aft] at h
  refine DN.seq ?_
  refine WC.seq ?_
  refine WC.seq ?_
  refine WC.rs [(0, 2), (1, 1), (2, 2), (3, 2), (4, 2), (5, 2), (6, 1), (7, 2), (8, 2), (9, 2)] rfl ?_
  refine WO.k2 rfl rfl rfl rfl (rn_fieldAddr Try.runUnderlying82 rfl Try.sizeOf24 rfl rfl) ?_
  refine WO.k1 trivial rfl rfl rfl rfl (rn_ld Try.isAgg24 rfl rfl (hvE (f167.ld 0 rfl rfl))) ?_
  refine WO.k2 rfl rfl rfl rfl (rn_len Try.runUnderlying24 rfl rfl) ?_
  refine WO.pn 2 rfl ?_
  obtain ⟨p102, h, hK226⟩ := Option.bind_eq_some_iff.mp h
  refine WO.meet [(5, 2), (6, 1), (7, 2), (8, 2), (9, 2)] [] (fun L w' => L = [(6, .pointer (some ⟨b6, 0, none⟩)), (10, .pointer (some ⟨b10, 0, none⟩)), (102, .bool p102)] ∧ ∃ κ', Stp [] K163 w162 κ' w') trivial ?_ ?_
  ·
   revert h
   cases ht227 : decide (600 < (s6.1.length : Int)) with
   | true =>
    intro h; replace h := cT h
    refine WO.pn 1 rfl ?_
    refine WO.ls rfl rfl rfl rfl ?_
    refine WO.pn 3 rfl ?_
    obtain rfl := Option.some.inj h
    exact WO.met _ trivial ⟨rfl, _, (Stp.refl _ _).wk rfl⟩ fun a ha => (ha.more (ha.more (ha.more ha.nil rfl) rfl) rfl)
   | false =>
    intro h; replace h := cF h
    refine WO.k2 rfl rfl rfl rfl (rn_fieldAddr Try.runUnderlying82 rfl Try.sizeOf24 rfl rfl) ?_
    refine WO.k1 trivial rfl rfl rfl rfl (rn_ld Try.isAgg24 rfl rfl (hvE (f167.ld 1 rfl rfl))) ?_
    refine WO.k2 rfl rfl rfl rfl (rn_len Try.runUnderlying24 rfl rfl) ?_
    refine WO.pn 2 rfl ?_
    obtain rfl := Option.some.inj h
    exact WO.met _ trivial ⟨rfl, _, (Stp.refl _ _).wk rfl⟩ fun a ha => (ha.more (ha.more (ha.more ha.nil rfl) rfl) rfl)
  rintro _ w228 _ ⟨rfl, K229, S230⟩
  have h := hK226
  refine WO.fin ?_
  refine DN.seq ?_
  revert h
  cases ht231 : p102 with
  | true =>
   intro h; replace h := cT h
   refine WC.ct rfl ?_
   refine WC.seq ?_
   refine WC.rs [(0, 2), (1, 1)] rfl ?_
   refine WO.k2 rfl rfl rfl rfl (rn_build (parts := []) (cells := [.slice none 0 0, .slice none 0 0]) rfl rfl (by kernel_rfl)) ?_
   have f232 := f16.stp (S25.tr (S42.tr (S57.tr (S63.tr (S72.tr (S83.tr (S91.tr (S134.tr (S148.tr (S154.tr (S157.tr (S164.tr S230)))))))))))) rfl rfl
   refine WO.stB0 (κ := K229) 5 (vc := [.slice none 0 0, .slice none 0 0]) rfl rfl rfl rfl rfl rfl rfl Try.sizeOf82 rfl rfl f232 rfl fun w233 S234 f235 => ⟨trivial, ?_⟩
   refine WO.fin ?_
   refine DN.seq ?_
   refine WC.ret ?_
   refine DN.retThen ?_
   have f236 := hE.stp (S3.tr (S7.tr (S11.tr (S15.tr (S25.tr (S42.tr (S57.tr (S63.tr (S72.tr (S83.tr (S91.tr (S134.tr (S148.tr (S154.tr (S157.tr (S164.tr (S230.tr S234))))))))))))))))) rfl rfl
   refine DN.res (l := [.cell 6 82]) Try.results47 (res_cellA rfl f235 Try.isAgg82 Try.sizeOf82 rfl rfl) rfl ?_
   obtain rfl := Option.some.inj h
   exact ⟨K229, none, 0, none, 0, rfl, f236, Ow.nil, Ow.nil⟩
  | false =>
   intro h; replace h := cF h
   refine WC.cf rfl ?_
   refine WC.skip ?_
   refine DN.seq ?_
   refine WC.seq ?_
   refine WC.rs [(0, 1), (1, 1)] rfl ?_
   have f237 := f167.stp S230 rfl rfl
   refine WO.k1 trivial rfl rfl rfl rfl (rn_la (cs := [.slice las6_0 s6.1.length lus6_0, .slice las6_1 s6.2.length lus6_1]) Try.isAgg82 Try.sizeOf82 rfl rfl rfl (haE f237.cells)) ?_
   have f238 := f16.stp (S25.tr (S42.tr (S57.tr (S63.tr (S72.tr (S83.tr (S91.tr (S134.tr (S148.tr (S154.tr (S157.tr (S164.tr S230)))))))))))) rfl rfl
   refine WO.stB0 (κ := K229) 5 (vc := [.slice las6_0 s6.1.length lus6_0, .slice las6_1 s6.2.length lus6_1]) rfl rfl rfl rfl rfl rfl rfl Try.sizeOf82 rfl rfl f238 rfl fun w239 S240 f241 => ⟨trivial, ?_⟩
   refine WO.fin ?_
   refine DN.seq ?_
   refine WC.ret ?_
   have f242 := hE.stp (S3.tr (S7.tr (S11.tr (S15.tr (S25.tr (S42.tr (S57.tr (S63.tr (S72.tr (S83.tr (S91.tr (S134.tr (S148.tr (S154.tr (S157.tr (S164.tr (S230.tr S240))))))))))))))))) rfl rfl
   have f243 := f165.stp (S230.tr S240) rfl rfl
   have f244 := f166.stp (S230.tr S240) rfl rfl
   refine DN.res (l := [.cell 6 82]) Try.results47 (res_cellA rfl f241 Try.isAgg82 Try.sizeOf82 rfl rfl) rfl ?_
   obtain rfl := Option.some.inj h
   exact ⟨(fun b => ren [(15, 2), (17, 3)] (K229 b)), las6_0, lus6_0, las6_1, lus6_1, rfl, (f242.map (ren [(15, 2), (17, 3)]) rfl rfl), (f243.map (ren [(15, 2), (17, 3)]) rfl rfl), (f244.map (ren [(15, 2), (17, 3)]) rfl rfl)⟩

/- loop.example/g00869/impl.areLetters -/
theorem i_areLetters_ok {w : World} {κ : Col} {a0 : Option Addr} {u0 : Nat} {p0 : (List Int)} {p1 : Int} (g0 : Rd (Rp.int .i64) κ w 0 a0 u0 p0) {r : Bool} (h : i_areLetters p0 p1 = some r) : Ret Try.prog 80 [.slice a0 p0.length u0, .int .i64 p1] w (fun v w' => ∃ (κ' : Col), v = .bool r ∧ Ent κ w κ' w') := by
 unfold i_areLetters at h
 refine Ret.enter Try.func80 rfl Try.ntmps80 rfl ?_
 dsimp only [envOf]
 have hE := Ent.refl κ w
 refine WC.seq ?_
 refine WC.rs [(0, 1), (1, 2)] rfl ?_
 refine WO.box (κ := κ) 2 rfl rfl rfl rfl rfl rfl rfl fun b3 w1 K2 S3 f4 => ⟨trivial, ?_⟩
 refine WO.pn 1 rfl ?_
 refine WO.fin ?_
 refine DN.seq ?_
 refine WC.seq ?_
 refine WC.rs [(0, 2), (1, 2), (2, 1), (3, 2), (4, 2)] rfl ?_
 refine WO.pn 1 rfl ?_
 refine WO.k2 rfl rfl rfl rfl (rn_makeFunc (first := []) (captured := [.tmp 3]) rfl rfl rfl ⟨_, rfl⟩) ?_
 obtain ⟨x7, hx7, h⟩ := Option.bind_eq_some_iff.mp h
 have f5 := g0.stp S3 rfl rfl
 refine WO.call rfl rfl rfl rfl rfl rfl Try.call134 (slices_ContainsFunc_I_int64__i_areLetters_1_ok (κ := fun b => mp [] 0 (K2 b)) (Sl.map f5 (mp [] 0) rfl rfl) (f4.map (mp [] 0) rfl rfl) hx7) ?_
 rintro _ w6 ⟨k7, rfl, e8⟩
 obtain ⟨K9, S10, m11⟩ := Ent.mixed (l := []) (κ := K2) e8 3 rfl
 refine ⟨trivial, ?_⟩
 refine WO.pn 2 rfl ?_
 refine WO.fin ?_
 refine DN.seq ?_
 refine WC.ret ?_
 have f13 := hE.stp (S3.tr S10) rfl rfl
 refine DN.res (l := [.tmp 4]) Try.results80 (res_tmp rfl rfl) rfl ?_
 obtain rfl := Option.some.inj h
 exact ⟨K9, rfl, f13⟩

/- loop.example/g00869/impl.isMachine -/
theorem i_isMachine_ok {w : World} {κ : Col} {p0 : Sig} {a1_0 : Option Addr} {u1_0 : Nat} {a1_1 : Option Addr} {u1_1 : Nat} {p1 : Machine} (g1_0 : Rd (Rp.sl (Rp.int .i64)) κ w 0 a1_0 u1_0 p1.Next) (g1_1 : Rd (Rp.sl (Rp.int .i64)) κ w 0 a1_1 u1_1 p1.Out) {r : Bool} (h : i_isMachine p0 p1 = some r) : Ret Try.prog 104 [.agg #[.int .i64 p0.In, .int .i64 p0.Out], .agg #[.slice a1_0 p1.Next.length u1_0, .slice a1_1 p1.Out.length u1_1]] w (fun v w' => ∃ (κ' : Col), v = .bool r ∧ Ent κ w κ' w') := by
 unfold i_isMachine at h
 refine Ret.enter Try.func104 rfl Try.ntmps104 rfl ?_
 dsimp only [envOf]
 have hE := Ent.refl κ w
 refine WC.seq ?_
 refine WC.rs [(0, 1), (1, 1), (2, 2)] rfl ?_
 refine WO.box (κ := κ) 2 rfl rfl rfl rfl rfl rfl rfl fun b2 w1 K2 S3 f4 => ⟨trivial, ?_⟩
 refine WO.box (κ := K2) 3 rfl rfl rfl rfl rfl rfl rfl fun b3 w5 K6 S7 f8 => ⟨trivial, ?_⟩
 refine WO.pn 1 rfl ?_
 refine WO.fin ?_
 refine DN.seq ?_
 refine WC.seq ?_
 refine WC.rs [(0, 2), (1, 1), (2, 2), (3, 2)] rfl ?_
 refine WO.k2 rfl rfl rfl rfl (rn_fieldAddr Try.runUnderlying84 rfl Try.sizeOf25 rfl rfl) ?_
 refine WO.k1 trivial rfl rfl rfl rfl (rn_ld Try.isAgg25 rfl rfl (hvE (f8.ld 0 rfl rfl))) ?_
 refine WO.k2 rfl rfl rfl rfl (rn_len Try.runUnderlying25 rfl rfl) ?_
 refine WO.pn 1 rfl ?_
 refine WO.fin ?_
 refine DN.seq ?_
 refine WC.seq ?_
 refine WC.seq ?_
 refine WC.rs [(0, 2), (1, 2), (2, 2), (3, 2), (4, 2), (5, 2), (6, 2), (7, 2), (8, 1), (9, 2), (10, 2), (11, 1), (12, 2), (13, 2), (14, 2)] rfl ?_
 refine WO.pn 3 rfl ?_
 obtain ⟨p16, h, hK9⟩ := Option.bind_eq_some_iff.mp h
 refine WO.meet [(3, 2), (4, 2), (5, 2)] [(6, 2), (7, 2), (8, 1), (9, 2), (10, 2), (11, 1), (12, 2), (13, 2), (14, 2)] (fun L w' => L = [(2, .pointer (some ⟨b2, 0, none⟩)), (3, .pointer (some ⟨b3, 0, none⟩)), (5, .int .i64 (p1.Next.length : Int)), (16, .bool p16)] ∧ ∃ κ', Stp [] K6 w5 κ' w') trivial ?_ ?_
 ·
  revert h
  cases ht10 : decide ((p1.Next.length : Int) < 1) with
  | true =>
   intro h; replace h := cT h
   refine WO.pn 3 rfl ?_
   obtain rfl := Option.some.inj h
   exact WO.met _ trivial ⟨rfl, _, (Stp.refl _ _).wk rfl⟩ fun a ha => (ha.more (ha.more (ha.more (ha.more ha.nil rfl) rfl) rfl) rfl)
  | false =>
   intro h; replace h := cF h
   refine WO.pn 3 rfl ?_
   obtain rfl := Option.some.inj h
   exact WO.met _ trivial ⟨rfl, _, (Stp.refl _ _).wk rfl⟩ fun a ha => (ha.more (ha.more (ha.more (ha.more ha.nil rfl) rfl) rfl) rfl)
 rintro _ w11 _ ⟨rfl, K12, S13⟩
 have h := hK9
 refine WO.pn 1 rfl ?_
 obtain ⟨p25, h, hK14⟩ := Option.bind_eq_some_iff.mp h
 refine WO.meet [(7, 2), (8, 1), (9, 2), (10, 2), (11, 1), (12, 2), (13, 2), (14, 2)] [] (fun L w' => L = [(2, .pointer (some ⟨b2, 0, none⟩)), (3, .pointer (some ⟨b3, 0, none⟩)), (5, .int .i64 (p1.Next.length : Int)), (25, .bool p25)] ∧ ∃ κ', Stp [] K12 w11 κ' w') trivial ?_ ?_
 ·
  revert h
  cases ht15 : p16 with
  | true =>
   intro h; replace h := cT h
   refine WO.pn 1 rfl ?_
   refine WO.ls rfl rfl rfl rfl ?_
   refine WO.pn 2 rfl ?_
   refine WO.ls rfl rfl rfl rfl ?_
   refine WO.pn 3 rfl ?_
   obtain rfl := Option.some.inj h
   exact WO.met _ trivial ⟨rfl, _, (Stp.refl _ _).wk rfl⟩ fun a ha => (ha.more (ha.more (ha.more (ha.more ha.nil rfl) rfl) rfl) rfl)
  | false =>
   intro h; replace h := cF h
   refine WO.k2 rfl rfl rfl rfl (rn_fieldAddr Try.runUnderlying84 rfl Try.sizeOf25 rfl rfl) ?_
   have f16 := f8.stp S13 rfl rfl
   refine WO.k1 trivial rfl rfl rfl rfl (rn_ld Try.isAgg25 rfl rfl (hvE (f16.ld 1 rfl rfl))) ?_
   refine WO.k2 rfl rfl rfl rfl (rn_len Try.runUnderlying25 rfl rfl) ?_
   refine WO.k2 rfl rfl rfl rfl (rn_fieldAddr Try.runUnderlying84 rfl Try.sizeOf25 rfl rfl) ?_
   refine WO.k1 trivial rfl rfl rfl rfl (rn_ld Try.isAgg25 rfl rfl (hvE (f16.ld 0 rfl rfl))) ?_
   refine WO.k2 rfl rfl rfl rfl (rn_len Try.runUnderlying25 rfl rfl) ?_
   refine WO.pn 2 rfl ?_
   obtain rfl := Option.some.inj h
   exact WO.met _ trivial ⟨rfl, _, (Stp.refl _ _).wk rfl⟩ fun a ha => (ha.more (ha.more (ha.more (ha.more ha.nil rfl) rfl) rfl) rfl)
 rintro _ w17 _ ⟨rfl, K18, S19⟩
 have h := hK14
 refine WO.fin ?_
 refine DN.seq ?_
 revert h
 cases ht20 : p25 with
 | true =>
  intro h; replace h := cT h
  refine WC.ct rfl ?_
  refine WC.seq ?_
  refine WC.rs [(0, 2)] rfl ?_
  refine WO.pn 1 rfl ?_
  refine WO.fin ?_
  refine DN.seq ?_
  refine WC.ret ?_
  refine DN.retThen ?_
  have f21 := hE.stp (S3.tr (S7.tr (S13.tr S19))) rfl rfl
  refine DN.res (l := [.tmp 4]) Try.results104 (res_tmp rfl rfl) rfl ?_
  obtain rfl := Option.some.inj h
  exact ⟨K18, rfl, f21⟩
 | false =>
  intro h; replace h := cF h
  refine WC.cf rfl ?_
  refine WC.skip ?_
  refine DN.seq ?_
  refine WC.seq ?_
  refine WC.seq ?_
  refine WC.rs [(0, 2), (1, 1), (2, 2), (3, 2)] rfl ?_
  refine WO.k2 rfl rfl rfl rfl (rn_fieldAddr Try.runUnderlying84 rfl Try.sizeOf25 rfl rfl) ?_
  have f22 := f8.stp (S13.tr S19) rfl rfl
  refine WO.k1 trivial rfl rfl rfl rfl (rn_ld Try.isAgg25 rfl rfl (hvE (f22.ld 0 rfl rfl))) ?_
  refine WO.k2 rfl rfl rfl rfl (rn_len Try.runUnderlying25 rfl rfl) ?_
  refine WO.pn 1 rfl ?_
  refine WO.fin ?_
  refine DN.seq ?_
  have hN23 : (p1.Next.length : Int) ≤ 9223372036854775807 := g1_0.len_le
  obtain ⟨q2, hq25, hK24⟩ := Option.bind_eq_some_iff.mp h
  clear h
  refine WC.meet (fun L w' => ∃ (κ' : Col), L = [] ∧ Stp [] K18 w17 κ' w' ∧ q2 = Sum.inr ()) ?_ ?_
  ·
   refine WC.block ?_
   refine WC.loop (fun k L w' => ∃ (κ' : Col) (v29 : Int), L = [(2, .pointer (some ⟨b2, 0, none⟩)), (3, .pointer (some ⟨b3, 0, none⟩)), (5, .int .i64 (p1.Next.length : Int)), (27, .slice a1_0 p1.Next.length u1_0), (28, .int .i64 (p1.Next.length : Int)), (29, .int .i64 v29)] ∧ Stp [] K18 w17 κ' w' ∧ 0 ≤ v29 ∧ Int.toNat ((p1.Next.length : Int) - v29) = k ∧ cntM (i_isMachine_b0 p0 p1) k v29 () = some q2) ⟨_, _, ⟨K18, 0, rfl, (Stp.refl _ _).wk rfl, (by decide), (by simp), hq25⟩, fun a ha => (ha.more (ha.more (ha.more (ha.more (ha.more (ha.more ha.nil rfl) rfl) rfl) rfl) rfl) rfl)⟩ ?_
   rintro k _ w29 ⟨K30, v29, rfl, S31, hj23, hJ23, h⟩
   rcases k with _ | k
   ·
    have hk32 := h; obtain ⟨o23, h⟩ := ex_eq (Sum.inr (Sum.inl ()) : Bool ⊕ ((Unit) ⊕ (Unit)))
    have hc23 : decide (v29 < (p1.Next.length : Int)) = false := decide_eq_false (by omega)
    refine WC.seq ?_
    refine WC.rs [(0, 2)] rfl ?_
    refine WO.pn 1 rfl ?_
    refine WO.fin ?_
    refine DN.seq ?_
    refine WC.seq ?_
    refine WC.cf' rfl hc23 ?_
    refine WC.exit ?_
    refine DN.exitThen ?_
    refine DN.exitThen ?_
    obtain rfl := Option.some.inj h
    have h := hk32
    refine DN.hit ?_
    obtain rfl := Option.some.inj h
    exact DN.meet _ ⟨K30, rfl, S31.wk rfl, rfl⟩ fun a ha => ha.nil
   ·
    obtain ⟨o23, h, hk32⟩ := Option.bind_eq_some_iff.mp h; unfold i_isMachine_b0 at h
    have hc23 : decide (v29 < (p1.Next.length : Int)) = true := decide_eq_true (by omega)
    refine WC.seq ?_
    refine WC.rs [(0, 2)] rfl ?_
    refine WO.pn 1 rfl ?_
    refine WO.fin ?_
    refine DN.seq ?_
    refine WC.seq ?_
    refine WC.ct' rfl hc23 ?_
    refine WC.skip ?_
    refine DN.seq ?_
    refine WC.seq ?_
    refine WC.block ?_
    refine WC.seq ?_
    refine WC.rs [(0, 2), (1, 2), (2, 1), (3, 2), (4, 2)] rfl ?_
    refine WO.pn 1 rfl ?_
    obtain ⟨x32, hx32, h⟩ := Option.bind_eq_some_iff.mp h
    refine WO.k2 rfl rfl rfl rfl (rn_index g1_0 hx32 Try.runUnderlying25 Try.sizeOf24 rfl rfl rfl rfl) ?_
    have f33 := g1_0.stp (S3.tr (S7.tr (S13.tr (S19.tr S31)))) rfl rfl
    obtain ⟨ax32, ux32, f34, hl35⟩ := f33.gSl hx32
    refine WO.k1 trivial rfl rfl rfl rfl (rn_ld Try.isAgg24 rfl rfl (hvE hl35)) ?_
    refine WO.pn 2 rfl ?_
    refine WO.fin ?_
    refine DN.seq ?_
    refine WC.seq ?_
    refine WC.rx (κ := K30) 3 none [(0, 2), (1, 2), (2, 0), (3, 1), (4, 2), (5, 2), (6, 2), (8, 2), (12, 2), (13, 2), (7, 0), (9, 2), (10, 0), (11, 2), (14, 2), (15, 2), (16, 2), (17, 2), (18, 2), (19, 1), (20, 2), (21, 2), (22, 2), (23, 2), (25, 2), (28, 2), (24, 0), (26, 2), (27, 0), (29, 0), (30, 2), (31, 1), (32, 2), (33, 2)] [] (by kernel_rfl) (by kernel_rfl) fun w37 S36 => ?_
    refine WO.pn 1 rfl ?_
    refine WO.k2 rfl rfl rfl rfl (rn_len Try.runUnderlying24 rfl rfl) ?_
    have f38 := f4.stp (S7.tr (S13.tr (S19.tr (S31.tr S36)))) rfl rfl
    refine WO.k0 rfl rfl rfl rfl (rn_la (cs := [.int .i64 p0.In, .int .i64 p0.Out]) Try.isAgg30 Try.sizeOf30 rfl rfl rfl (haC f38.cells rfl)) ?_
    obtain ⟨x37, hx37, h⟩ := Option.bind_eq_some_iff.mp h
    refine WO.call rfl rfl rfl rfl rfl rfl Try.call106 (i_inputsOf_ok (κ := fun b => mp [] 0 (K30 b)) (p0 := p0) hx37) ?_
    rintro _ w39 ⟨k40, rfl, e41⟩
    obtain ⟨K42, S43, m44⟩ := Ent.mixed (l := []) (κ := K30) e41 4 rfl
    refine ⟨(S43.cl rfl), ?_⟩
    refine WO.pn 2 rfl ?_
    obtain ⟨p49, h, hK46⟩ := Option.bind_eq_some_iff.mp h
    refine WO.meet [(6, 2), (8, 2), (12, 2), (13, 2), (7, 0), (9, 2), (10, 0), (11, 2), (14, 2), (15, 2)] [(16, 2), (17, 2), (18, 2), (19, 1), (20, 2), (21, 2), (22, 2), (23, 2), (25, 2), (28, 2), (24, 0), (26, 2), (27, 0), (29, 0), (30, 2), (31, 1), (32, 2), (33, 2)] (fun L w' => L = [(2, .pointer (some ⟨b2, 0, none⟩)), (3, .pointer (some ⟨b3, 0, none⟩)), (5, .int .i64 (p1.Next.length : Int)), (6, .int .i64 v29), (7, .slice ax32 x32.length ux32), (27, .slice a1_0 p1.Next.length u1_0), (28, .int .i64 (p1.Next.length : Int)), (29, .int .i64 v29), (49, .bool p49)] ∧ ∃ κ', Stp [] K42 w39 κ' w') (S43.cl rfl) ?_ ?_
    ·
     revert h
     cases ht47 : ((x32.length : Int) != x37) with
     | true =>
      intro h; replace h := cT h
      refine WO.pn 4 rfl ?_
      refine WO.qs rfl rfl rfl rfl ?_
      refine WO.pn 1 rfl ?_
      refine WO.qs rfl rfl rfl rfl ?_
      refine WO.pn 3 rfl ?_
      obtain rfl := Option.some.inj h
      exact WO.met _ (S43.cl rfl) ⟨rfl, _, (Stp.refl _ _).wk rfl⟩ fun a ha => (ha.more (ha.more (ha.more (ha.more (ha.more (ha.more (ha.more (ha.more (ha.more ha.nil rfl) rfl) rfl) rfl) rfl) rfl) rfl) rfl) rfl)
     | false =>
      intro h; replace h := cF h
      refine WO.k2 rfl rfl rfl rfl (rn_fieldAddr Try.runUnderlying84 rfl Try.sizeOf25 rfl rfl) ?_
      refine WO.pn 2 rfl ?_
      refine WO.k2 rfl rfl rfl rfl (rn_len Try.runUnderlying24 rfl rfl) ?_
      have f48 := f22.stp (S31.tr S36) rfl rfl
      refine WO.k0 rfl rfl rfl rfl (rn_ld Try.isAgg25 rfl rfl (hvC (f48.ld 1 rfl rfl) rfl)) ?_
      obtain ⟨x43, hx43, h⟩ := Option.bind_eq_some_iff.mp h
      refine WO.k2 rfl rfl rfl rfl (rn_index g1_1 hx43 Try.runUnderlying25 Try.sizeOf24 rfl rfl rfl rfl) ?_
      have f49 := g1_1.stp (S3.tr (S7.tr (S13.tr (S19.tr (S31.tr S36))))) rfl rfl
      obtain ⟨ax43, ux43, f50, hl51⟩ := f49.gSl hx43
      refine WO.k0 rfl rfl rfl rfl (rn_ld Try.isAgg24 rfl rfl (hvC hl51 rfl)) ?_
      refine WO.k2 rfl rfl rfl rfl (rn_len Try.runUnderlying24 rfl rfl) ?_
      refine WO.pn 2 rfl ?_
      obtain rfl := Option.some.inj h
      exact WO.met _ (S43.cl rfl) ⟨rfl, _, (Stp.refl _ _).wk rfl⟩ fun a ha => (ha.more (ha.more (ha.more (ha.more (ha.more (ha.more (ha.more (ha.more (ha.more ha.nil rfl) rfl) rfl) rfl) rfl) rfl) rfl) rfl) rfl)
    rintro _ w52 _ ⟨rfl, K53, S54⟩
    have h := hK46
    refine WO.pn 1 rfl ?_
    obtain ⟨p55, h, hK55⟩ := Option.bind_eq_some_iff.mp h
    refine WO.meet [(17, 2), (18, 2), (19, 1), (20, 2), (21, 2)] [(22, 2), (23, 2), (25, 2), (28, 2), (24, 0), (26, 2), (27, 0), (29, 0), (30, 2), (31, 1), (32, 2), (33, 2)] (fun L w' => L = [(2, .pointer (some ⟨b2, 0, none⟩)), (3, .pointer (some ⟨b3, 0, none⟩)), (5, .int .i64 (p1.Next.length : Int)), (6, .int .i64 v29), (27, .slice a1_0 p1.Next.length u1_0), (28, .int .i64 (p1.Next.length : Int)), (29, .int .i64 v29), (55, .bool p55)] ∧ ∃ κ', Stp [] K53 w52 κ' w') ((S43.tr S54).cl rfl) ?_ ?_
    ·
     revert h
     cases ht56 : p49 with
     | true =>
      intro h; replace h := cT h
      refine WO.pn 2 rfl ?_
      refine WO.ls rfl rfl rfl rfl ?_
      refine WO.pn 2 rfl ?_
      obtain rfl := Option.some.inj h
      exact WO.met _ ((S43.tr S54).cl rfl) ⟨rfl, _, (Stp.refl _ _).wk rfl⟩ fun a ha => (ha.more (ha.more (ha.more (ha.more (ha.more (ha.more (ha.more (ha.more ha.nil rfl) rfl) rfl) rfl) rfl) rfl) rfl) rfl)
     | false =>
      intro h; replace h := cF h
      refine WO.pn 2 rfl ?_
      obtain ⟨x53, hx53, h⟩ := Option.bind_eq_some_iff.mp h
      have f57 := f34.stp (S36.tr (S43.tr S54)) rfl rfl
      refine WO.call rfl rfl rfl rfl rfl rfl Try.call80 (i_areLetters_ok (κ := fun b => mp [] 0 (K53 b)) (Sl.map f57 (mp [] 0) rfl rfl) hx53) ?_
      rintro _ w58 ⟨k59, rfl, e60⟩
      obtain ⟨K61, S62, m63⟩ := Ent.mixed (l := []) (κ := K53) e60 6 rfl
      refine ⟨((S43.tr (S54.tr S62)).cl rfl), ?_⟩
      refine WO.pn 2 rfl ?_
      obtain rfl := Option.some.inj h
      exact WO.met _ ((S43.tr (S54.tr S62)).cl rfl) ⟨rfl, _, S62.wk rfl⟩ fun a ha => (ha.more (ha.more (ha.more (ha.more (ha.more (ha.more (ha.more (ha.more ha.nil rfl) rfl) rfl) rfl) rfl) rfl) rfl) rfl)
    rintro _ w65 _ ⟨rfl, K66, S67⟩
    have h := hK55
    refine WO.pn 1 rfl ?_
    obtain ⟨p67, h, hK68⟩ := Option.bind_eq_some_iff.mp h
    refine WO.meet [(23, 2), (25, 2), (28, 2), (24, 0), (26, 2), (27, 0), (29, 0), (30, 2), (31, 1), (32, 2), (33, 2)] [] (fun L w' => L = [(2, .pointer (some ⟨b2, 0, none⟩)), (3, .pointer (some ⟨b3, 0, none⟩)), (5, .int .i64 (p1.Next.length : Int)), (27, .slice a1_0 p1.Next.length u1_0), (28, .int .i64 (p1.Next.length : Int)), (29, .int .i64 v29), (67, .bool p67)] ∧ ∃ κ', Stp [] K66 w65 κ' w') ((S43.tr (S54.tr S67)).cl rfl) ?_ ?_
    ·
     revert h
     cases ht69 : p55 with
     | true =>
      intro h; replace h := cT h
      refine WO.pn 3 rfl ?_
      refine WO.qs rfl rfl rfl rfl ?_
      refine WO.pn 1 rfl ?_
      refine WO.qs rfl rfl rfl rfl ?_
      refine WO.qs rfl rfl rfl rfl ?_
      refine WO.pn 1 rfl ?_
      refine WO.ls rfl rfl rfl rfl ?_
      refine WO.pn 2 rfl ?_
      obtain rfl := Option.some.inj h
      exact WO.met _ ((S43.tr (S54.tr S67)).cl rfl) ⟨rfl, _, (Stp.refl _ _).wk rfl⟩ fun a ha => (ha.more (ha.more (ha.more (ha.more (ha.more (ha.more (ha.more ha.nil rfl) rfl) rfl) rfl) rfl) rfl) rfl)
     | false =>
      intro h; replace h := cF h
      refine WO.k2 rfl rfl rfl rfl (rn_fieldAddr Try.runUnderlying84 rfl Try.sizeOf25 rfl rfl) ?_
      refine WO.pn 1 rfl ?_
      refine WO.k2 rfl rfl rfl rfl (rn_fieldAddr Try.runUnderlying30 rfl Try.sizeOf2 rfl rfl) ?_
      have f70 := f22.stp (S31.tr S36) rfl rfl
      refine WO.k0 rfl rfl rfl rfl (rn_ld Try.isAgg25 rfl rfl (hvC (f70.ld 1 rfl rfl) rfl)) ?_
      obtain ⟨x60, hx60, h⟩ := Option.bind_eq_some_iff.mp h
      refine WO.k2 rfl rfl rfl rfl (rn_index g1_1 hx60 Try.runUnderlying25 Try.sizeOf24 rfl rfl rfl rfl) ?_
      have f71 := g1_1.stp (S3.tr (S7.tr (S13.tr (S19.tr (S31.tr S36))))) rfl rfl
      obtain ⟨ax60, ux60, f72, hl73⟩ := f71.gSl hx60
      refine WO.k0 rfl rfl rfl rfl (rn_ld Try.isAgg24 rfl rfl (hvC hl73 rfl)) ?_
      refine WO.k0 rfl rfl rfl rfl (rn_ld Try.isAgg2 rfl rfl (hvC (f38.ld 1 rfl rfl) rfl)) ?_
      obtain ⟨_z64, hz64, h⟩ := Option.bind_eq_some_iff.mp h
      refine WO.k2 rfl rfl rfl rfl (rn_shl rfl rfl rfl (nn_ok hz64)) ?_
      obtain ⟨x65, hx65, h⟩ := Option.bind_eq_some_iff.mp h
      have f74 := f72.stp (S43.tr (S54.tr S67)) rfl rfl
      refine WO.call rfl rfl rfl rfl rfl rfl Try.call80 (i_areLetters_ok (κ := fun b => mp [] 0 (K66 b)) (Sl.map f74 (mp [] 0) rfl rfl) hx65) ?_
      rintro _ w75 ⟨k76, rfl, e77⟩
      obtain ⟨K78, S79, m80⟩ := Ent.mixed (l := []) (κ := K66) e77 6 rfl
      refine ⟨((S43.tr (S54.tr (S67.tr S79))).cl rfl), ?_⟩
      refine WO.pn 2 rfl ?_
      obtain rfl := Option.some.inj h
      exact WO.met _ ((S43.tr (S54.tr (S67.tr S79))).cl rfl) ⟨rfl, _, S79.wk rfl⟩ fun a ha => (ha.more (ha.more (ha.more (ha.more (ha.more (ha.more (ha.more ha.nil rfl) rfl) rfl) rfl) rfl) rfl) rfl)
    rintro _ w82 _ ⟨rfl, K83, S84⟩
    have h := hK68
    refine WO.nx ?_
    refine WO.fin ?_
    refine DN.seq ?_
    revert h
    cases ht85 : p67 with
    | true =>
     intro h; replace h := cT h
     refine WC.ct rfl ?_
     refine WC.seq ?_
     refine WC.rs [(0, 2)] rfl ?_
     refine WO.pn 1 rfl ?_
     refine WO.fin ?_
     refine DN.seq ?_
     refine WC.ret ?_
     refine DN.retBlock ?_
     refine DN.retThen ?_
     refine DN.retThen ?_
     obtain rfl := Option.some.inj h
     obtain rfl := Option.some.inj hk32
     have h := hK24
     dsimp only [aft] at h
     refine DN.retBlock ?_
     refine DN.retMeet ?_
     refine DN.retThen ?_
     have f86 := hE.stp (S3.tr (S7.tr (S13.tr (S19.tr (S31.tr (S36.tr (S43.tr (S54.tr (S67.tr S84))))))))) rfl rfl
     refine DN.res (l := [.tmp 4]) Try.results104 (res_tmp rfl rfl) rfl ?_
     obtain rfl := Option.some.inj h
     exact ⟨K83, rfl, f86⟩
    | false =>
     intro h; replace h := cF h
     refine WC.cf rfl ?_
     refine WC.skip ?_
     refine DN.block ?_
     refine DN.seq ?_
     refine WC.rs [(0, 2), (1, 2)] rfl ?_
     refine WO.pn 2 rfl ?_
     refine WO.fin ?_
     have hw23 : IntKind.wrap .i64 (v29 + 1) = v29 + 1 := wr1 hj23 (of_decide_eq_true hc23) hN23
     rw [hw23]
     have hc23 := of_decide_eq_true hc23
     obtain rfl := Option.some.inj h
     refine DN.round fun a ha => ?_
     exact ⟨k, _, Nat.lt_succ_self _, ⟨K83, v29 + 1, rfl, (S31.tr (S36.tr (S43.tr (S54.tr (S67.tr S84))))).wk rfl, by omega, by omega, hk32⟩, (ha.more (ha.more (ha.more (ha.more (ha.more (ha.more ha.nil rfl) rfl) rfl) rfl) rfl) rfl)⟩
  rintro _ w26 ⟨K27, rfl, S28, rfl⟩
  have h := hK24
  dsimp only [aft] at h
  refine DN.seq ?_
  refine WC.seq ?_
  refine WC.rs [(0, 2)] rfl ?_
  refine WO.pn 1 rfl ?_
  refine WO.fin ?_
  refine DN.seq ?_
  refine WC.ret ?_
  have f87 := hE.stp (S3.tr (S7.tr (S13.tr (S19.tr S28)))) rfl rfl
  refine DN.res (l := [.tmp 4]) Try.results104 (res_tmp rfl rfl) rfl ?_
  obtain rfl := Option.some.inj h
  exact ⟨K27, rfl, f87⟩

/- loop.example/g00869/impl.isWord -/
theorem i_isWord_ok {w : World} {κ : Col} {a0_0 : Option Addr} {u0_0 : Nat} {a0_1 : Option Addr} {u0_1 : Nat} {p0 : Word} {p1 : Int} (g0_0 : Rd (Rp.int .i64) κ w 0 a0_0 u0_0 p0.Stem) (g0_1 : Rd (Rp.int .i64) κ w 0 a0_1 u0_1 p0.Loop) {r : Bool} (h : i_isWord p0 p1 = some r) : Ret Try.prog 105 [.agg #[.slice a0_0 p0.Stem.length u0_0, .slice a0_1 p0.Loop.length u0_1], .int .i64 p1] w (fun v w' => ∃ (κ' : Col), v = .bool r ∧ Ent κ w κ' w') := by
 unfold i_isWord at h
 refine Ret.enter Try.func105 rfl Try.ntmps105 rfl ?_
 dsimp only [envOf]
 have hE := Ent.refl κ w
 refine WC.seq ?_
 refine WC.rs [(0, 1), (1, 2)] rfl ?_
 refine WO.box (κ := κ) 2 rfl rfl rfl rfl rfl rfl rfl fun b2 w1 K2 S3 f4 => ⟨trivial, ?_⟩
 refine WO.pn 1 rfl ?_
 refine WO.fin ?_
 refine DN.seq ?_
 refine WC.seq ?_
 refine WC.rs [(0, 2), (1, 1), (2, 2), (3, 2), (4, 2), (5, 2), (6, 1), (7, 2), (8, 2), (9, 2), (10, 2), (11, 2), (12, 1), (13, 2), (14, 2), (15, 2), (16, 2), (17, 2), (18, 1), (19, 2), (20, 1), (21, 2), (22, 2), (23, 2), (24, 1), (25, 2), (26, 1), (27, 2), (28, 2)] rfl ?_
 refine WO.k2 rfl rfl rfl rfl (rn_fieldAddr Try.runUnderlying82 rfl Try.sizeOf24 rfl rfl) ?_
 refine WO.k1 trivial rfl rfl rfl rfl (rn_ld Try.isAgg24 rfl rfl (hvE (f4.ld 0 rfl rfl))) ?_
 refine WO.k2 rfl rfl rfl rfl (rn_len Try.runUnderlying24 rfl rfl) ?_
 refine WO.pn 2 rfl ?_
 obtain ⟨p14, h, hK5⟩ := Option.bind_eq_some_iff.mp h
 refine WO.meet [(5, 2), (6, 1), (7, 2), (8, 2), (9, 2)] [(10, 2), (11, 2), (12, 1), (13, 2), (14, 2), (15, 2), (16, 2), (17, 2), (18, 1), (19, 2), (20, 1), (21, 2), (22, 2), (23, 2), (24, 1), (25, 2), (26, 1), (27, 2), (28, 2)] (fun L w' => L = [(1, .int .i64 p1), (2, .pointer (some ⟨b2, 0, none⟩)), (4, .bool false), (14, .bool p14)] ∧ ∃ κ', Stp [] K2 w1 κ' w') trivial ?_ ?_
 ·
  revert h
  cases ht6 : decide ((p0.Stem.length : Int) ≤ 600) with
  | true =>
   intro h; replace h := cT h
   refine WO.k2 rfl rfl rfl rfl (rn_fieldAddr Try.runUnderlying82 rfl Try.sizeOf24 rfl rfl) ?_
   refine WO.k1 trivial rfl rfl rfl rfl (rn_ld Try.isAgg24 rfl rfl (hvE (f4.ld 1 rfl rfl))) ?_
   refine WO.k2 rfl rfl rfl rfl (rn_len Try.runUnderlying24 rfl rfl) ?_
   refine WO.pn 2 rfl ?_
   obtain rfl := Option.some.inj h
   exact WO.met _ trivial ⟨rfl, _, (Stp.refl _ _).wk rfl⟩ fun a ha => (ha.more (ha.more (ha.more (ha.more ha.nil rfl) rfl) rfl) rfl)
  | false =>
   intro h; replace h := cF h
   refine WO.pn 1 rfl ?_
   refine WO.ls rfl rfl rfl rfl ?_
   refine WO.pn 3 rfl ?_
   obtain rfl := Option.some.inj h
   exact WO.met _ trivial ⟨rfl, _, (Stp.refl _ _).wk rfl⟩ fun a ha => (ha.more (ha.more (ha.more (ha.more ha.nil rfl) rfl) rfl) rfl)
 rintro _ w7 _ ⟨rfl, K8, S9⟩
 have h := hK5
 refine WO.pn 1 rfl ?_
 obtain ⟨p20, h, hK10⟩ := Option.bind_eq_some_iff.mp h
 refine WO.meet [(11, 2), (12, 1), (13, 2), (14, 2), (15, 2)] [(16, 2), (17, 2), (18, 1), (19, 2), (20, 1), (21, 2), (22, 2), (23, 2), (24, 1), (25, 2), (26, 1), (27, 2), (28, 2)] (fun L w' => L = [(1, .int .i64 p1), (2, .pointer (some ⟨b2, 0, none⟩)), (4, .bool false), (20, .bool p20)] ∧ ∃ κ', Stp [] K8 w7 κ' w') trivial ?_ ?_
 ·
  revert h
  cases ht11 : p14 with
  | true =>
   intro h; replace h := cT h
   refine WO.k2 rfl rfl rfl rfl (rn_fieldAddr Try.runUnderlying82 rfl Try.sizeOf24 rfl rfl) ?_
   have f12 := f4.stp S9 rfl rfl
   refine WO.k1 trivial rfl rfl rfl rfl (rn_ld Try.isAgg24 rfl rfl (hvE (f12.ld 1 rfl rfl))) ?_
   refine WO.k2 rfl rfl rfl rfl (rn_len Try.runUnderlying24 rfl rfl) ?_
   refine WO.pn 2 rfl ?_
   obtain rfl := Option.some.inj h
   exact WO.met _ trivial ⟨rfl, _, (Stp.refl _ _).wk rfl⟩ fun a ha => (ha.more (ha.more (ha.more (ha.more ha.nil rfl) rfl) rfl) rfl)
  | false =>
   intro h; replace h := cF h
   refine WO.pn 1 rfl ?_
   refine WO.ls rfl rfl rfl rfl ?_
   refine WO.pn 3 rfl ?_
   obtain rfl := Option.some.inj h
   exact WO.met _ trivial ⟨rfl, _, (Stp.refl _ _).wk rfl⟩ fun a ha => (ha.more (ha.more (ha.more (ha.more ha.nil rfl) rfl) rfl) rfl)
 rintro _ w13 _ ⟨rfl, K14, S15⟩
 have h := hK10
 refine WO.pn 1 rfl ?_
 obtain ⟨p26, h, hK16⟩ := Option.bind_eq_some_iff.mp h
 refine WO.meet [(17, 2), (18, 1), (19, 2), (20, 1), (21, 2)] [(22, 2), (23, 2), (24, 1), (25, 2), (26, 1), (27, 2), (28, 2)] (fun L w' => L = [(1, .int .i64 p1), (2, .pointer (some ⟨b2, 0, none⟩)), (4, .bool false), (26, .bool p26)] ∧ ∃ κ', Stp [] K14 w13 κ' w') trivial ?_ ?_
 ·
  revert h
  cases ht17 : p20 with
  | true =>
   intro h; replace h := cT h
   refine WO.k2 rfl rfl rfl rfl (rn_fieldAddr Try.runUnderlying82 rfl Try.sizeOf24 rfl rfl) ?_
   have f18 := f4.stp (S9.tr S15) rfl rfl
   refine WO.k1 trivial rfl rfl rfl rfl (rn_ld Try.isAgg24 rfl rfl (hvE (f18.ld 0 rfl rfl))) ?_
   refine WO.pn 1 rfl ?_
   obtain ⟨x25, hx25, h⟩ := Option.bind_eq_some_iff.mp h
   have f19 := g0_0.stp (S3.tr (S9.tr S15)) rfl rfl
   refine WO.call rfl rfl rfl rfl rfl rfl Try.call80 (i_areLetters_ok (κ := fun b => mp [] 0 (K14 b)) (Sl.map f19 (mp [] 0) rfl rfl) hx25) ?_
   rintro _ w20 ⟨k21, rfl, e22⟩
   obtain ⟨K23, S24, m25⟩ := Ent.mixed (l := []) (κ := K14) e22 3 rfl
   refine ⟨trivial, ?_⟩
   refine WO.pn 1 rfl ?_
   obtain rfl := Option.some.inj h
   exact WO.met _ trivial ⟨rfl, _, S24.wk rfl⟩ fun a ha => (ha.more (ha.more (ha.more (ha.more ha.nil rfl) rfl) rfl) rfl)
  | false =>
   intro h; replace h := cF h
   refine WO.pn 1 rfl ?_
   refine WO.ls rfl rfl rfl rfl ?_
   refine WO.pn 1 rfl ?_
   refine WO.ls rfl rfl rfl rfl ?_
   refine WO.pn 1 rfl ?_
   obtain rfl := Option.some.inj h
   exact WO.met _ trivial ⟨rfl, _, (Stp.refl _ _).wk rfl⟩ fun a ha => (ha.more (ha.more (ha.more (ha.more ha.nil rfl) rfl) rfl) rfl)
 rintro _ w27 _ ⟨rfl, K28, S29⟩
 have h := hK16
 refine WO.pn 1 rfl ?_
 obtain ⟨p32, h, hK30⟩ := Option.bind_eq_some_iff.mp h
 refine WO.meet [(23, 2), (24, 1), (25, 2), (26, 1), (27, 2)] [(28, 2)] (fun L w' => L = [(4, .bool false), (32, .bool p32)] ∧ ∃ κ', Stp [] K28 w27 κ' w') trivial ?_ ?_
 ·
  revert h
  cases ht31 : p26 with
  | true =>
   intro h; replace h := cT h
   refine WO.k2 rfl rfl rfl rfl (rn_fieldAddr Try.runUnderlying82 rfl Try.sizeOf24 rfl rfl) ?_
   have f32 := f4.stp (S9.tr (S15.tr S29)) rfl rfl
   refine WO.k1 trivial rfl rfl rfl rfl (rn_ld Try.isAgg24 rfl rfl (hvE (f32.ld 1 rfl rfl))) ?_
   refine WO.pn 1 rfl ?_
   obtain ⟨x31, hx31, h⟩ := Option.bind_eq_some_iff.mp h
   have f33 := g0_1.stp (S3.tr (S9.tr (S15.tr S29))) rfl rfl
   refine WO.call rfl rfl rfl rfl rfl rfl Try.call80 (i_areLetters_ok (κ := fun b => mp [] 0 (K28 b)) (Sl.map f33 (mp [] 0) rfl rfl) hx31) ?_
   rintro _ w34 ⟨k35, rfl, e36⟩
   obtain ⟨K37, S38, m39⟩ := Ent.mixed (l := []) (κ := K28) e36 3 rfl
   refine ⟨trivial, ?_⟩
   refine WO.pn 1 rfl ?_
   obtain rfl := Option.some.inj h
   exact WO.met _ trivial ⟨rfl, _, S38.wk rfl⟩ fun a ha => (ha.more (ha.more ha.nil rfl) rfl)
  | false =>
   intro h; replace h := cF h
   refine WO.pn 1 rfl ?_
   refine WO.ls rfl rfl rfl rfl ?_
   refine WO.pn 1 rfl ?_
   refine WO.ls rfl rfl rfl rfl ?_
   refine WO.pn 1 rfl ?_
   obtain rfl := Option.some.inj h
   exact WO.met _ trivial ⟨rfl, _, (Stp.refl _ _).wk rfl⟩ fun a ha => (ha.more (ha.more ha.nil rfl) rfl)
 rintro _ w41 _ ⟨rfl, K42, S43⟩
 have h := hK30
 refine WO.pn 1 rfl ?_
 refine WO.fin ?_
 refine DN.seq ?_
 refine WC.ret ?_
 have f44 := hE.stp (S3.tr (S9.tr (S15.tr (S29.tr S43)))) rfl rfl
 refine DN.res (l := [.tmp 4]) Try.results105 (res_tmp rfl rfl) rfl ?_
 obtain rfl := Option.some.inj h
 exact ⟨K42, rfl, f44⟩

/- loop.example/g00869/impl.RunWord -/
theorem i_RunWord_ok {w : World} {κ : Col} {p0 : Sig} {a1_0 : Option Addr} {u1_0 : Nat} {a1_1 : Option Addr} {u1_1 : Nat} {p1 : Machine} {a2_0 : Option Addr} {u2_0 : Nat} {a2_1 : Option Addr} {u2_1 : Nat} {p2 : Word} (g1_0 : Rd (Rp.sl (Rp.int .i64)) κ w 0 a1_0 u1_0 p1.Next) (g1_1 : Rd (Rp.sl (Rp.int .i64)) κ w 0 a1_1 u1_1 p1.Out) (g2_0 : Rd (Rp.int .i64) κ w 0 a2_0 u2_0 p2.Stem) (g2_1 : Rd (Rp.int .i64) κ w 0 a2_1 u2_1 p2.Loop) {r : Word} (h : i_RunWord p0 p1 p2 = some r) : Ret Try.prog 50 [.agg #[.int .i64 p0.In, .int .i64 p0.Out], .agg #[.slice a1_0 p1.Next.length u1_0, .slice a1_1 p1.Out.length u1_1], .agg #[.slice a2_0 p2.Stem.length u2_0, .slice a2_1 p2.Loop.length u2_1]] w (fun v w' => ∃ (κ' : Col) (ra0 : Option Addr) (ru0 : Nat) (ra1 : Option Addr) (ru1 : Nat), v = .agg #[.slice ra0 r.Stem.length ru0, .slice ra1 r.Loop.length ru1] ∧ Ent κ w κ' w' ∧ Oc (Ep.int .i64) 2 κ' w' 2 ra0 ru0 r.Stem ∧ Oc (Ep.int .i64) 2 κ' w' 3 ra1 ru1 r.Loop) := by
 unfold i_RunWord at h
 refine Ret.enter Try.func50 rfl Try.ntmps50 rfl ?_
 dsimp only [envOf]
 have hE := Ent.refl κ w
 refine WC.seq ?_
 refine WC.rs [(0, 1), (1, 1), (2, 1), (3, 1)] rfl ?_
 refine WO.box (κ := κ) 2 rfl rfl rfl rfl rfl rfl rfl fun b3 w1 K2 S3 f4 => ⟨trivial, ?_⟩
 refine WO.box (κ := K2) 3 rfl rfl rfl rfl rfl rfl rfl fun b4 w5 K6 S7 f8 => ⟨trivial, ?_⟩
 refine WO.box (κ := K6) 4 rfl rfl rfl rfl rfl rfl rfl fun b5 w9 K10 S11 f12 => ⟨trivial, ?_⟩
 refine WO.alloc (κ := K10) 5 rfl rfl rfl rfl rfl Try.zeroValue82 rfl fun b6 w13 K14 S15 f16 => ⟨trivial, ?_⟩
 refine WO.fin ?_
 refine DN.seq ?_
 refine WC.seq ?_
 refine WC.seq ?_
 refine WC.rx (κ := K14) 5 none [(0, 0), (1, 1), (2, 2), (3, 2), (4, 0), (5, 0), (6, 1), (7, 2), (8, 2), (9, 2), (10, 0), (11, 0), (12, 1), (13, 1), (14, 2), (15, 2)] [] (by kernel_rfl) (by kernel_rfl) fun w18 S17 => ?_
 have f19 := f4.stp (S7.tr (S11.tr (S15.tr S17))) rfl rfl
 refine WO.k0 rfl rfl rfl rfl (rn_la (cs := [.int .i64 p0.In, .int .i64 p0.Out]) Try.isAgg30 Try.sizeOf30 rfl rfl rfl (haC f19.cells rfl)) ?_
 obtain ⟨x10, hx10, h⟩ := Option.bind_eq_some_iff.mp h
 refine WO.call rfl rfl rfl rfl rfl rfl Try.call73 (i_isSig_ok (κ := fun b => mp [] 0 (K14 b)) (p0 := p0) hx10) ?_
 rintro _ w20 ⟨k21, rfl, e22⟩
 obtain ⟨K23, S24, m25⟩ := Ent.mixed (l := []) (κ := K14) e22 6 rfl
 refine ⟨(S24.cl rfl), ?_⟩
 refine WO.pn 2 rfl ?_
 obtain ⟨p17, h, hK27⟩ := Option.bind_eq_some_iff.mp h
 refine WO.meet [(4, 0), (5, 0), (6, 1), (7, 2), (8, 2)] [(9, 2), (10, 0), (11, 0), (12, 1), (13, 1), (14, 2), (15, 2)] (fun L w' => L = [(3, .pointer (some ⟨b3, 0, none⟩)), (4, .pointer (some ⟨b4, 0, none⟩)), (5, .pointer (some ⟨b5, 0, none⟩)), (6, .pointer (some ⟨b6, 0, none⟩)), (17, .bool p17)] ∧ ∃ κ', Stp [] K23 w20 κ' w') (S24.cl rfl) ?_ ?_
 ·
  revert h
  cases ht28 : (!x10) with
  | true =>
   intro h; replace h := cT h
   refine WO.qs rfl rfl rfl rfl ?_
   refine WO.qs rfl rfl rfl rfl ?_
   refine WO.ls rfl rfl rfl rfl ?_
   refine WO.pn 2 rfl ?_
   obtain rfl := Option.some.inj h
   exact WO.met _ (S24.cl rfl) ⟨rfl, _, (Stp.refl _ _).wk rfl⟩ fun a ha => (ha.more (ha.more (ha.more (ha.more (ha.more ha.nil rfl) rfl) rfl) rfl) rfl)
  | false =>
   intro h; replace h := cF h
   refine WO.k0 rfl rfl rfl rfl (rn_la (cs := [.int .i64 p0.In, .int .i64 p0.Out]) Try.isAgg30 Try.sizeOf30 rfl rfl rfl (haC f19.cells rfl)) ?_
   have f29 := f8.stp (S11.tr (S15.tr S17)) rfl rfl
   refine WO.k0 rfl rfl rfl rfl (rn_la (cs := [.slice a1_0 p1.Next.length u1_0, .slice a1_1 p1.Out.length u1_1]) Try.isAgg84 Try.sizeOf84 rfl rfl rfl (haC f29.cells rfl)) ?_
   obtain ⟨x15, hx15, h⟩ := Option.bind_eq_some_iff.mp h
   have f30 := g1_0.stp (S3.tr (S7.tr (S11.tr (S15.tr (S17.tr S24))))) rfl rfl
   have f31 := g1_1.stp (S3.tr (S7.tr (S11.tr (S15.tr (S17.tr S24))))) rfl rfl
   refine WO.call rfl rfl rfl rfl rfl rfl Try.call104 (i_isMachine_ok (κ := fun b => mp [] 0 (K23 b)) (p0 := p0) (p1 := p1) (Sl.map f30 (mp [] 0) rfl rfl) (Sl.map f31 (mp [] 0) rfl rfl) hx15) ?_
   rintro _ w32 ⟨k33, rfl, e34⟩
   obtain ⟨K35, S36, m37⟩ := Ent.mixed (l := []) (κ := K23) e34 8 rfl
   refine ⟨((S24.tr S36).cl rfl), ?_⟩
   refine WO.pn 2 rfl ?_
   obtain rfl := Option.some.inj h
   exact WO.met _ ((S24.tr S36).cl rfl) ⟨rfl, _, S36.wk rfl⟩ fun a ha => (ha.more (ha.more (ha.more (ha.more (ha.more ha.nil rfl) rfl) rfl) rfl) rfl)
 rintro _ w39 _ ⟨rfl, K40, S41⟩
 have h := hK27
 refine WO.pn 1 rfl ?_
 obtain ⟨p24, h, hK42⟩ := Option.bind_eq_some_iff.mp h
 refine WO.meet [(10, 0), (11, 0), (12, 1), (13, 1), (14, 2), (15, 2)] [] (fun L w' => L = [(3, .pointer (some ⟨b3, 0, none⟩)), (4, .pointer (some ⟨b4, 0, none⟩)), (5, .pointer (some ⟨b5, 0, none⟩)), (6, .pointer (some ⟨b6, 0, none⟩)), (24, .bool p24)] ∧ ∃ κ', Stp [] K40 w39 κ' w') ((S24.tr S41).cl rfl) ?_ ?_
 ·
  revert h
  cases ht43 : p17 with
  | true =>
   intro h; replace h := cT h
   refine WO.qs rfl rfl rfl rfl ?_
   refine WO.qs rfl rfl rfl rfl ?_
   refine WO.ls rfl rfl rfl rfl ?_
   refine WO.ls rfl rfl rfl rfl ?_
   refine WO.pn 2 rfl ?_
   obtain rfl := Option.some.inj h
   exact WO.met _ ((S24.tr S41).cl rfl) ⟨rfl, _, (Stp.refl _ _).wk rfl⟩ fun a ha => (ha.more (ha.more (ha.more (ha.more (ha.more ha.nil rfl) rfl) rfl) rfl) rfl)
  | false =>
   intro h; replace h := cF h
   have f44 := f12.stp (S15.tr S17) rfl rfl
   refine WO.k0 rfl rfl rfl rfl (rn_la (cs := [.slice a2_0 p2.Stem.length u2_0, .slice a2_1 p2.Loop.length u2_1]) Try.isAgg82 Try.sizeOf82 rfl rfl rfl (haC f44.cells rfl)) ?_
   refine WO.k0 rfl rfl rfl rfl (rn_la (cs := [.int .i64 p0.In, .int .i64 p0.Out]) Try.isAgg30 Try.sizeOf30 rfl rfl rfl (haC f19.cells rfl)) ?_
   obtain ⟨x21, hx21, h⟩ := Option.bind_eq_some_iff.mp h
   refine WO.call rfl rfl rfl rfl rfl rfl Try.call106 (i_inputsOf_ok (κ := fun b => mp [] 0 (K40 b)) (p0 := p0) hx21) ?_
   rintro _ w45 ⟨k46, rfl, e47⟩
   obtain ⟨K48, S49, m50⟩ := Ent.mixed (l := []) (κ := K40) e47 8 rfl
   refine ⟨((S24.tr (S41.tr S49)).cl rfl), ?_⟩
   obtain ⟨x22, hx22, h⟩ := Option.bind_eq_some_iff.mp h
   have f52 := g2_0.stp (S3.tr (S7.tr (S11.tr (S15.tr (S17.tr (S24.tr (S41.tr S49))))))) rfl rfl
   have f53 := g2_1.stp (S3.tr (S7.tr (S11.tr (S15.tr (S17.tr (S24.tr (S41.tr S49))))))) rfl rfl
   refine WO.call rfl rfl rfl rfl rfl rfl Try.call105 (i_isWord_ok (κ := fun b => mp [] 0 (K48 b)) (p0 := p2) (Sl.map f52 (mp [] 0) rfl rfl) (Sl.map f53 (mp [] 0) rfl rfl) hx22) ?_
   rintro _ w54 ⟨k55, rfl, e56⟩
   obtain ⟨K57, S58, m59⟩ := Ent.mixed (l := []) (κ := K48) e56 10 rfl
   refine ⟨((S24.tr (S41.tr (S49.tr S58))).cl rfl), ?_⟩
   refine WO.pn 2 rfl ?_
   obtain rfl := Option.some.inj h
   exact WO.met _ ((S24.tr (S41.tr (S49.tr S58))).cl rfl) ⟨rfl, _, (S49.tr S58).wk rfl⟩ fun a ha => (ha.more (ha.more (ha.more (ha.more (ha.more ha.nil rfl) rfl) rfl) rfl) rfl)
 rintro _ w61 _ ⟨rfl, K62, S63⟩
 have h := hK42
 refine WO.nx ?_
 refine WO.fin ?_
 refine DN.seq ?_
 revert h
 cases ht64 : p24 with
 | true =>
  intro h; replace h := cT h
  refine WC.ct rfl ?_
  refine WC.seq ?_
  refine WC.rs [(0, 2), (1, 1)] rfl ?_
  refine WO.k2 rfl rfl rfl rfl (rn_build (parts := []) (cells := [.slice none 0 0, .slice none 0 0]) rfl rfl (by kernel_rfl)) ?_
  have f65 := f16.stp (S17.tr (S24.tr (S41.tr S63))) rfl rfl
  refine WO.stB0 (κ := K62) 5 (vc := [.slice none 0 0, .slice none 0 0]) rfl rfl rfl rfl rfl rfl rfl Try.sizeOf82 rfl rfl f65 rfl fun w66 S67 f68 => ⟨trivial, ?_⟩
  refine WO.fin ?_
  refine DN.seq ?_
  refine WC.ret ?_
  refine DN.retThen ?_
  have f69 := hE.stp (S3.tr (S7.tr (S11.tr (S15.tr (S17.tr (S24.tr (S41.tr (S63.tr S67)))))))) rfl rfl
  refine DN.res (l := [.cell 6 82]) Try.results50 (res_cellA rfl f68 Try.isAgg82 Try.sizeOf82 rfl rfl) rfl ?_
  obtain rfl := Option.some.inj h
  exact ⟨K62, none, 0, none, 0, rfl, f69, Ow.nil, Ow.nil⟩
 | false =>
  intro h; replace h := cF h
  refine WC.cf rfl ?_
  refine WC.skip ?_
  refine DN.seq ?_
  refine WC.seq ?_
  refine WC.rs [(0, 1), (1, 1), (2, 1), (3, 1), (4, 2), (5, 2), (6, 2), (7, 1), (8, 1), (9, 2)] rfl ?_
  have f70 := f19.stp (S24.tr (S41.tr S63)) rfl rfl
  refine WO.k1 trivial rfl rfl rfl rfl (rn_la (cs := [.int .i64 p0.In, .int .i64 p0.Out]) Try.isAgg30 Try.sizeOf30 rfl rfl rfl (haE f70.cells)) ?_
  have f71 := f8.stp (S11.tr (S15.tr (S17.tr (S24.tr (S41.tr S63))))) rfl rfl
  refine WO.k1 trivial rfl rfl rfl rfl (rn_la (cs := [.slice a1_0 p1.Next.length u1_0, .slice a1_1 p1.Out.length u1_1]) Try.isAgg84 Try.sizeOf84 rfl rfl rfl (haE f71.cells)) ?_
  have f72 := f12.stp (S15.tr (S17.tr (S24.tr (S41.tr S63)))) rfl rfl
  refine WO.k1 trivial rfl rfl rfl rfl (rn_la (cs := [.slice a2_0 p2.Stem.length u2_0, .slice a2_1 p2.Loop.length u2_1]) Try.isAgg82 Try.sizeOf82 rfl rfl rfl (haE f72.cells)) ?_
  obtain ⟨x30, hx30, h⟩ := Option.bind_eq_some_iff.mp h
  have f73 := g1_0.stp (S3.tr (S7.tr (S11.tr (S15.tr (S17.tr (S24.tr (S41.tr S63))))))) rfl rfl
  have f74 := g1_1.stp (S3.tr (S7.tr (S11.tr (S15.tr (S17.tr (S24.tr (S41.tr S63))))))) rfl rfl
  have f75 := g2_0.stp (S3.tr (S7.tr (S11.tr (S15.tr (S17.tr (S24.tr (S41.tr S63))))))) rfl rfl
  have f76 := g2_1.stp (S3.tr (S7.tr (S11.tr (S15.tr (S17.tr (S24.tr (S41.tr S63))))))) rfl rfl
  refine WO.call rfl rfl rfl rfl rfl rfl Try.call107 (i_runWord_ok (κ := fun b => mp [] 0 (K62 b)) (p0 := p0) (p1 := p1) (p2 := p2) (Sl.map f73 (mp [] 0) rfl rfl) (Sl.map f74 (mp [] 0) rfl rfl) (Sl.map f75 (mp [] 0) rfl rfl) (Sl.map f76 (mp [] 0) rfl rfl) hx30) ?_
  rintro _ w77 ⟨k78, a30_0, u30_0, a30_1, u30_1, rfl, e79, f80, f81⟩
  obtain ⟨K82, S83, m84⟩ := Ent.mixed (l := []) (κ := K62) e79 8 rfl
  refine ⟨trivial, ?_⟩
  have f86 := f80.mx (no_int _) m84 rfl (rfl : 8 + 2 = 10)
  have f87 := f81.mx (no_int _) m84 rfl (rfl : 8 + 3 = 11)
  refine WO.pn 3 rfl ?_
  refine WO.alloc (κ := K82) 12 rfl rfl rfl rfl rfl Try.zeroValue82 rfl fun b7 w88 K89 S90 f91 => ⟨trivial, ?_⟩
  refine WO.stB0 (κ := K89) 12 (vc := [.slice a30_0 x30.1.Stem.length u30_0, .slice a30_1 x30.1.Loop.length u30_1]) rfl rfl rfl rfl rfl rfl rfl Try.sizeOf82 rfl rfl f91 rfl fun w92 S93 f94 => ⟨trivial, ?_⟩
  refine WO.pn 1 rfl ?_
  refine WO.fin ?_
  refine DN.seq ?_
  refine WC.seq ?_
  refine WC.seq ?_
  refine WC.rs [(0, 2), (1, 2)] rfl ?_
  refine WO.pn 2 rfl ?_
  refine WO.fin ?_
  refine DN.seq ?_
  revert h
  cases ht95 : (!x30.2) with
  | true =>
   intro h; replace h := cT h
   refine WC.ct rfl ?_
   refine WC.seq ?_
   refine WC.rs [(0, 2), (1, 1)] rfl ?_
   refine WO.k2 rfl rfl rfl rfl (rn_build (parts := []) (cells := [.slice none 0 0, .slice none 0 0]) rfl rfl (by kernel_rfl)) ?_
   have f96 := f16.stp (S17.tr (S24.tr (S41.tr (S63.tr (S83.tr (S90.tr S93)))))) rfl rfl
   refine WO.stB0 (κ := K89) 5 (vc := [.slice none 0 0, .slice none 0 0]) rfl rfl rfl rfl rfl rfl rfl Try.sizeOf82 rfl rfl f96 rfl fun w97 S98 f99 => ⟨trivial, ?_⟩
   refine WO.fin ?_
   refine DN.seq ?_
   refine WC.ret ?_
   refine DN.retThen ?_
   have f100 := hE.stp (S3.tr (S7.tr (S11.tr (S15.tr (S17.tr (S24.tr (S41.tr (S63.tr (S83.tr (S90.tr (S93.tr S98))))))))))) rfl rfl
   refine DN.res (l := [.cell 6 82]) Try.results50 (res_cellA rfl f99 Try.isAgg82 Try.sizeOf82 rfl rfl) rfl ?_
   obtain rfl := Option.some.inj h
   exact ⟨K89, none, 0, none, 0, rfl, f100, Ow.nil, Ow.nil⟩
  | false =>
   intro h; replace h := cF h
   refine WC.cf rfl ?_
   refine WC.skip ?_
   refine DN.seq ?_
   refine WC.seq ?_
   refine WC.rs [(0, 1), (1, 1)] rfl ?_
   refine WO.k1 trivial rfl rfl rfl rfl (rn_la (cs := [.slice a30_0 x30.1.Stem.length u30_0, .slice a30_1 x30.1.Loop.length u30_1]) Try.isAgg82 Try.sizeOf82 rfl rfl rfl (haE f94.cells)) ?_
   have f101 := f16.stp (S17.tr (S24.tr (S41.tr (S63.tr (S83.tr (S90.tr S93)))))) rfl rfl
   refine WO.stB0 (κ := K89) 5 (vc := [.slice a30_0 x30.1.Stem.length u30_0, .slice a30_1 x30.1.Loop.length u30_1]) rfl rfl rfl rfl rfl rfl rfl Try.sizeOf82 rfl rfl f101 rfl fun w102 S103 f104 => ⟨trivial, ?_⟩
   refine WO.fin ?_
   refine DN.seq ?_
   refine WC.ret ?_
   have f105 := hE.stp (S3.tr (S7.tr (S11.tr (S15.tr (S17.tr (S24.tr (S41.tr (S63.tr (S83.tr (S90.tr (S93.tr S103))))))))))) rfl rfl
   have f106 := f86.stp (S90.tr (S93.tr S103)) rfl rfl
   have f107 := f87.stp (S90.tr (S93.tr S103)) rfl rfl
   refine DN.res (l := [.cell 6 82]) Try.results50 (res_cellA rfl f104 Try.isAgg82 Try.sizeOf82 rfl rfl) rfl ?_
   obtain rfl := Option.some.inj h
   exact ⟨(fun b => ren [(10, 2), (11, 3)] (K89 b)), a30_0, u30_0, a30_1, u30_1, rfl, (f105.map (ren [(10, 2), (11, 3)]) rfl rfl), (f106.map (ren [(10, 2), (11, 3)]) rfl rfl), (f107.map (ren [(10, 2), (11, 3)]) rfl rfl)⟩

end Go.Proofs.Ytgniipbjjkodaaa
