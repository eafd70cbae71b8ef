/- The walks, part 4. By program. -/
import Derived.Test.YtnmjfjppgpkieaaFnsK2
import Derived.Test.YtnmjfjppgpkieaaFnsK3
set_option linter.unusedVariables false
set_option linter.unusedSimpArgs false
namespace Go.Proofs.Ytnmjfjppgpkieaa
open Go Go.Wk Go.Proofs
set_option maxRecDepth 100000
set_option maxHeartbeats 1000000

/- loop.example/g00869/spec.RunWord -/
theorem s_RunWord_ok {w : World} {κ : Col} {p0 : Sig} {a1_0 : Option Addr} {u1_0 : Nat} {a1_1 : Option Addr} {u1_1 : Nat} {p1 : Machine} {a2_0 : Option Addr} {u2_0 : Nat} {a2_1 : Option Addr} {u2_1 : Nat} {p2 : Word} (g1_0 : Rd (Rp.sl (Rp.int .i64)) κ w 0 a1_0 u1_0 p1.Next) (g1_1 : Rd (Rp.sl (Rp.int .i64)) κ w 0 a1_1 u1_1 p1.Out) (g2_0 : Rd (Rp.int .i64) κ w 0 a2_0 u2_0 p2.Stem) (g2_1 : Rd (Rp.int .i64) κ w 0 a2_1 u2_1 p2.Loop) {r : Word} (h : s_RunWord p0 p1 p2 = some r) : Ret Try.prog 50 [.agg #[.int .i64 p0.In, .int .i64 p0.Out], .agg #[.slice a1_0 p1.Next.length u1_0, .slice a1_1 p1.Out.length u1_1], .agg #[.slice a2_0 p2.Stem.length u2_0, .slice a2_1 p2.Loop.length u2_1]] w (fun v w' => ∃ (κ' : Col) (ra0 : Option Addr) (ru0 : Nat) (ra1 : Option Addr) (ru1 : Nat), v = .agg #[.slice ra0 r.Stem.length ru0, .slice ra1 r.Loop.length ru1] ∧ Ent κ w κ' w' ∧ Oc (Ep.int .i64) 2 κ' w' 2 ra0 ru0 r.Stem ∧ Oc (Ep.int .i64) 2 κ' w' 3 ra1 ru1 r.Loop) := by
 unfold s_RunWord at h
 refine Ret.enter Try.func50 rfl Try.ntmps50 rfl ?_
 dsimp only [envOf]
 have hE := Ent.refl κ w
 refine WC.seq ?_
 refine WC.rs [(0, 1), (1, 1), (2, 1), (3, 1)] rfl ?_
 refine WO.box (κ := κ) 2 rfl rfl rfl rfl rfl rfl rfl fun b3 w1 K2 S3 f4 => ⟨trivial, ?_⟩
 refine WO.box (κ := K2) 3 rfl rfl rfl rfl rfl rfl rfl fun b4 w5 K6 S7 f8 => ⟨trivial, ?_⟩
 refine WO.box (κ := K6) 4 rfl rfl rfl rfl rfl rfl rfl fun b5 w9 K10 S11 f12 => ⟨trivial, ?_⟩
 refine WO.alloc (κ := K10) 5 rfl rfl rfl rfl rfl Try.zeroValue41 rfl fun b6 w13 K14 S15 f16 => ⟨trivial, ?_⟩
 refine WO.fin ?_
 refine DN.seq ?_
 refine WC.seq ?_
 refine WC.seq ?_
 refine WC.rs [(0, 1), (1, 1), (2, 1), (3, 2), (4, 2), (5, 1), (6, 2), (7, 1), (8, 1), (9, 2), (10, 2), (11, 2), (12, 1), (13, 2), (14, 1), (15, 1), (16, 2), (17, 2), (18, 2), (19, 2), (20, 1), (21, 2), (22, 2), (23, 2)] rfl ?_
 have f17 := f4.stp (S7.tr (S11.tr S15)) rfl rfl
 refine WO.k1 trivial rfl rfl rfl rfl (rn_la (cs := [.int .i64 p0.In, .int .i64 p0.Out]) Try.isAgg35 Try.sizeOf35 rfl rfl rfl (haE f17.cells)) ?_
 have f18 := f8.stp (S11.tr S15) rfl rfl
 refine WO.k1 trivial rfl rfl rfl rfl (rn_la (cs := [.slice a1_0 p1.Next.length u1_0, .slice a1_1 p1.Out.length u1_1]) Try.isAgg37 Try.sizeOf37 rfl rfl rfl (haE f18.cells)) ?_
 obtain ⟨x15, hx15, h⟩ := Option.bind_eq_some_iff.mp h
 have f19 := g1_0.stp (S3.tr (S7.tr (S11.tr S15))) rfl rfl
 have f20 := g1_1.stp (S3.tr (S7.tr (S11.tr S15))) rfl rfl
 refine WO.call rfl rfl rfl rfl rfl rfl Try.call59 (s_MachineOk_ok (κ := fun b => mp [] 0 (K14 b)) (p0 := p0) (p1 := p1) (Sl.map f19 (mp [] 0) rfl rfl) (Sl.map f20 (mp [] 0) rfl rfl) hx15) ?_
 rintro _ w21 ⟨k22, rfl, e23⟩
 obtain ⟨K24, S25, m26⟩ := Ent.mixed (l := []) (κ := K14) e23 6 rfl
 refine ⟨trivial, ?_⟩
 refine WO.pn 2 rfl ?_
 obtain ⟨p23, h, hK28⟩ := Option.bind_eq_some_iff.mp h
 refine WO.meet [(5, 1), (6, 2), (7, 1), (8, 1), (9, 2), (10, 2)] [(11, 2), (12, 1), (13, 2), (14, 1), (15, 1), (16, 2), (17, 2), (18, 2), (19, 2), (20, 1), (21, 2), (22, 2), (23, 2)] (fun L w' => L = [(3, .pointer (some ⟨b3, 0, none⟩)), (4, .pointer (some ⟨b4, 0, none⟩)), (5, .pointer (some ⟨b5, 0, none⟩)), (6, .pointer (some ⟨b6, 0, none⟩)), (23, .bool p23)] ∧ ∃ κ', Stp [] K24 w21 κ' w') trivial ?_ ?_
 ·
  revert h
  cases ht29 : (!x15) with
  | true =>
   intro h; replace h := cT h
   refine WO.ls rfl rfl rfl rfl ?_
   refine WO.pn 1 rfl ?_
   refine WO.ls rfl rfl rfl rfl ?_
   refine WO.ls rfl rfl rfl rfl ?_
   refine WO.pn 2 rfl ?_
   obtain rfl := Option.some.inj h
   exact WO.met _ trivial ⟨rfl, _, (Stp.refl _ _).wk rfl⟩ fun a ha => (ha.more (ha.more (ha.more (ha.more (ha.more ha.nil rfl) rfl) rfl) rfl) rfl)
  | false =>
   intro h; replace h := cF h
   have f30 := f17.stp S25 rfl rfl
   refine WO.k1 trivial rfl rfl rfl rfl (rn_la (cs := [.int .i64 p0.In, .int .i64 p0.Out]) Try.isAgg35 Try.sizeOf35 rfl rfl rfl (haE f30.cells)) ?_
   refine WO.k2 rfl rfl rfl rfl (rn_fieldAddr Try.runUnderlying41 rfl Try.sizeOf28 rfl rfl) ?_
   have f31 := f12.stp (S15.tr S25) rfl rfl
   refine WO.k1 trivial rfl rfl rfl rfl (rn_ld Try.isAgg28 rfl rfl (hvE (f31.ld 0 rfl rfl))) ?_
   obtain ⟨x21, hx21, h⟩ := Option.bind_eq_some_iff.mp h
   have f32 := g2_0.stp (S3.tr (S7.tr (S11.tr (S15.tr S25)))) rfl rfl
   refine WO.call rfl rfl rfl rfl rfl rfl Try.call86 (s_l29Inputs_ok (κ := fun b => mp [] 0 (K24 b)) (p0 := p0) (Sl.map f32 (mp [] 0) rfl rfl) hx21) ?_
   rintro _ w33 ⟨k34, rfl, e35⟩
   obtain ⟨K36, S37, m38⟩ := Ent.mixed (l := []) (κ := K24) e35 8 rfl
   refine ⟨trivial, ?_⟩
   refine WO.pn 2 rfl ?_
   obtain rfl := Option.some.inj h
   exact WO.met _ trivial ⟨rfl, _, S37.wk rfl⟩ fun a ha => (ha.more (ha.more (ha.more (ha.more (ha.more ha.nil rfl) rfl) rfl) rfl) rfl)
 rintro _ w40 _ ⟨rfl, K41, S42⟩
 have h := hK28
 refine WO.pn 1 rfl ?_
 obtain ⟨p30, h, hK43⟩ := Option.bind_eq_some_iff.mp h
 refine WO.meet [(12, 1), (13, 2), (14, 1), (15, 1), (16, 2), (17, 2)] [(18, 2), (19, 2), (20, 1), (21, 2), (22, 2), (23, 2)] (fun L w' => L = [(3, .pointer (some ⟨b3, 0, none⟩)), (4, .pointer (some ⟨b4, 0, none⟩)), (5, .pointer (some ⟨b5, 0, none⟩)), (6, .pointer (some ⟨b6, 0, none⟩)), (30, .bool p30)] ∧ ∃ κ', Stp [] K41 w40 κ' w') trivial ?_ ?_
 ·
  revert h
  cases ht44 : p23 with
  | true =>
   intro h; replace h := cT h
   refine WO.ls rfl rfl rfl rfl ?_
   refine WO.pn 1 rfl ?_
   refine WO.ls rfl rfl rfl rfl ?_
   refine WO.ls rfl rfl rfl rfl ?_
   refine WO.pn 2 rfl ?_
   obtain rfl := Option.some.inj h
   exact WO.met _ trivial ⟨rfl, _, (Stp.refl _ _).wk rfl⟩ fun a ha => (ha.more (ha.more (ha.more (ha.more (ha.more ha.nil rfl) rfl) rfl) rfl) rfl)
  | false =>
   intro h; replace h := cF h
   have f45 := f17.stp (S25.tr S42) rfl rfl
   refine WO.k1 trivial rfl rfl rfl rfl (rn_la (cs := [.int .i64 p0.In, .int .i64 p0.Out]) Try.isAgg35 Try.sizeOf35 rfl rfl rfl (haE f45.cells)) ?_
   refine WO.k2 rfl rfl rfl rfl (rn_fieldAddr Try.runUnderlying41 rfl Try.sizeOf28 rfl rfl) ?_
   have f46 := f12.stp (S15.tr (S25.tr S42)) rfl rfl
   refine WO.k1 trivial rfl rfl rfl rfl (rn_ld Try.isAgg28 rfl rfl (hvE (f46.ld 1 rfl rfl))) ?_
   obtain ⟨x28, hx28, h⟩ := Option.bind_eq_some_iff.mp h
   have f47 := g2_1.stp (S3.tr (S7.tr (S11.tr (S15.tr (S25.tr S42))))) rfl rfl
   refine WO.call rfl rfl rfl rfl rfl rfl Try.call86 (s_l29Inputs_ok (κ := fun b => mp [] 0 (K41 b)) (p0 := p0) (Sl.map f47 (mp [] 0) rfl rfl) hx28) ?_
   rintro _ w48 ⟨k49, rfl, e50⟩
   obtain ⟨K51, S52, m53⟩ := Ent.mixed (l := []) (κ := K41) e50 8 rfl
   refine ⟨trivial, ?_⟩
   refine WO.pn 2 rfl ?_
   obtain rfl := Option.some.inj h
   exact WO.met _ trivial ⟨rfl, _, S52.wk rfl⟩ fun a ha => (ha.more (ha.more (ha.more (ha.more (ha.more ha.nil rfl) rfl) rfl) rfl) rfl)
 rintro _ w55 _ ⟨rfl, K56, S57⟩
 have h := hK43
 refine WO.pn 1 rfl ?_
 obtain ⟨p36, h, hK58⟩ := Option.bind_eq_some_iff.mp h
 refine WO.meet [(19, 2), (20, 1), (21, 2), (22, 2), (23, 2)] [] (fun L w' => L = [(3, .pointer (some ⟨b3, 0, none⟩)), (4, .pointer (some ⟨b4, 0, none⟩)), (5, .pointer (some ⟨b5, 0, none⟩)), (6, .pointer (some ⟨b6, 0, none⟩)), (36, .bool p36)] ∧ ∃ κ', Stp [] K56 w55 κ' w') trivial ?_ ?_
 ·
  revert h
  cases ht59 : p30 with
  | true =>
   intro h; replace h := cT h
   refine WO.pn 1 rfl ?_
   refine WO.ls rfl rfl rfl rfl ?_
   refine WO.pn 3 rfl ?_
   obtain rfl := Option.some.inj h
   exact WO.met _ trivial ⟨rfl, _, (Stp.refl _ _).wk rfl⟩ fun a ha => (ha.more (ha.more (ha.more (ha.more (ha.more ha.nil rfl) rfl) rfl) rfl) rfl)
  | false =>
   intro h; replace h := cF h
   refine WO.k2 rfl rfl rfl rfl (rn_fieldAddr Try.runUnderlying41 rfl Try.sizeOf28 rfl rfl) ?_
   have f60 := f12.stp (S15.tr (S25.tr (S42.tr S57))) rfl rfl
   refine WO.k1 trivial rfl rfl rfl rfl (rn_ld Try.isAgg28 rfl rfl (hvE (f60.ld 1 rfl rfl))) ?_
   refine WO.k2 rfl rfl rfl rfl (rn_len Try.runUnderlying28 rfl rfl) ?_
   refine WO.pn 2 rfl ?_
   obtain rfl := Option.some.inj h
   exact WO.met _ trivial ⟨rfl, _, (Stp.refl _ _).wk rfl⟩ fun a ha => (ha.more (ha.more (ha.more (ha.more (ha.more ha.nil rfl) rfl) rfl) rfl) rfl)
 rintro _ w61 _ ⟨rfl, K62, S63⟩
 have h := hK58
 refine WO.fin ?_
 refine DN.seq ?_
 revert h
 cases ht64 : p36 with
 | true =>
  intro h; replace h := cT h
  refine WC.ct rfl ?_
  refine WC.seq ?_
  refine WC.rs [(0, 2), (1, 1)] rfl ?_
  refine WO.k2 rfl rfl rfl rfl (rn_build (parts := []) (cells := [.slice none 0 0, .slice none 0 0]) rfl rfl (by kernel_rfl)) ?_
  have f65 := f16.stp (S25.tr (S42.tr (S57.tr S63))) rfl rfl
  refine WO.stB0 (κ := K62) 5 (vc := [.slice none 0 0, .slice none 0 0]) rfl rfl rfl rfl rfl rfl rfl Try.sizeOf41 rfl rfl f65 rfl fun w66 S67 f68 => ⟨trivial, ?_⟩
  refine WO.fin ?_
  refine DN.seq ?_
  refine WC.ret ?_
  refine DN.retThen ?_
  have f69 := hE.stp (S3.tr (S7.tr (S11.tr (S15.tr (S25.tr (S42.tr (S57.tr (S63.tr S67)))))))) rfl rfl
  refine DN.res (l := [.cell 6 41]) Try.results50 (res_cellA rfl f68 Try.isAgg41 Try.sizeOf41 rfl rfl) rfl ?_
  obtain rfl := Option.some.inj h
  exact ⟨K62, none, 0, none, 0, rfl, f69, Ow.nil, Ow.nil⟩
 | false =>
  intro h; replace h := cF h
  refine WC.cf rfl ?_
  refine WC.skip ?_
  refine DN.seq ?_
  refine WC.seq ?_
  refine WC.rs [(0, 1), (1, 2)] rfl ?_
  refine WO.bl0 (κ := K62) (E := (Ep.int .i64)) 8 rfl rfl rfl rfl rfl Try.underlying28 Tryinfo2 rfl fun a38 u38 w70 K71 S72 f73 => ⟨trivial, ?_⟩
  refine WO.pn 1 rfl ?_
  refine WO.fin ?_
  refine DN.seq ?_
  refine WC.seq ?_
  refine WC.rs [(0, 1), (1, 2), (2, 1), (3, 1), (4, 2)] rfl ?_
  have f74 := f18.stp (S25.tr (S42.tr (S57.tr (S63.tr S72)))) rfl rfl
  refine WO.k1 trivial rfl rfl rfl rfl (rn_la (cs := [.slice a1_0 p1.Next.length u1_0, .slice a1_1 p1.Out.length u1_1]) Try.isAgg37 Try.sizeOf37 rfl rfl rfl (haE f74.cells)) ?_
  refine WO.k2 rfl rfl rfl rfl (rn_fieldAddr Try.runUnderlying41 rfl Try.sizeOf28 rfl rfl) ?_
  have f75 := f12.stp (S15.tr (S25.tr (S42.tr (S57.tr (S63.tr S72))))) rfl rfl
  refine WO.k1 trivial rfl rfl rfl rfl (rn_ld Try.isAgg28 rfl rfl (hvE (f75.ld 0 rfl rfl))) ?_
  obtain ⟨x42, hx42, h⟩ := Option.bind_eq_some_iff.mp h
  have f76 := f19.stp (S25.tr (S42.tr (S57.tr (S63.tr S72)))) rfl rfl
  have f77 := f20.stp (S25.tr (S42.tr (S57.tr (S63.tr S72)))) rfl rfl
  have f78 := g2_0.stp (S3.tr (S7.tr (S11.tr (S15.tr (S25.tr (S42.tr (S57.tr (S63.tr S72)))))))) rfl rfl
  refine WO.call rfl rfl rfl rfl rfl rfl Try.call87 (s_l29Behind_ok (κ := fun b => mp [] 0 (K71 b)) (p0 := p1) (Sl.map f76 (mp [] 0) rfl rfl) (Sl.map f77 (mp [] 0) rfl rfl) (Sl.map f78 (mp [] 0) rfl rfl) hx42) ?_
  rintro _ w79 ⟨k80, rfl, e81⟩
  obtain ⟨K82, S83, m84⟩ := Ent.mixed (l := []) (κ := K71) e81 9 rfl
  refine ⟨trivial, ?_⟩
  refine WO.pn 1 rfl ?_
  refine WO.fin ?_
  refine DN.seq ?_
  refine WC.seq ?_
  obtain ⟨q2, hq88, hK87⟩ := Option.bind_eq_some_iff.mp h
  clear h
  refine WC.meet (fun L w' => ∃ (κ' : Col) (s3 : (List Int) × Int) (las3_0 : Option Addr) (lus3_0 : Nat), L = [(3, .pointer (some ⟨b3, 0, none⟩)), (4, .pointer (some ⟨b4, 0, none⟩)), (5, .pointer (some ⟨b5, 0, none⟩)), (6, .pointer (some ⟨b6, 0, none⟩)), (7, .slice las3_0 s3.1.length lus3_0), (8, .int .i64 s3.2)] ∧ Stp [8] K82 w79 κ' w' ∧ Oc (Ep.int .i64) 2 κ' w' 8 las3_0 lus3_0 s3.1 ∧ q2 = Sum.inr s3) ?_ ?_
  ·
   refine WC.block ?_
   have f97 := f73.stp S83 rfl rfl
   refine WC.loop (fun k L w' => ∃ (κ' : Col) (s1 : (List Int) × Int) (las1_0 : Option Addr) (lus1_0 : Nat), L = [(3, .pointer (some ⟨b3, 0, none⟩)), (4, .pointer (some ⟨b4, 0, none⟩)), (5, .pointer (some ⟨b5, 0, none⟩)), (6, .pointer (some ⟨b6, 0, none⟩)), (7, .slice las1_0 s1.1.length lus1_0), (8, .int .i64 s1.2)] ∧ Stp [8] K82 w79 κ' w' ∧ Oc (Ep.int .i64) 2 κ' w' 8 las1_0 lus1_0 s1.1 ∧ whileM (s_RunWord_b0 p1 p2) k s1 = some q2) ⟨_, _, ⟨K82, ((([] : List Int) : (List Int)), (x42 : Int)), a38, u38, rfl, (Stp.refl _ _).wk rfl, f97, hq88⟩, fun a ha => (ha.more (ha.more (ha.more (ha.more (ha.more (ha.more ha.nil rfl) rfl) rfl) rfl) rfl) rfl)⟩ ?_
   rintro k _ w93 ⟨K94, s1, las1_0, lus1_0, rfl, S95, f96, h⟩
   rcases k with _ | k
   ·
    cases h
   ·
    obtain ⟨o86, h, hk98⟩ := Option.bind_eq_some_iff.mp h; unfold s_RunWord_b0 at h
    refine WC.seq ?_
    refine WC.seq ?_
    refine WC.rs [(0, 2), (1, 2), (2, 1), (3, 2)] rfl ?_
    refine WO.pn 2 rfl ?_
    obtain ⟨x45, hx45, h⟩ := Option.bind_eq_some_iff.mp h
    refine WO.call rfl rfl rfl rfl rfl rfl Try.call88 (s_l1Place_ok (κ := fun b => mp [] 0 (K94 b)) (Sl.map f96.rdc (mp [] 0) rfl rfl) hx45) ?_
    rintro _ w99 ⟨k100, rfl, e101⟩
    obtain ⟨K102, S103, m104⟩ := Ent.mixed (l := []) (κ := K94) e101 11 rfl
    refine ⟨trivial, ?_⟩
    refine WO.pn 1 rfl ?_
    refine WO.fin ?_
    refine DN.seq ?_
    revert h
    cases ht106 : decide (x45 < 0) with
    | true =>
     intro h; replace h := cT h
     refine WC.ct rfl ?_
     refine WC.skip ?_
     refine DN.seq ?_
     refine WC.block ?_
     refine WC.seq ?_
     refine WC.rs [(0, 2), (1, 2), (2, 1), (3, 1), (4, 2)] rfl ?_
     refine WO.pn 2 rfl ?_
     refine WO.bl (κ := K102) (E := (Ep.int .i64)) 13 [] (parts := [(0, .tmp 48)]) (cells := [.int .i64 s1.2]) (xs := ([s1.2] : List Int)) rfl rfl rfl rfl rfl rfl Try.underlying28 Tryinfo2 rfl rfl rfl rfl rfl rfl rfl rfl rfl rfl ⟨[.int .i64 s1.2], [], Zl K102 w99 [], Zl K102 w99 [], rfl, Zl.sp (l1 := []) (l2 := []) rfl, Zl.sr (l1 := []) (l2 := []), rfl, rfl⟩ fun a49 u49 w107 K108 S109 f110 => ⟨trivial, ?_⟩
     obtain ⟨x50, hx50, h⟩ := Option.bind_eq_some_iff.mp h
     have f111 := f96.stp (S103.tr S109) rfl rfl
     refine WO.app (κ := K108) (E := (Ep.int .i64)) 8 [] rfl rfl rfl rfl rfl rfl rfl rfl rfl Try.underlying28 Tryinfo2 rfl rfl rfl rfl f111 (Sl.srcP (pu_int _) f110.rdc) sy_false hx50 rfl fun a50 u50 w112 K113 S114 f115 => ⟨trivial, ?_⟩
     refine WO.pn 1 rfl ?_
     refine WO.fin ?_
     refine DN.seq ?_
     refine WC.rs [(0, 1), (1, 2), (2, 2), (3, 1), (4, 1), (5, 2)] rfl ?_
     have f116 := f74.stp (S83.tr (S95.tr (S103.tr (S109.tr S114)))) rfl rfl
     refine WO.k1 trivial rfl rfl rfl rfl (rn_la (cs := [.slice a1_0 p1.Next.length u1_0, .slice a1_1 p1.Out.length u1_1]) Try.isAgg37 Try.sizeOf37 rfl rfl rfl (haE f116.cells)) ?_
     refine WO.pn 1 rfl ?_
     refine WO.k2 rfl rfl rfl rfl (rn_fieldAddr Try.runUnderlying41 rfl Try.sizeOf28 rfl rfl) ?_
     have f117 := f75.stp (S83.tr (S95.tr (S103.tr (S109.tr S114)))) rfl rfl
     refine WO.k1 trivial rfl rfl rfl rfl (rn_ld Try.isAgg28 rfl rfl (hvE (f117.ld 1 rfl rfl))) ?_
     obtain ⟨x55, hx55, h⟩ := Option.bind_eq_some_iff.mp h
     have f118 := f76.stp (S83.tr (S95.tr (S103.tr (S109.tr S114)))) rfl rfl
     have f119 := f77.stp (S83.tr (S95.tr (S103.tr (S109.tr S114)))) rfl rfl
     have f120 := g2_1.stp (S3.tr (S7.tr (S11.tr (S15.tr (S25.tr (S42.tr (S57.tr (S63.tr (S72.tr (S83.tr (S95.tr (S103.tr (S109.tr S114))))))))))))) rfl rfl
     refine WO.call rfl rfl rfl rfl rfl rfl Try.call87 (s_l29Behind_ok (κ := fun b => mp [] 0 (K113 b)) (p0 := p1) (Sl.map f118 (mp [] 0) rfl rfl) (Sl.map f119 (mp [] 0) rfl rfl) (Sl.map f120 (mp [] 0) rfl rfl) hx55) ?_
     rintro _ w121 ⟨k122, rfl, e123⟩
     obtain ⟨K124, S125, m126⟩ := Ent.mixed (l := []) (κ := K113) e123 14 rfl
     refine ⟨trivial, ?_⟩
     refine WO.pn 1 rfl ?_
     refine WO.fin ?_
     refine DN.block ?_
     have f128 := f115.stp S125 rfl rfl
     obtain rfl := Option.some.inj h
     refine DN.round fun a ha => ?_
     exact ⟨k, _, Nat.lt_succ_self _, ⟨K124, ((x50 : (List Int)), (x55 : Int)), a50, u50, rfl, (S95.tr (S103.tr (S109.tr (S114.tr S125)))).wk rfl, f128, hk98⟩, (ha.more (ha.more (ha.more (ha.more (ha.more (ha.more ha.nil rfl) rfl) rfl) rfl) rfl) rfl)⟩
    | false =>
     intro h; replace h := cF h
     refine WC.cf rfl ?_
     refine WC.exit ?_
     refine DN.exitThen ?_
     refine DN.exitThen ?_
     obtain rfl := Option.some.inj h
     have h := hk98
     refine DN.hit ?_
     have f129 := f96.stp S103 rfl rfl
     obtain rfl := Option.some.inj h
     exact DN.meet _ ⟨K102, ((s1.1 : (List Int)), (s1.2 : Int)), las1_0, lus1_0, rfl, (S95.tr S103).wk rfl, f129, rfl⟩ fun a ha => (ha.more (ha.more (ha.more (ha.more (ha.more (ha.more ha.nil rfl) rfl) rfl) rfl) rfl) rfl)
  rintro _ w89 ⟨K90, s3, las3_0, lus3_0, rfl, S91, f92, rfl⟩
  have h := hK87
  dsimp only [aft] at h
  refine DN.seq ?_
  refine WC.seq ?_
  refine WC.rs [(0, 2), (1, 2), (2, 1), (3, 2)] rfl ?_
  refine WO.pn 2 rfl ?_
  obtain ⟨x58, hx58, h⟩ := Option.bind_eq_some_iff.mp h
  refine WO.call rfl rfl rfl rfl rfl rfl Try.call88 (s_l1Place_ok (κ := fun b => mp [] 0 (K90 b)) (Sl.map f92.rdc (mp [] 0) rfl rfl) hx58) ?_
  rintro _ w130 ⟨k131, rfl, e132⟩
  obtain ⟨K133, S134, m135⟩ := Ent.mixed (l := []) (κ := K90) e132 11 rfl
  refine ⟨trivial, ?_⟩
  refine WO.pn 1 rfl ?_
  refine WO.fin ?_
  refine DN.seq ?_
  refine WC.seq ?_
  refine WC.rs [(0, 1), (1, 1), (2, 2), (3, 1), (4, 1), (5, 2), (6, 1), (7, 1)] rfl ?_
  have f137 := f17.stp (S25.tr (S42.tr (S57.tr (S63.tr (S72.tr (S83.tr (S91.tr S134))))))) rfl rfl
  refine WO.k1 trivial rfl rfl rfl rfl (rn_la (cs := [.int .i64 p0.In, .int .i64 p0.Out]) Try.isAgg35 Try.sizeOf35 rfl rfl rfl (haE f137.cells)) ?_
  have f138 := f74.stp (S83.tr (S91.tr S134)) rfl rfl
  refine WO.k1 trivial rfl rfl rfl rfl (rn_la (cs := [.slice a1_0 p1.Next.length u1_0, .slice a1_1 p1.Out.length u1_1]) Try.isAgg37 Try.sizeOf37 rfl rfl rfl (haE f138.cells)) ?_
  refine WO.k2 rfl rfl rfl rfl (rn_fieldAddr Try.runUnderlying41 rfl Try.sizeOf28 rfl rfl) ?_
  have f139 := f75.stp (S83.tr (S91.tr S134)) rfl rfl
  refine WO.k1 trivial rfl rfl rfl rfl (rn_ld Try.isAgg28 rfl rfl (hvE (f139.ld 0 rfl rfl))) ?_
  obtain ⟨x63, hx63, h⟩ := Option.bind_eq_some_iff.mp h
  have f140 := f76.stp (S83.tr (S91.tr S134)) rfl rfl
  have f141 := f77.stp (S83.tr (S91.tr S134)) rfl rfl
  have f142 := f78.stp (S83.tr (S91.tr S134)) rfl rfl
  refine WO.call rfl rfl rfl rfl rfl rfl Try.call89 (s_l29Letters_ok (κ := fun b => mp [] 0 (K133 b)) (p0 := p0) (p1 := p1) (Sl.map f140 (mp [] 0) rfl rfl) (Sl.map f141 (mp [] 0) rfl rfl) (Sl.map f142 (mp [] 0) rfl rfl) hx63) ?_
  rintro _ w143 ⟨k144, a63_0, u63_0, rfl, e145, f146⟩
  obtain ⟨K147, S148, m149⟩ := Ent.mixed (l := []) (κ := K133) e145 13 rfl
  refine ⟨trivial, ?_⟩
  have f151 := f146.mx (no_int _) m149 rfl (rfl : 13 + 2 = 15)
  refine WO.k2 rfl rfl rfl rfl (rn_build (parts := [(0, .tmp 63)]) (cells := [.slice a63_0 x63.length u63_0, .slice none 0 0]) rfl rfl (by kernel_rfl)) ?_
  refine WO.alloc (κ := K147) 16 rfl rfl rfl rfl rfl Try.zeroValue41 rfl fun b10 w152 K153 S154 f155 => ⟨trivial, ?_⟩
  refine WO.stB0 (κ := K153) 16 (vc := [.slice a63_0 x63.length u63_0, .slice none 0 0]) rfl rfl rfl rfl rfl rfl rfl Try.sizeOf41 rfl rfl f155 rfl fun w156 S157 f158 => ⟨trivial, ?_⟩
  refine WO.fin ?_
  refine DN.seq ?_
  refine WC.seq ?_
  refine WC.seq ?_
  refine WC.rs [(0, 2)] rfl ?_
  refine WO.pn 1 rfl ?_
  refine WO.fin ?_
  refine DN.seq ?_
  have hN159 : (s3.1.length : Int) ≤ 9223372036854775807 := f92.len_le
  obtain ⟨q5, hq161, hK160⟩ := Option.bind_eq_some_iff.mp h
  clear h
  refine WC.meet (fun L w' => ∃ (κ' : Col) (s6 : (List Int) × (List Int)) (las6_0 : Option Addr) (lus6_0 : Nat) (las6_1 : Option Addr) (lus6_1 : Nat), L = [(6, .pointer (some ⟨b6, 0, none⟩)), (10, .pointer (some ⟨b10, 0, none⟩))] ∧ Stp [15, 16, 17] K153 w156 κ' w' ∧ Oc (Ep.int .i64) 2 κ' w' 15 las6_0 lus6_0 s6.1 ∧ Oc (Ep.int .i64) 2 κ' w' 17 las6_1 lus6_1 s6.2 ∧ Bc κ' w' 16 b10 41 [.slice las6_0 s6.1.length lus6_0, .slice las6_1 s6.2.length lus6_1] ∧ q5 = Sum.inr s6) ?_ ?_
  ·
   refine WC.block ?_
   have f174 := f151.stp (S154.tr S157) rfl rfl
   refine WC.loop (fun k L w' => ∃ (κ' : Col) (v11 : Int) (s4 : (List Int) × (List Int)) (las4_0 : Option Addr) (lus4_0 : Nat) (las4_1 : Option Addr) (lus4_1 : Nat), L = [(3, .pointer (some ⟨b3, 0, none⟩)), (4, .pointer (some ⟨b4, 0, none⟩)), (5, .pointer (some ⟨b5, 0, none⟩)), (6, .pointer (some ⟨b6, 0, none⟩)), (7, .slice las3_0 s3.1.length lus3_0), (9, .int .i64 x58), (10, .pointer (some ⟨b10, 0, none⟩)), (11, .int .i64 v11)] ∧ Stp [15, 16, 17] K153 w156 κ' w' ∧ Oc (Ep.int .i64) 2 κ' w' 15 las4_0 lus4_0 s4.1 ∧ Oc (Ep.int .i64) 2 κ' w' 17 las4_1 lus4_1 s4.2 ∧ Bc κ' w' 16 b10 41 [.slice las4_0 s4.1.length lus4_0, .slice las4_1 s4.2.length lus4_1] ∧ 0 ≤ v11 ∧ Int.toNat ((s3.1.length : Int) - v11) = k ∧ cntM (s_RunWord_b2 p0 p1 p2 s3 x58) k v11 s4 = some q5) ⟨_, _, ⟨K153, 0, ((x63 : (List Int)), (([] : List Int) : (List Int))), a63_0, u63_0, none, 0, rfl, (Stp.refl _ _).wk rfl, f174, Ow.nil, f158, (by decide), (by simp), hq161⟩, fun a ha => (ha.more (ha.more (ha.more (ha.more (ha.more (ha.more (ha.more (ha.more ha.nil rfl) rfl) rfl) rfl) rfl) rfl) rfl) rfl)⟩ ?_
   rintro k _ w168 ⟨K169, v11, s4, las4_0, lus4_0, las4_1, lus4_1, rfl, S170, f171, f172, f173, hj159, hJ159, h⟩
   rcases k with _ | k
   ·
    have hk175 := h; obtain ⟨o159, h⟩ := ex_eq (Sum.inr (Sum.inl s4) : Word ⊕ (((List Int) × (List Int)) ⊕ ((List Int) × (List Int))))
    have hc159 : decide (v11 < (s3.1.length : Int)) = false := decide_eq_false (by omega)
    refine WC.seq ?_
    refine WC.seq ?_
    refine WC.rs [(0, 2), (1, 2), (2, 2), (3, 2)] rfl ?_
    refine WO.pn 2 rfl ?_
    refine WO.k2 rfl rfl rfl rfl (rn_len Try.runUnderlying28 rfl rfl) ?_
    refine WO.pn 1 rfl ?_
    refine WO.fin ?_
    refine DN.seq ?_
    refine WC.cf' rfl hc159 ?_
    refine WC.exit ?_
    refine DN.exitThen ?_
    refine DN.exitThen ?_
    obtain rfl := Option.some.inj h
    have h := hk175
    refine DN.hit ?_
    obtain rfl := Option.some.inj h
    exact DN.meet _ ⟨K169, ((s4.1 : (List Int)), (s4.2 : (List Int))), las4_0, lus4_0, las4_1, lus4_1, rfl, S170.wk rfl, f171, f172, f173, rfl⟩ fun a ha => (ha.more (ha.more ha.nil rfl) rfl)
   ·
    obtain ⟨o159, h, hk175⟩ := Option.bind_eq_some_iff.mp h; unfold s_RunWord_b2 at h
    have hc159 : decide (v11 < (s3.1.length : Int)) = true := decide_eq_true (by omega)
    refine WC.seq ?_
    refine WC.seq ?_
    refine WC.rs [(0, 2), (1, 2), (2, 2), (3, 2)] rfl ?_
    refine WO.pn 2 rfl ?_
    refine WO.k2 rfl rfl rfl rfl (rn_len Try.runUnderlying28 rfl rfl) ?_
    refine WO.pn 1 rfl ?_
    refine WO.fin ?_
    refine DN.seq ?_
    refine WC.ct' rfl hc159 ?_
    refine WC.skip ?_
    refine DN.seq ?_
    refine WC.seq ?_
    refine WC.block ?_
    refine WC.seq ?_
    refine WC.rx (κ := K169) [0, 2, 3, 4, 8] none [(2, 2), (3, 2), (4, 2), (6, 2), (0, 0), (1, 0), (5, 0), (7, 0), (8, 1), (9, 2)] [] (by kernel_rfl) (by kernel_rfl) fun w177 S176 => ?_
    refine WO.pn 2 rfl ?_
    obtain ⟨x75, hx75, h⟩ := Option.bind_eq_some_iff.mp h
    refine WO.k2 rfl rfl rfl rfl (rn_index f92.rdc hx75 Try.runUnderlying28 Try.sizeOf2 rfl rfl rfl rfl) ?_
    refine WO.k2 rfl rfl rfl rfl (rn_fieldAddr Try.runUnderlying41 rfl Try.sizeOf28 rfl rfl) ?_
    have f178 := f137.stp (S148.tr (S154.tr (S157.tr (S170.tr S176)))) rfl rfl
    refine WO.k0 rfl rfl rfl rfl (rn_la (cs := [.int .i64 p0.In, .int .i64 p0.Out]) Try.isAgg35 Try.sizeOf35 rfl rfl rfl (haC f178.cells rfl)) ?_
    have f179 := f138.stp (S148.tr (S154.tr (S157.tr (S170.tr S176)))) rfl rfl
    refine WO.k0 rfl rfl rfl rfl (rn_la (cs := [.slice a1_0 p1.Next.length u1_0, .slice a1_1 p1.Out.length u1_1]) Try.isAgg37 Try.sizeOf37 rfl rfl rfl (haC f179.cells rfl)) ?_
    have f180 := f92.stp (S134.tr (S148.tr (S154.tr (S157.tr (S170.tr S176))))) rfl rfl
    refine WO.k0 rfl rfl rfl rfl (rn_ld Try.isAgg2 rfl rfl (hvC (f180.rdc.gInt hx75) rfl)) ?_
    have f181 := f139.stp (S148.tr (S154.tr (S157.tr (S170.tr S176)))) rfl rfl
    refine WO.k0 rfl rfl rfl rfl (rn_ld Try.isAgg28 rfl rfl (hvC (f181.ld 1 rfl rfl) rfl)) ?_
    obtain ⟨x79, hx79, h⟩ := Option.bind_eq_some_iff.mp h
    have f182 := f140.stp (S148.tr (S154.tr (S157.tr (S170.tr S176)))) rfl rfl
    have f183 := f141.stp (S148.tr (S154.tr (S157.tr (S170.tr S176)))) rfl rfl
    have f184 := g2_1.stp (S3.tr (S7.tr (S11.tr (S15.tr (S25.tr (S42.tr (S57.tr (S63.tr (S72.tr (S83.tr (S91.tr (S134.tr (S148.tr (S154.tr (S157.tr (S170.tr S176)))))))))))))))) rfl rfl
    refine WO.call rfl rfl rfl rfl rfl rfl Try.call89 (s_l29Letters_ok (κ := fun b => mp [] 0 (K169 b)) (p0 := p0) (p1 := p1) (Sl.map f182 (mp [] 0) rfl rfl) (Sl.map f183 (mp [] 0) rfl rfl) (Sl.map f184 (mp [] 0) rfl rfl) hx79) ?_
    rintro _ w185 ⟨k186, a79_0, u79_0, rfl, e187, f188⟩
    obtain ⟨K189, S190, m191⟩ := Ent.mixed (l := []) (κ := K169) e187 18 rfl
    refine ⟨(S190.cl rfl), ?_⟩
    have f193 := f188.mx (no_int _) m191 rfl (rfl : 18 + 2 = 20)
    refine WO.pn 1 rfl ?_
    refine WO.nx ?_
    refine WO.fin ?_
    refine DN.seq ?_
    refine WC.seq ?_
    refine WC.rs [(0, 2), (1, 2), (2, 2)] rfl ?_
    refine WO.pn 3 rfl ?_
    refine WO.fin ?_
    refine DN.seq ?_
    obtain ⟨q7, h, hK194⟩ := Option.bind_eq_some_iff.mp h
    refine WC.meet (fun L w' => ∃ (κ' : Col) (laq7_0 : Option Addr) (luq7_0 : Nat) (laq7_1 : Option Addr) (luq7_1 : Nat), L = [(3, .pointer (some ⟨b3, 0, none⟩)), (4, .pointer (some ⟨b4, 0, none⟩)), (5, .pointer (some ⟨b5, 0, none⟩)), (6, .pointer (some ⟨b6, 0, none⟩)), (7, .slice las3_0 s3.1.length lus3_0), (9, .int .i64 x58), (10, .pointer (some ⟨b10, 0, none⟩)), (11, .int .i64 v11)] ∧ Stp [15, 16, 17] K189 w185 κ' w' ∧ Oc (Ep.int .i64) 2 κ' w' 15 laq7_0 luq7_0 q7.1 ∧ Oc (Ep.int .i64) 2 κ' w' 17 laq7_1 luq7_1 q7.2 ∧ Bc κ' w' 16 b10 41 [.slice laq7_0 q7.1.length luq7_0, .slice laq7_1 q7.2.length luq7_1]) ?_ ?_
    ·
     revert h
     cases ht201 : decide (v11 < x58) with
     | true =>
      intro h; replace h := cT h
      refine WC.ct rfl ?_
      refine WC.rs [(0, 2), (1, 1), (2, 2), (3, 1), (4, 2), (5, 1)] rfl ?_
      refine WO.k2 rfl rfl rfl rfl (rn_fieldAddr Try.runUnderlying41 rfl Try.sizeOf28 rfl rfl) ?_
      have f202 := f173.stp (S176.tr S190) rfl rfl
      refine WO.k1 trivial rfl rfl rfl rfl (rn_ld Try.isAgg28 rfl rfl (hvE (f202.ld 0 rfl rfl))) ?_
      refine WO.pn 1 rfl ?_
      obtain ⟨x86, hx86, h⟩ := Option.bind_eq_some_iff.mp h
      have f203 := f171.stp (S176.tr S190) rfl rfl
      refine WO.app (κ := K189) (E := (Ep.int .i64)) 15 [] rfl rfl rfl rfl rfl rfl rfl rfl rfl Try.underlying28 Tryinfo2 rfl rfl rfl rfl f203 (Sl.srcP (pu_int _) f193.rdc) sy_false hx86 rfl fun a86 u86 w204 K205 S206 f207 => ⟨trivial, ?_⟩
      refine WO.k2 rfl rfl rfl rfl (rn_fieldAddr Try.runUnderlying41 rfl Try.sizeOf28 rfl rfl) ?_
      have f208 := f202.stp S206 rfl rfl
      refine WO.stB (κ := K205) 16 (off := 0) (vc := [.slice a86 x86.length u86]) (cs' := [.slice a86 x86.length u86, .slice las4_1 s4.2.length lus4_1]) rfl rfl rfl rfl rfl rfl rfl Try.sizeOf28 rfl rfl f208 rfl rfl fun w209 S210 f211 => ⟨trivial, ?_⟩
      refine WO.fin ?_
      have f212 := f207.stp S210 rfl rfl
      have f213 := f172.stp (S176.tr (S190.tr (S206.tr S210))) rfl rfl
      obtain rfl := Option.some.inj h
      exact DN.meet _ ⟨K205, a86, u86, las4_1, lus4_1, rfl, (S206.tr S210).wk rfl, f212, f213, f211⟩ fun a ha => (ha.more (ha.more (ha.more (ha.more (ha.more (ha.more (ha.more (ha.more ha.nil rfl) rfl) rfl) rfl) rfl) rfl) rfl) rfl)
     | false =>
      intro h; replace h := cF h
      refine WC.cf rfl ?_
      refine WC.rs [(0, 2), (1, 1), (2, 2), (3, 1), (4, 2), (5, 1)] rfl ?_
      refine WO.k2 rfl rfl rfl rfl (rn_fieldAddr Try.runUnderlying41 rfl Try.sizeOf28 rfl rfl) ?_
      have f214 := f173.stp (S176.tr S190) rfl rfl
      refine WO.k1 trivial rfl rfl rfl rfl (rn_ld Try.isAgg28 rfl rfl (hvE (f214.ld 1 rfl rfl))) ?_
      refine WO.pn 1 rfl ?_
      obtain ⟨x91, hx91, h⟩ := Option.bind_eq_some_iff.mp h
      have f215 := f172.stp (S176.tr S190) rfl rfl
      refine WO.app (κ := K189) (E := (Ep.int .i64)) 17 [] rfl rfl rfl rfl rfl rfl rfl rfl rfl Try.underlying28 Tryinfo2 rfl rfl rfl rfl f215 (Sl.srcP (pu_int _) f193.rdc) sy_false hx91 rfl fun a91 u91 w216 K217 S218 f219 => ⟨trivial, ?_⟩
      refine WO.k2 rfl rfl rfl rfl (rn_fieldAddr Try.runUnderlying41 rfl Try.sizeOf28 rfl rfl) ?_
      have f220 := f214.stp S218 rfl rfl
      refine WO.stB (κ := K217) 16 (off := 1) (vc := [.slice a91 x91.length u91]) (cs' := [.slice las4_0 s4.1.length lus4_0, .slice a91 x91.length u91]) rfl rfl rfl rfl rfl rfl rfl Try.sizeOf28 rfl rfl f220 rfl rfl fun w221 S222 f223 => ⟨trivial, ?_⟩
      refine WO.fin ?_
      have f224 := f171.stp (S176.tr (S190.tr (S218.tr S222))) rfl rfl
      have f225 := f219.stp S222 rfl rfl
      obtain rfl := Option.some.inj h
      exact DN.meet _ ⟨K217, las4_0, lus4_0, a91, u91, rfl, (S218.tr S222).wk rfl, f224, f225, f223⟩ fun a ha => (ha.more (ha.more (ha.more (ha.more (ha.more (ha.more (ha.more (ha.more ha.nil rfl) rfl) rfl) rfl) rfl) rfl) rfl) rfl)
    rintro _ w195 ⟨K196, laq7_0, luq7_0, laq7_1, luq7_1, rfl, S197, f198, f199, f200⟩
    have h := hK194
    refine DN.block ?_
    refine DN.seq ?_
    refine WC.rs [(0, 2), (1, 2), (2, 2)] rfl ?_
    refine WO.pn 3 rfl ?_
    refine WO.fin ?_
    have hw159 : IntKind.wrap .i64 (v11 + 1) = v11 + 1 := wr1 hj159 (of_decide_eq_true hc159) hN159
    rw [hw159]
    have hc159 := of_decide_eq_true hc159
    obtain rfl := Option.some.inj h
    refine DN.round fun a ha => ?_
    exact ⟨k, _, Nat.lt_succ_self _, ⟨K196, v11 + 1, ((q7.1 : (List Int)), (q7.2 : (List Int))), laq7_0, luq7_0, laq7_1, luq7_1, rfl, (S170.tr (S176.tr (S190.tr S197))).wk rfl, f198, f199, f200, by omega, by omega, hk175⟩, (ha.more (ha.more (ha.more (ha.more (ha.more (ha.more (ha.more (ha.more ha.nil rfl) rfl) rfl) rfl) rfl) rfl) rfl) rfl)⟩
  rintro _ w162 ⟨K163, s6, las6_0, lus6_0, las6_1, lus6_1, rfl, S164, f165, f166, f167, rfl⟩
  have h := hK160
  dsimp only [aft] at h
  refine DN.seq ?_
  refine WC.seq ?_
  refine WC.seq ?_
  refine WC.rs [(0, 2), (1, 1), (2, 2), (3, 2), (4, 2), (5, 2), (6, 1), (7, 2), (8, 2), (9, 2)] rfl ?_
  refine WO.k2 rfl rfl rfl rfl (rn_fieldAddr Try.runUnderlying41 rfl Try.sizeOf28 rfl rfl) ?_
  refine WO.k1 trivial rfl rfl rfl rfl (rn_ld Try.isAgg28 rfl rfl (hvE (f167.ld 0 rfl rfl))) ?_
  refine WO.k2 rfl rfl rfl rfl (rn_len Try.runUnderlying28 rfl rfl) ?_
  refine WO.pn 2 rfl ?_
  obtain ⟨p102, h, hK226⟩ := Option.bind_eq_some_iff.mp h
  refine WO.meet [(5, 2), (6, 1), (7, 2), (8, 2), (9, 2)] [] (fun L w' => L = [(6, .pointer (some ⟨b6, 0, none⟩)), (10, .pointer (some ⟨b10, 0, none⟩)), (102, .bool p102)] ∧ ∃ κ', Stp [] K163 w162 κ' w') trivial ?_ ?_
  ·
   revert h
   cases ht227 : decide (600 < (s6.1.length : Int)) with
   | true =>
    intro h; replace h := cT h
    refine WO.pn 1 rfl ?_
    refine WO.ls rfl rfl rfl rfl ?_
    refine WO.pn 3 rfl ?_
    obtain rfl := Option.some.inj h
    exact WO.met _ trivial ⟨rfl, _, (Stp.refl _ _).wk rfl⟩ fun a ha => (ha.more (ha.more (ha.more ha.nil rfl) rfl) rfl)
   | false =>
    intro h; replace h := cF h
    refine WO.k2 rfl rfl rfl rfl (rn_fieldAddr Try.runUnderlying41 rfl Try.sizeOf28 rfl rfl) ?_
    refine WO.k1 trivial rfl rfl rfl rfl (rn_ld Try.isAgg28 rfl rfl (hvE (f167.ld 1 rfl rfl))) ?_
    refine WO.k2 rfl rfl rfl rfl (rn_len Try.runUnderlying28 rfl rfl) ?_
    refine WO.pn 2 rfl ?_
    obtain rfl := Option.some.inj h
    exact WO.met _ trivial ⟨rfl, _, (Stp.refl _ _).wk rfl⟩ fun a ha => (ha.more (ha.more (ha.more ha.nil rfl) rfl) rfl)
  rintro _ w228 _ ⟨rfl, K229, S230⟩
  have h := hK226
  refine WO.fin ?_
  refine DN.seq ?_
  revert h
  cases ht231 : p102 with
  | true =>
   intro h; replace h := cT h
   refine WC.ct rfl ?_
   refine WC.seq ?_
   refine WC.rs [(0, 2), (1, 1)] rfl ?_
   refine WO.k2 rfl rfl rfl rfl (rn_build (parts := []) (cells := [.slice none 0 0, .slice none 0 0]) rfl rfl (by kernel_rfl)) ?_
   have f232 := f16.stp (S25.tr (S42.tr (S57.tr (S63.tr (S72.tr (S83.tr (S91.tr (S134.tr (S148.tr (S154.tr (S157.tr (S164.tr S230)))))))))))) rfl rfl
   refine WO.stB0 (κ := K229) 5 (vc := [.slice none 0 0, .slice none 0 0]) rfl rfl rfl rfl rfl rfl rfl Try.sizeOf41 rfl rfl f232 rfl fun w233 S234 f235 => ⟨trivial, ?_⟩
   refine WO.fin ?_
   refine DN.seq ?_
   refine WC.ret ?_
   refine DN.retThen ?_
   have f236 := hE.stp (S3.tr (S7.tr (S11.tr (S15.tr (S25.tr (S42.tr (S57.tr (S63.tr (S72.tr (S83.tr (S91.tr (S134.tr (S148.tr (S154.tr (S157.tr (S164.tr (S230.tr S234))))))))))))))))) rfl rfl
   refine DN.res (l := [.cell 6 41]) Try.results50 (res_cellA rfl f235 Try.isAgg41 Try.sizeOf41 rfl rfl) rfl ?_
   obtain rfl := Option.some.inj h
   exact ⟨K229, none, 0, none, 0, rfl, f236, Ow.nil, Ow.nil⟩
  | false =>
   intro h; replace h := cF h
   refine WC.cf rfl ?_
   refine WC.skip ?_
   refine DN.seq ?_
   refine WC.seq ?_
   refine WC.rs [(0, 1), (1, 1)] rfl ?_
   have f237 := f167.stp S230 rfl rfl
   refine WO.k1 trivial rfl rfl rfl rfl (rn_la (cs := [.slice las6_0 s6.1.length lus6_0, .slice las6_1 s6.2.length lus6_1]) Try.isAgg41 Try.sizeOf41 rfl rfl rfl (haE f237.cells)) ?_
   have f238 := f16.stp (S25.tr (S42.tr (S57.tr (S63.tr (S72.tr (S83.tr (S91.tr (S134.tr (S148.tr (S154.tr (S157.tr (S164.tr S230)))))))))))) rfl rfl
   refine WO.stB0 (κ := K229) 5 (vc := [.slice las6_0 s6.1.length lus6_0, .slice las6_1 s6.2.length lus6_1]) rfl rfl rfl rfl rfl rfl rfl Try.sizeOf41 rfl rfl f238 rfl fun w239 S240 f241 => ⟨trivial, ?_⟩
   refine WO.fin ?_
   refine DN.seq ?_
   refine WC.ret ?_
   have f242 := hE.stp (S3.tr (S7.tr (S11.tr (S15.tr (S25.tr (S42.tr (S57.tr (S63.tr (S72.tr (S83.tr (S91.tr (S134.tr (S148.tr (S154.tr (S157.tr (S164.tr (S230.tr S240))))))))))))))))) rfl rfl
   have f243 := f165.stp (S230.tr S240) rfl rfl
   have f244 := f166.stp (S230.tr S240) rfl rfl
   refine DN.res (l := [.cell 6 41]) Try.results50 (res_cellA rfl f241 Try.isAgg41 Try.sizeOf41 rfl rfl) rfl ?_
   obtain rfl := Option.some.inj h
   exact ⟨(fun b => ren [(15, 2), (17, 3)] (K229 b)), las6_0, lus6_0, las6_1, lus6_1, rfl, (f242.map (ren [(15, 2), (17, 3)]) rfl rfl), (f243.map (ren [(15, 2), (17, 3)]) rfl rfl), (f244.map (ren [(15, 2), (17, 3)]) rfl rfl)⟩

/- loop.example/g00869/spec.ClauseOk -/
theorem s_ClauseOk_ok {w : World} {κ : Col} {p0 : Sig} {a1_1 : Option Addr} {u1_1 : Nat} {a1_2 : Option Addr} {u1_2 : Nat} {p1 : Clause} (g1_1 : Rd (Rp.int .i64) κ w 0 a1_1 u1_1 p1.A) (g1_2 : Rd (Rp.int .i64) κ w 0 a1_2 u1_2 p1.B) {r : Bool} (h : s_ClauseOk p0 p1 = some r) : Ret Try.prog 138 [.agg #[.int .i64 p0.In, .int .i64 p0.Out], .agg #[.int .i64 p1.Kind, .slice a1_1 p1.A.length u1_1, .slice a1_2 p1.B.length u1_2]] w (fun v w' => ∃ (κ' : Col), v = .bool r ∧ Ent κ w κ' w') := by
 unfold s_ClauseOk at h
 refine Ret.enter Try.func138 rfl Try.ntmps138 rfl ?_
 dsimp only [envOf]
 have hE := Ent.refl κ w
 refine WC.seq ?_
 refine WC.rs [(0, 1), (1, 1), (2, 2)] rfl ?_
 refine WO.box (κ := κ) 2 rfl rfl rfl rfl rfl rfl rfl fun b2 w1 K2 S3 f4 => ⟨trivial, ?_⟩
 refine WO.box (κ := K2) 3 rfl rfl rfl rfl rfl rfl rfl fun b3 w5 K6 S7 f8 => ⟨trivial, ?_⟩
 refine WO.pn 1 rfl ?_
 refine WO.fin ?_
 refine DN.seq ?_
 refine WC.seq ?_
 refine WC.seq ?_
 refine WC.rs [(0, 1), (1, 1), (2, 2), (3, 2), (4, 2), (5, 1), (6, 1), (7, 2), (8, 2)] rfl ?_
 have f9 := f4.stp S7 rfl rfl
 refine WO.k1 trivial rfl rfl rfl rfl (rn_la (cs := [.int .i64 p0.In, .int .i64 p0.Out]) Try.isAgg35 Try.sizeOf35 rfl rfl rfl (haE f9.cells)) ?_
 obtain ⟨x7, hx7, h⟩ := Option.bind_eq_some_iff.mp h
 refine WO.call rfl rfl rfl rfl rfl rfl Try.call95 (s_SigOk_ok (κ := fun b => mp [] 0 (K6 b)) (p0 := p0) hx7) ?_
 rintro _ w10 ⟨k11, rfl, e12⟩
 obtain ⟨K13, S14, m15⟩ := Ent.mixed (l := []) (κ := K6) e12 4 rfl
 refine ⟨trivial, ?_⟩
 refine WO.pn 2 rfl ?_
 obtain ⟨p14, h, hK17⟩ := Option.bind_eq_some_iff.mp h
 refine WO.meet [(4, 2), (5, 1), (6, 1), (7, 2), (8, 2)] [] (fun L w' => L = [(2, .pointer (some ⟨b2, 0, none⟩)), (3, .pointer (some ⟨b3, 0, none⟩)), (14, .bool p14)] ∧ ∃ κ', Stp [] K13 w10 κ' w') trivial ?_ ?_
 ·
  revert h
  cases ht18 : (!x7) with
  | true =>
   intro h; replace h := cT h
   refine WO.pn 1 rfl ?_
   refine WO.ls rfl rfl rfl rfl ?_
   refine WO.ls rfl rfl rfl rfl ?_
   refine WO.pn 2 rfl ?_
   obtain rfl := Option.some.inj h
   exact WO.met _ trivial ⟨rfl, _, (Stp.refl _ _).wk rfl⟩ fun a ha => (ha.more (ha.more (ha.more ha.nil rfl) rfl) rfl)
  | false =>
   intro h; replace h := cF h
   refine WO.k2 rfl rfl rfl rfl (rn_fieldAddr Try.runUnderlying99 rfl Try.sizeOf2 rfl rfl) ?_
   have f19 := f8.stp S14 rfl rfl
   refine WO.k1 trivial rfl rfl rfl rfl (rn_ld Try.isAgg2 rfl rfl (hvE (f19.ld 0 rfl rfl))) ?_
   obtain ⟨x12, hx12, h⟩ := Option.bind_eq_some_iff.mp h
   refine WO.call rfl rfl rfl rfl rfl rfl Try.call96 (s_l1In_ok (κ := fun b => mp [] 0 (K13 b)) hx12) ?_
   rintro _ w20 ⟨k21, rfl, e22⟩
   obtain ⟨K23, S24, m25⟩ := Ent.mixed (l := []) (κ := K13) e22 6 rfl
   refine ⟨trivial, ?_⟩
   refine WO.pn 2 rfl ?_
   obtain rfl := Option.some.inj h
   exact WO.met _ trivial ⟨rfl, _, S24.wk rfl⟩ fun a ha => (ha.more (ha.more (ha.more ha.nil rfl) rfl) rfl)
 rintro _ w27 _ ⟨rfl, K28, S29⟩
 have h := hK17
 refine WO.fin ?_
 refine DN.seq ?_
 revert h
 cases ht30 : p14 with
 | true =>
  intro h; replace h := cT h
  refine WC.ct rfl ?_
  refine WC.seq ?_
  refine WC.rs [(0, 2)] rfl ?_
  refine WO.pn 1 rfl ?_
  refine WO.fin ?_
  refine DN.seq ?_
  refine WC.ret ?_
  refine DN.retThen ?_
  have f31 := hE.stp (S3.tr (S7.tr (S14.tr S29))) rfl rfl
  refine DN.res (l := [.tmp 4]) Try.results138 (res_tmp rfl rfl) rfl ?_
  obtain rfl := Option.some.inj h
  exact ⟨K28, rfl, f31⟩
 | false =>
  intro h; replace h := cF h
  refine WC.cf rfl ?_
  refine WC.skip ?_
  refine DN.seq ?_
  refine WC.seq ?_
  refine WC.rs [(0, 1), (1, 1), (2, 2)] rfl ?_
  have f32 := f9.stp (S14.tr S29) rfl rfl
  refine WO.k1 trivial rfl rfl rfl rfl (rn_la (cs := [.int .i64 p0.In, .int .i64 p0.Out]) Try.isAgg35 Try.sizeOf35 rfl rfl rfl (haE f32.cells)) ?_
  obtain ⟨x16, hx16, h⟩ := Option.bind_eq_some_iff.mp h
  refine WO.call rfl rfl rfl rfl rfl rfl Try.call100 (s_LettersOf_ok (κ := fun b => mp [] 0 (K28 b)) (p0 := p0) hx16) ?_
  rintro _ w33 ⟨k34, rfl, e35⟩
  obtain ⟨K36, S37, m38⟩ := Ent.mixed (l := []) (κ := K28) e35 6 rfl
  refine ⟨trivial, ?_⟩
  refine WO.pn 1 rfl ?_
  refine WO.fin ?_
  refine DN.seq ?_
  refine WC.seq ?_
  refine WC.rs [(0, 2), (1, 1), (2, 2), (3, 1), (4, 2), (5, 2), (6, 1), (7, 2), (8, 1), (9, 2), (10, 2), (11, 2), (12, 1), (13, 1), (14, 2), (15, 2), (16, 1), (17, 2), (18, 2), (19, 2), (20, 2), (21, 2)] rfl ?_
  refine WO.k2 rfl rfl rfl rfl (rn_fieldAddr Try.runUnderlying99 rfl Try.sizeOf28 rfl rfl) ?_
  have f40 := f8.stp (S14.tr (S29.tr S37)) rfl rfl
  refine WO.k1 trivial rfl rfl rfl rfl (rn_ld Try.isAgg28 rfl rfl (hvE (f40.ld 1 rfl rfl))) ?_
  refine WO.pn 1 rfl ?_
  obtain ⟨x20, hx20, h⟩ := Option.bind_eq_some_iff.mp h
  have f41 := g1_1.stp (S3.tr (S7.tr (S14.tr (S29.tr S37)))) rfl rfl
  refine WO.call rfl rfl rfl rfl rfl rfl Try.call136 (s_l1Set_ok (κ := fun b => mp [] 0 (K36 b)) (Sl.map f41 (mp [] 0) rfl rfl) hx20) ?_
  rintro _ w42 ⟨k43, rfl, e44⟩
  obtain ⟨K45, S46, m47⟩ := Ent.mixed (l := []) (κ := K36) e44 8 rfl
  refine ⟨trivial, ?_⟩
  refine WO.pn 1 rfl ?_
  obtain ⟨p26, h, hK49⟩ := Option.bind_eq_some_iff.mp h
  refine WO.meet [(5, 2), (6, 1), (7, 2), (8, 1), (9, 2)] [(10, 2), (11, 2), (12, 1), (13, 1), (14, 2), (15, 2), (16, 1), (17, 2), (18, 2), (19, 2), (20, 2), (21, 2)] (fun L w' => L = [(3, .pointer (some ⟨b3, 0, none⟩)), (26, .bool p26)] ∧ ∃ κ', Stp [] K45 w42 κ' w') trivial ?_ ?_
  ·
   revert h
   cases ht50 : x20 with
   | true =>
    intro h; replace h := cT h
    refine WO.k2 rfl rfl rfl rfl (rn_fieldAddr Try.runUnderlying99 rfl Try.sizeOf28 rfl rfl) ?_
    have f51 := f40.stp S46 rfl rfl
    refine WO.k1 trivial rfl rfl rfl rfl (rn_ld Try.isAgg28 rfl rfl (hvE (f51.ld 2 rfl rfl))) ?_
    refine WO.pn 1 rfl ?_
    obtain ⟨x25, hx25, h⟩ := Option.bind_eq_some_iff.mp h
    have f52 := g1_2.stp (S3.tr (S7.tr (S14.tr (S29.tr (S37.tr S46))))) rfl rfl
    refine WO.call rfl rfl rfl rfl rfl rfl Try.call136 (s_l1Set_ok (κ := fun b => mp [] 0 (K45 b)) (Sl.map f52 (mp [] 0) rfl rfl) hx25) ?_
    rintro _ w53 ⟨k54, rfl, e55⟩
    obtain ⟨K56, S57, m58⟩ := Ent.mixed (l := []) (κ := K45) e55 10 rfl
    refine ⟨trivial, ?_⟩
    refine WO.pn 1 rfl ?_
    obtain rfl := Option.some.inj h
    exact WO.met _ trivial ⟨rfl, _, S57.wk rfl⟩ fun a ha => (ha.more (ha.more ha.nil rfl) rfl)
   | false =>
    intro h; replace h := cF h
    refine WO.pn 1 rfl ?_
    refine WO.ls rfl rfl rfl rfl ?_
    refine WO.pn 1 rfl ?_
    refine WO.ls rfl rfl rfl rfl ?_
    refine WO.pn 1 rfl ?_
    obtain rfl := Option.some.inj h
    exact WO.met _ trivial ⟨rfl, _, (Stp.refl _ _).wk rfl⟩ fun a ha => (ha.more (ha.more ha.nil rfl) rfl)
  rintro _ w60 _ ⟨rfl, K61, S62⟩
  have h := hK49
  refine WO.pn 1 rfl ?_
  obtain ⟨p37, h, hK63⟩ := Option.bind_eq_some_iff.mp h
  refine WO.meet [(11, 2), (12, 1), (13, 1), (14, 2), (15, 2), (16, 1), (17, 2), (18, 2), (19, 2), (20, 2)] [(21, 2)] (fun L w' => L = [(37, .bool p37)] ∧ ∃ κ', Stp [] K61 w60 κ' w') trivial ?_ ?_
  ·
   revert h
   cases ht64 : p26 with
   | true =>
    intro h; replace h := cT h
    refine WO.k2 rfl rfl rfl rfl (rn_fieldAddr Try.runUnderlying99 rfl Try.sizeOf2 rfl rfl) ?_
    have f65 := f40.stp (S46.tr S62) rfl rfl
    refine WO.k1 trivial rfl rfl rfl rfl (rn_ld Try.isAgg2 rfl rfl (hvE (f65.ld 0 rfl rfl))) ?_
    obtain ⟨x30, hx30, h⟩ := Option.bind_eq_some_iff.mp h
    refine WO.call rfl rfl rfl rfl rfl rfl Try.call156 (s_l24Both_ok (κ := fun b => mp [] 0 (K61 b)) hx30) ?_
    rintro _ w66 ⟨k67, rfl, e68⟩
    obtain ⟨K69, S70, m71⟩ := Ent.mixed (l := []) (κ := K61) e68 10 rfl
    refine ⟨trivial, ?_⟩
    refine WO.pn 1 rfl ?_
    obtain ⟨p36, h, hK73⟩ := Option.bind_eq_some_iff.mp h
    refine WO.meet [(15, 2), (16, 1), (17, 2), (18, 2), (19, 2)] [(20, 2)] (fun L w' => L = [(27, .bool true), (36, .bool p36)] ∧ ∃ κ', Stp [] K69 w66 κ' w') trivial ?_ ?_
    ·
     revert h
     cases ht74 : x30 with
     | true =>
      intro h; replace h := cT h
      refine WO.pn 1 rfl ?_
      refine WO.ls rfl rfl rfl rfl ?_
      refine WO.pn 3 rfl ?_
      obtain rfl := Option.some.inj h
      exact WO.met _ trivial ⟨rfl, _, (Stp.refl _ _).wk rfl⟩ fun a ha => (ha.more (ha.more ha.nil rfl) rfl)
     | false =>
      intro h; replace h := cF h
      refine WO.k2 rfl rfl rfl rfl (rn_fieldAddr Try.runUnderlying99 rfl Try.sizeOf28 rfl rfl) ?_
      have f75 := f65.stp S70 rfl rfl
      refine WO.k1 trivial rfl rfl rfl rfl (rn_ld Try.isAgg28 rfl rfl (hvE (f75.ld 2 rfl rfl))) ?_
      refine WO.k2 rfl rfl rfl rfl (rn_len Try.runUnderlying28 rfl rfl) ?_
      refine WO.pn 2 rfl ?_
      obtain rfl := Option.some.inj h
      exact WO.met _ trivial ⟨rfl, _, (Stp.refl _ _).wk rfl⟩ fun a ha => (ha.more (ha.more ha.nil rfl) rfl)
    rintro _ w76 _ ⟨rfl, K77, S78⟩
    have h := hK73
    refine WO.pn 1 rfl ?_
    obtain rfl := Option.some.inj h
    exact WO.met _ trivial ⟨rfl, _, (S70.tr S78).wk rfl⟩ fun a ha => (ha.more ha.nil rfl)
   | false =>
    intro h; replace h := cF h
    refine WO.pn 1 rfl ?_
    refine WO.ls rfl rfl rfl rfl ?_
    refine WO.ls rfl rfl rfl rfl ?_
    refine WO.pn 2 rfl ?_
    refine WO.ls rfl rfl rfl rfl ?_
    refine WO.pn 4 rfl ?_
    obtain rfl := Option.some.inj h
    exact WO.met _ trivial ⟨rfl, _, (Stp.refl _ _).wk rfl⟩ fun a ha => (ha.more ha.nil rfl)
  rintro _ w79 _ ⟨rfl, K80, S81⟩
  have h := hK63
  refine WO.pn 1 rfl ?_
  refine WO.fin ?_
  refine DN.seq ?_
  refine WC.ret ?_
  have f82 := hE.stp (S3.tr (S7.tr (S14.tr (S29.tr (S37.tr (S46.tr (S62.tr S81))))))) rfl rfl
  refine DN.res (l := [.tmp 4]) Try.results138 (res_tmp rfl rfl) rfl ?_
  obtain rfl := Option.some.inj h
  exact ⟨K80, rfl, f82⟩

/- loop.example/g00869/spec.WordOk -/
theorem s_WordOk_ok {w : World} {κ : Col} {p0 : Sig} {a1_0 : Option Addr} {u1_0 : Nat} {a1_1 : Option Addr} {u1_1 : Nat} {p1 : Word} (g1_0 : Rd (Rp.int .i64) κ w 0 a1_0 u1_0 p1.Stem) (g1_1 : Rd (Rp.int .i64) κ w 0 a1_1 u1_1 p1.Loop) {r : Bool} (h : s_WordOk p0 p1 = some r) : Ret Try.prog 121 [.agg #[.int .i64 p0.In, .int .i64 p0.Out], .agg #[.slice a1_0 p1.Stem.length u1_0, .slice a1_1 p1.Loop.length u1_1]] w (fun v w' => ∃ (κ' : Col), v = .bool r ∧ Ent κ w κ' w') := by
 unfold s_WordOk at h
 refine Ret.enter Try.func121 rfl Try.ntmps121 rfl ?_
 dsimp only [envOf]
 have hE := Ent.refl κ w
 refine WC.seq ?_
 refine WC.rs [(0, 1), (1, 1), (2, 2)] rfl ?_
 refine WO.box (κ := κ) 2 rfl rfl rfl rfl rfl rfl rfl fun b2 w1 K2 S3 f4 => ⟨trivial, ?_⟩
 refine WO.box (κ := K2) 3 rfl rfl rfl rfl rfl rfl rfl fun b3 w5 K6 S7 f8 => ⟨trivial, ?_⟩
 refine WO.pn 1 rfl ?_
 refine WO.fin ?_
 refine DN.seq ?_
 refine WC.seq ?_
 refine WC.rx (κ := K6) [2, 3] none [(0, 0), (1, 1), (2, 2), (3, 0), (4, 0), (5, 1), (6, 1), (7, 2), (8, 2)] [] (by kernel_rfl) (by kernel_rfl) fun w10 S9 => ?_
 have f11 := f4.stp (S7.tr S9) rfl rfl
 refine WO.k0 rfl rfl rfl rfl (rn_la (cs := [.int .i64 p0.In, .int .i64 p0.Out]) Try.isAgg35 Try.sizeOf35 rfl rfl rfl (haC f11.cells rfl)) ?_
 obtain ⟨x6, hx6, h⟩ := Option.bind_eq_some_iff.mp h
 refine WO.call rfl rfl rfl rfl rfl rfl Try.call95 (s_SigOk_ok (κ := fun b => mp [] 0 (K6 b)) (p0 := p0) hx6) ?_
 rintro _ w12 ⟨k13, rfl, e14⟩
 obtain ⟨K15, S16, m17⟩ := Ent.mixed (l := []) (κ := K6) e14 4 rfl
 refine ⟨(S16.cl rfl), ?_⟩
 refine WO.pn 1 rfl ?_
 obtain ⟨p12, h, hK19⟩ := Option.bind_eq_some_iff.mp h
 refine WO.meet [(3, 0), (4, 0), (5, 1), (6, 1), (7, 2)] [(8, 2)] (fun L w' => L = [(4, .bool false), (12, .bool p12)] ∧ ∃ κ', Stp [] K15 w12 κ' w') (S16.cl rfl) ?_ ?_
 ·
  revert h
  cases ht20 : x6 with
  | true =>
   intro h; replace h := cT h
   have f21 := f8.stp S9 rfl rfl
   refine WO.k0 rfl rfl rfl rfl (rn_la (cs := [.slice a1_0 p1.Stem.length u1_0, .slice a1_1 p1.Loop.length u1_1]) Try.isAgg41 Try.sizeOf41 rfl rfl rfl (haC f21.cells rfl)) ?_
   refine WO.k0 rfl rfl rfl rfl (rn_la (cs := [.int .i64 p0.In, .int .i64 p0.Out]) Try.isAgg35 Try.sizeOf35 rfl rfl rfl (haC f11.cells rfl)) ?_
   obtain ⟨x10, hx10, h⟩ := Option.bind_eq_some_iff.mp h
   refine WO.call rfl rfl rfl rfl rfl rfl Try.call100 (s_LettersOf_ok (κ := fun b => mp [] 0 (K15 b)) (p0 := p0) hx10) ?_
   rintro _ w22 ⟨k23, rfl, e24⟩
   obtain ⟨K25, S26, m27⟩ := Ent.mixed (l := []) (κ := K15) e24 6 rfl
   refine ⟨((S16.tr S26).cl rfl), ?_⟩
   obtain ⟨x11, hx11, h⟩ := Option.bind_eq_some_iff.mp h
   have f29 := g1_0.stp (S3.tr (S7.tr (S9.tr (S16.tr S26)))) rfl rfl
   have f30 := g1_1.stp (S3.tr (S7.tr (S9.tr (S16.tr S26)))) rfl rfl
   refine WO.call rfl rfl rfl rfl rfl rfl Try.call139 (s_l23Word_ok (κ := fun b => mp [] 0 (K25 b)) (p0 := p1) (Sl.map f29 (mp [] 0) rfl rfl) (Sl.map f30 (mp [] 0) rfl rfl) hx11) ?_
   rintro _ w31 ⟨k32, rfl, e33⟩
   obtain ⟨K34, S35, m36⟩ := Ent.mixed (l := []) (κ := K25) e33 8 rfl
   refine ⟨((S16.tr (S26.tr S35)).cl rfl), ?_⟩
   refine WO.pn 1 rfl ?_
   obtain rfl := Option.some.inj h
   exact WO.met _ ((S16.tr (S26.tr S35)).cl rfl) ⟨rfl, _, (S26.tr S35).wk rfl⟩ fun a ha => (ha.more (ha.more ha.nil rfl) rfl)
  | false =>
   intro h; replace h := cF h
   refine WO.qs rfl rfl rfl rfl ?_
   refine WO.qs rfl rfl rfl rfl ?_
   refine WO.ls rfl rfl rfl rfl ?_
   refine WO.ls rfl rfl rfl rfl ?_
   refine WO.pn 1 rfl ?_
   obtain rfl := Option.some.inj h
   exact WO.met _ (S16.cl rfl) ⟨rfl, _, (Stp.refl _ _).wk rfl⟩ fun a ha => (ha.more (ha.more ha.nil rfl) rfl)
 rintro _ w38 _ ⟨rfl, K39, S40⟩
 have h := hK19
 refine WO.pn 1 rfl ?_
 refine WO.nx ?_
 refine WO.fin ?_
 refine DN.seq ?_
 refine WC.ret ?_
 have f41 := hE.stp (S3.tr (S7.tr (S9.tr (S16.tr S40)))) rfl rfl
 refine DN.res (l := [.tmp 4]) Try.results121 (res_tmp rfl rfl) rfl ?_
 obtain rfl := Option.some.inj h
 exact ⟨K39, rfl, f41⟩

/- loop.example/g00869/impl.areLetters -/
theorem i_areLetters_ok {w : World} {κ : Col} {a0 : Option Addr} {u0 : Nat} {p0 : (List Int)} {p1 : Int} (g0 : Rd (Rp.int .i64) κ w 0 a0 u0 p0) {r : Bool} (h : i_areLetters p0 p1 = some r) : Ret Try.prog 105 [.slice a0 p0.length u0, .int .i64 p1] w (fun v w' => ∃ (κ' : Col), v = .bool r ∧ Ent κ w κ' w') := by
 unfold i_areLetters at h
 refine Ret.enter Try.func105 rfl Try.ntmps105 rfl ?_
 dsimp only [envOf]
 have hE := Ent.refl κ w
 refine WC.seq ?_
 refine WC.rs [(0, 1), (1, 2)] rfl ?_
 refine WO.box (κ := κ) 2 rfl rfl rfl rfl rfl rfl rfl fun b3 w1 K2 S3 f4 => ⟨trivial, ?_⟩
 refine WO.pn 1 rfl ?_
 refine WO.fin ?_
 refine DN.seq ?_
 refine WC.seq ?_
 refine WC.rs [(0, 2), (1, 2), (2, 1), (3, 2), (4, 2)] rfl ?_
 refine WO.pn 1 rfl ?_
 refine WO.k2 rfl rfl rfl rfl (rn_makeFunc (first := []) (captured := [.tmp 3]) rfl rfl rfl ⟨_, rfl⟩) ?_
 obtain ⟨x7, hx7, h⟩ := Option.bind_eq_some_iff.mp h
 have f5 := g0.stp S3 rfl rfl
 refine WO.call rfl rfl rfl rfl rfl rfl Try.call130 (slices_ContainsFunc_I_int64__i_areLetters_1_ok (κ := fun b => mp [] 0 (K2 b)) (Sl.map f5 (mp [] 0) rfl rfl) (f4.map (mp [] 0) rfl rfl) hx7) ?_
 rintro _ w6 ⟨k7, rfl, e8⟩
 obtain ⟨K9, S10, m11⟩ := Ent.mixed (l := []) (κ := K2) e8 3 rfl
 refine ⟨trivial, ?_⟩
 refine WO.pn 2 rfl ?_
 refine WO.fin ?_
 refine DN.seq ?_
 refine WC.ret ?_
 have f13 := hE.stp (S3.tr S10) rfl rfl
 refine DN.res (l := [.tmp 4]) Try.results105 (res_tmp rfl rfl) rfl ?_
 obtain rfl := Option.some.inj h
 exact ⟨K9, rfl, f13⟩

/- slices.IndexFunc[[]loop.example/g00869/impl.Clause,loop.example/g00869/impl.Clause] -/
theorem slices_IndexFunc_i_Clause_i_Clause__i_areClauses_1_ok {w : World} {κ : Col} {a0 : Option Addr} {u0 : Nat} {p0 : (List Clause)} {c1_0 : Sig} {b1_0 : Nat} (g0 : Rd Clause.rp κ w 0 a0 u0 p0) (gb1_0 : Bc κ w 0 b1_0 35 [.int .i64 c1_0.In, .int .i64 c1_0.Out]) {r : Int} (h : slices_IndexFunc_i_Clause_i_Clause__i_areClauses_1 p0 c1_0 = some r) : Ret Try.prog 126 [.slice a0 p0.length u0, .func (.func 145) #[] #[.pointer (some ⟨b1_0, 0, none⟩)]] w (fun v w' => ∃ (κ' : Col), v = .int .i64 r ∧ Ent κ w κ' w') := by
 unfold slices_IndexFunc_i_Clause_i_Clause__i_areClauses_1 at h
 refine Ret.enter Try.func126 rfl Try.ntmps126 rfl ?_
 dsimp only [envOf]
 have hE := Ent.refl κ w
 refine WC.seq ?_
 refine WC.rs [(0, 2)] rfl ?_
 refine WO.pn 1 rfl ?_
 refine WO.fin ?_
 refine DN.seq ?_
 refine WC.seq ?_
 refine WC.seq ?_
 refine WC.rs [(0, 2), (1, 2), (2, 2)] rfl ?_
 refine WO.pn 1 rfl ?_
 refine WO.k2 rfl rfl rfl rfl (rn_len Try.runUnderlying39 rfl rfl) ?_
 refine WO.pn 1 rfl ?_
 refine WO.fin ?_
 refine DN.seq ?_
 have hN1 : (p0.length : Int) ≤ 9223372036854775807 := g0.len_le
 obtain ⟨q2, hq3, hK2⟩ := Option.bind_eq_some_iff.mp h
 clear h
 refine WC.meet (fun L w' => ∃ (κ' : Col), L = [(1, .func (.func 145) #[] #[.pointer (some ⟨b1_0, 0, none⟩)])] ∧ Stp [] κ w κ' w' ∧ q2 = Sum.inr ()) ?_ ?_
 ·
  refine WC.block ?_
  refine WC.loop (fun k L w' => ∃ (κ' : Col) (v8 : Int), L = [(0, .slice a0 p0.length u0), (1, .func (.func 145) #[] #[.pointer (some ⟨b1_0, 0, none⟩)]), (7, .int .i64 (p0.length : Int)), (8, .int .i64 v8)] ∧ Stp [] κ w κ' w' ∧ 0 ≤ v8 ∧ Int.toNat ((p0.length : Int) - v8) = k ∧ cntM (slices_IndexFunc_i_Clause_i_Clause__i_areClauses_1_b0 p0 c1_0) k v8 () = some q2) ⟨_, _, ⟨κ, 0, rfl, (Stp.refl _ _).wk rfl, (by decide), (by simp), hq3⟩, fun a ha => (ha.more (ha.more (ha.more (ha.more ha.nil rfl) rfl) rfl) rfl)⟩ ?_
  rintro k _ w7 ⟨K8, v8, rfl, S9, hj1, hJ1, h⟩
  rcases k with _ | k
  ·
   have hk10 := h; obtain ⟨o1, h⟩ := ex_eq (Sum.inr (Sum.inl ()) : Int ⊕ ((Unit) ⊕ (Unit)))
   have hc1 : decide (v8 < (p0.length : Int)) = false := decide_eq_false (by omega)
   refine WC.seq ?_
   refine WC.rs [(0, 2)] rfl ?_
   refine WO.pn 1 rfl ?_
   refine WO.fin ?_
   refine DN.seq ?_
   refine WC.seq ?_
   refine WC.cf' rfl hc1 ?_
   refine WC.exit ?_
   refine DN.exitThen ?_
   refine DN.exitThen ?_
   obtain rfl := Option.some.inj h
   have h := hk10
   refine DN.hit ?_
   obtain rfl := Option.some.inj h
   exact DN.meet _ ⟨K8, rfl, S9.wk rfl, rfl⟩ fun a ha => (ha.more ha.nil rfl)
  ·
   obtain ⟨o1, h, hk10⟩ := Option.bind_eq_some_iff.mp h; unfold slices_IndexFunc_i_Clause_i_Clause__i_areClauses_1_b0 at h
   have hc1 : decide (v8 < (p0.length : Int)) = true := decide_eq_true (by omega)
   refine WC.seq ?_
   refine WC.rs [(0, 2)] rfl ?_
   refine WO.pn 1 rfl ?_
   refine WO.fin ?_
   refine DN.seq ?_
   refine WC.seq ?_
   refine WC.ct' rfl hc1 ?_
   refine WC.skip ?_
   refine DN.seq ?_
   refine WC.seq ?_
   refine WC.block ?_
   refine WC.seq ?_
   refine WC.rs [(0, 2), (1, 2)] rfl ?_
   refine WO.pn 2 rfl ?_
   refine WO.fin ?_
   refine DN.seq ?_
   refine WC.seq ?_
   refine WC.rs [(0, 2), (1, 2), (2, 2), (3, 2), (4, 1), (5, 1)] rfl ?_
   refine WO.pn 3 rfl ?_
   obtain ⟨x14, hx14, h⟩ := Option.bind_eq_some_iff.mp h
   refine WO.k2 rfl rfl rfl rfl (rn_index g0 hx14 Try.runUnderlying39 Try.sizeOf99 rfl rfl rfl rfl) ?_
   have f11 := g0.stp S9 rfl rfl
   obtain ⟨cse12, hre12, hle12⟩ := (f11).gSt hx14
   obtain ⟨ae12_0, ue12_0, ae12_1, ue12_1, rfl, fe12_0, fe12_1⟩ := Clause.un hre12
   refine WO.k1 trivial rfl rfl rfl rfl (rn_la (cs := [.int .i64 x14.Kind, .slice ae12_0 x14.A.length ue12_0, .slice ae12_1 x14.B.length ue12_1]) Try.isAgg99 Try.sizeOf99 rfl rfl rfl (haE hle12)) ?_
   obtain ⟨x16, hx16, h⟩ := Option.bind_eq_some_iff.mp h
   have f13 := gb1_0.stp S9 rfl rfl
   refine WO.callV rfl rfl rfl rfl rfl rfl rfl rfl Try.call145 (i_areClauses_1_ok (κ := fun b => mp [] 0 (K8 b)) (p0 := x14) (c0 := c1_0) (Sl.map fe12_0 (mp [] 0) rfl rfl) (Sl.map fe12_1 (mp [] 0) rfl rfl) (f13.map (mp [] 0) rfl rfl) hx16) ?_
   rintro _ w14 ⟨k15, rfl, e16⟩
   obtain ⟨K17, S18, m19⟩ := Ent.mixed (l := []) (κ := K8) e16 2 rfl
   refine ⟨trivial, ?_⟩
   refine WO.fin ?_
   refine DN.seq ?_
   revert h
   cases ht21 : x16 with
   | true =>
    intro h; replace h := cT h
    refine WC.ct rfl ?_
    refine WC.seq ?_
    refine WC.rs [(0, 2), (1, 2)] rfl ?_
    refine WO.pn 2 rfl ?_
    refine WO.fin ?_
    refine DN.seq ?_
    refine WC.ret ?_
    refine DN.retBlock ?_
    refine DN.retThen ?_
    refine DN.retThen ?_
    obtain rfl := Option.some.inj h
    obtain rfl := Option.some.inj hk10
    have h := hK2
    dsimp only [aft] at h
    refine DN.retBlock ?_
    refine DN.retMeet ?_
    refine DN.retThen ?_
    have f22 := hE.stp (S9.tr S18) rfl rfl
    refine DN.res (l := [.tmp 4]) Try.results126 (res_tmp rfl rfl) rfl ?_
    obtain rfl := Option.some.inj h
    exact ⟨K17, rfl, f22⟩
   | false =>
    intro h; replace h := cF h
    refine WC.cf rfl ?_
    refine WC.skip ?_
    refine DN.block ?_
    refine DN.seq ?_
    refine WC.rs [(0, 2), (1, 2)] rfl ?_
    refine WO.pn 2 rfl ?_
    refine WO.fin ?_
    have hw1 : IntKind.wrap .i64 (v8 + 1) = v8 + 1 := wr1 hj1 (of_decide_eq_true hc1) hN1
    rw [hw1]
    have hc1 := of_decide_eq_true hc1
    obtain rfl := Option.some.inj h
    refine DN.round fun a ha => ?_
    exact ⟨k, _, Nat.lt_succ_self _, ⟨K17, v8 + 1, rfl, (S9.tr S18).wk rfl, by omega, by omega, hk10⟩, (ha.more (ha.more (ha.more (ha.more ha.nil rfl) rfl) rfl) rfl)⟩
 rintro _ w4 ⟨K5, rfl, S6, rfl⟩
 have h := hK2
 dsimp only [aft] at h
 refine DN.seq ?_
 refine WC.seq ?_
 refine WC.rs [(0, 2)] rfl ?_
 refine WO.pn 1 rfl ?_
 refine WO.fin ?_
 refine DN.seq ?_
 refine WC.ret ?_
 have f23 := hE.stp S6 rfl rfl
 refine DN.res (l := [.tmp 4]) Try.results126 (res_tmp rfl rfl) rfl ?_
 obtain rfl := Option.some.inj h
 exact ⟨K5, rfl, f23⟩

/- loop.example/g00869/impl.holdsOn$3 -/
theorem i_holdsOn_3__i_holdsOn_1_ok {w : World} {κ : Col} {p0 : Int} {a1_0_1 : Option Addr} {u1_0_1 : Nat} {a1_0_2 : Option Addr} {u1_0_2 : Nat} {c1_0 : Clause} {b1 : Nat} {b1_0 : Nat} (g1_0_1 : Rd (Rp.int .i64) κ w 0 a1_0_1 u1_0_1 c1_0.A) (g1_0_2 : Rd (Rp.int .i64) κ w 0 a1_0_2 u1_0_2 c1_0.B) (gb1 : Bc κ w 0 b1 156 [.func (.func 147) #[] #[.pointer (some ⟨b1_0, 0, none⟩)]]) (gb1_0 : Bc κ w 0 b1_0 99 [.int .i64 c1_0.Kind, .slice a1_0_1 c1_0.A.length u1_0_1, .slice a1_0_2 c1_0.B.length u1_0_2]) {r : Bool} (h : i_holdsOn_3__i_holdsOn_1 p0 c1_0 = some r) : Ret Try.prog 149 [.int .i64 p0, .pointer (some ⟨b1, 0, none⟩)] w (fun v w' => ∃ (κ' : Col), v = .bool r ∧ Ent κ w κ' w') := by
 unfold i_holdsOn_3__i_holdsOn_1 at h
 refine Ret.enter Try.func149 rfl Try.ntmps149 rfl ?_
 dsimp only [envOf]
 have hE := Ent.refl κ w
 refine WC.seq ?_
 refine WC.rs [(0, 2)] rfl ?_
 refine WO.pn 1 rfl ?_
 refine WO.fin ?_
 refine DN.seq ?_
 refine WC.seq ?_
 refine WC.rs [(0, 1), (1, 2), (2, 1), (3, 2), (4, 2)] rfl ?_
 refine WO.k1 trivial rfl rfl rfl rfl (rn_ld Try.isAgg156 rfl rfl (hvE (gb1.ld 0 rfl rfl))) ?_
 refine WO.pn 1 rfl ?_
 obtain ⟨x6, hx6, h⟩ := Option.bind_eq_some_iff.mp h
 refine WO.callV rfl rfl rfl rfl rfl rfl rfl rfl Try.call147 (i_holdsOn_1_ok (κ := fun b => mp [] 0 (κ b)) (c0 := c1_0) (Sl.map g1_0_1 (mp [] 0) rfl rfl) (Sl.map g1_0_2 (mp [] 0) rfl rfl) (gb1_0.map (mp [] 0) rfl rfl) hx6) ?_
 rintro _ w1 ⟨k2, rfl, e3⟩
 obtain ⟨K4, S5, m6⟩ := Ent.mixed (l := []) (κ := κ) e3 2 rfl
 refine ⟨trivial, ?_⟩
 refine WO.pn 2 rfl ?_
 refine WO.fin ?_
 refine DN.seq ?_
 refine WC.ret ?_
 have f8 := hE.stp S5 rfl rfl
 refine DN.res (l := [.tmp 3]) Try.results149 (res_tmp rfl rfl) rfl ?_
 obtain rfl := Option.some.inj h
 exact ⟨K4, rfl, f8⟩

/- slices.IndexFunc[[]int64,int64] -/
theorem slices_IndexFunc_I_int64__i_holdsOn_2_ok {w : World} {κ : Col} {a0 : Option Addr} {u0 : Nat} {p0 : (List Int)} {a1_0_1 : Option Addr} {u1_0_1 : Nat} {a1_0_2 : Option Addr} {u1_0_2 : Nat} {c1_0 : Clause} {b1_0 : Nat} (g0 : Rd (Rp.int .i64) κ w 0 a0 u0 p0) (g1_0_1 : Rd (Rp.int .i64) κ w 0 a1_0_1 u1_0_1 c1_0.A) (g1_0_2 : Rd (Rp.int .i64) κ w 0 a1_0_2 u1_0_2 c1_0.B) (gb1_0 : Bc κ w 0 b1_0 99 [.int .i64 c1_0.Kind, .slice a1_0_1 c1_0.A.length u1_0_1, .slice a1_0_2 c1_0.B.length u1_0_2]) {r : Int} (h : slices_IndexFunc_I_int64__i_holdsOn_2 p0 c1_0 = some r) : Ret Try.prog 150 [.slice a0 p0.length u0, .func (.func 148) #[] #[.pointer (some ⟨b1_0, 0, none⟩)]] w (fun v w' => ∃ (κ' : Col), v = .int .i64 r ∧ Ent κ w κ' w') := by
 unfold slices_IndexFunc_I_int64__i_holdsOn_2 at h
 refine Ret.enter Try.func150 rfl Try.ntmps150 rfl ?_
 dsimp only [envOf]
 have hE := Ent.refl κ w
 refine WC.seq ?_
 refine WC.rs [(0, 2)] rfl ?_
 refine WO.pn 1 rfl ?_
 refine WO.fin ?_
 refine DN.seq ?_
 refine WC.seq ?_
 refine WC.seq ?_
 refine WC.rs [(0, 2), (1, 2), (2, 2)] rfl ?_
 refine WO.pn 1 rfl ?_
 refine WO.k2 rfl rfl rfl rfl (rn_len Try.runUnderlying28 rfl rfl) ?_
 refine WO.pn 1 rfl ?_
 refine WO.fin ?_
 refine DN.seq ?_
 have hN1 : (p0.length : Int) ≤ 9223372036854775807 := g0.len_le
 obtain ⟨q2, hq3, hK2⟩ := Option.bind_eq_some_iff.mp h
 clear h
 refine WC.meet (fun L w' => ∃ (κ' : Col), L = [(1, .func (.func 148) #[] #[.pointer (some ⟨b1_0, 0, none⟩)])] ∧ Stp [] κ w κ' w' ∧ q2 = Sum.inr ()) ?_ ?_
 ·
  refine WC.block ?_
  refine WC.loop (fun k L w' => ∃ (κ' : Col) (v8 : Int), L = [(0, .slice a0 p0.length u0), (1, .func (.func 148) #[] #[.pointer (some ⟨b1_0, 0, none⟩)]), (7, .int .i64 (p0.length : Int)), (8, .int .i64 v8)] ∧ Stp [] κ w κ' w' ∧ 0 ≤ v8 ∧ Int.toNat ((p0.length : Int) - v8) = k ∧ cntM (slices_IndexFunc_I_int64__i_holdsOn_2_b0 p0 c1_0) k v8 () = some q2) ⟨_, _, ⟨κ, 0, rfl, (Stp.refl _ _).wk rfl, (by decide), (by simp), hq3⟩, fun a ha => (ha.more (ha.more (ha.more (ha.more ha.nil rfl) rfl) rfl) rfl)⟩ ?_
  rintro k _ w7 ⟨K8, v8, rfl, S9, hj1, hJ1, h⟩
  rcases k with _ | k
  ·
   have hk10 := h; obtain ⟨o1, h⟩ := ex_eq (Sum.inr (Sum.inl ()) : Int ⊕ ((Unit) ⊕ (Unit)))
   have hc1 : decide (v8 < (p0.length : Int)) = false := decide_eq_false (by omega)
   refine WC.seq ?_
   refine WC.rs [(0, 2)] rfl ?_
   refine WO.pn 1 rfl ?_
   refine WO.fin ?_
   refine DN.seq ?_
   refine WC.seq ?_
   refine WC.cf' rfl hc1 ?_
   refine WC.exit ?_
   refine DN.exitThen ?_
   refine DN.exitThen ?_
   obtain rfl := Option.some.inj h
   have h := hk10
   refine DN.hit ?_
   obtain rfl := Option.some.inj h
   exact DN.meet _ ⟨K8, rfl, S9.wk rfl, rfl⟩ fun a ha => (ha.more ha.nil rfl)
  ·
   obtain ⟨o1, h, hk10⟩ := Option.bind_eq_some_iff.mp h; unfold slices_IndexFunc_I_int64__i_holdsOn_2_b0 at h
   have hc1 : decide (v8 < (p0.length : Int)) = true := decide_eq_true (by omega)
   refine WC.seq ?_
   refine WC.rs [(0, 2)] rfl ?_
   refine WO.pn 1 rfl ?_
   refine WO.fin ?_
   refine DN.seq ?_
   refine WC.seq ?_
   refine WC.ct' rfl hc1 ?_
   refine WC.skip ?_
   refine DN.seq ?_
   refine WC.seq ?_
   refine WC.block ?_
   refine WC.seq ?_
   refine WC.rs [(0, 2), (1, 2)] rfl ?_
   refine WO.pn 2 rfl ?_
   refine WO.fin ?_
   refine DN.seq ?_
   refine WC.seq ?_
   refine WC.rs [(0, 2), (1, 2), (2, 2), (3, 2), (4, 1), (5, 1)] rfl ?_
   refine WO.pn 3 rfl ?_
   obtain ⟨x14, hx14, h⟩ := Option.bind_eq_some_iff.mp h
   refine WO.k2 rfl rfl rfl rfl (rn_index g0 hx14 Try.runUnderlying28 Try.sizeOf2 rfl rfl rfl rfl) ?_
   have f11 := g0.stp S9 rfl rfl
   refine WO.k1 trivial rfl rfl rfl rfl (rn_ld Try.isAgg2 rfl rfl (hvE (f11.gInt hx14))) ?_
   obtain ⟨x16, hx16, h⟩ := Option.bind_eq_some_iff.mp h
   have f12 := g1_0_1.stp S9 rfl rfl
   have f13 := g1_0_2.stp S9 rfl rfl
   have f14 := gb1_0.stp S9 rfl rfl
   refine WO.callV rfl rfl rfl rfl rfl rfl rfl rfl Try.call148 (i_holdsOn_2_ok (κ := fun b => mp [] 0 (K8 b)) (c0 := c1_0) (Sl.map f12 (mp [] 0) rfl rfl) (Sl.map f13 (mp [] 0) rfl rfl) (f14.map (mp [] 0) rfl rfl) hx16) ?_
   rintro _ w15 ⟨k16, rfl, e17⟩
   obtain ⟨K18, S19, m20⟩ := Ent.mixed (l := []) (κ := K8) e17 2 rfl
   refine ⟨trivial, ?_⟩
   refine WO.fin ?_
   refine DN.seq ?_
   revert h
   cases ht22 : x16 with
   | true =>
    intro h; replace h := cT h
    refine WC.ct rfl ?_
    refine WC.seq ?_
    refine WC.rs [(0, 2), (1, 2)] rfl ?_
    refine WO.pn 2 rfl ?_
    refine WO.fin ?_
    refine DN.seq ?_
    refine WC.ret ?_
    refine DN.retBlock ?_
    refine DN.retThen ?_
    refine DN.retThen ?_
    obtain rfl := Option.some.inj h
    obtain rfl := Option.some.inj hk10
    have h := hK2
    dsimp only [aft] at h
    refine DN.retBlock ?_
    refine DN.retMeet ?_
    refine DN.retThen ?_
    have f23 := hE.stp (S9.tr S19) rfl rfl
    refine DN.res (l := [.tmp 4]) Try.results150 (res_tmp rfl rfl) rfl ?_
    obtain rfl := Option.some.inj h
    exact ⟨K18, rfl, f23⟩
   | false =>
    intro h; replace h := cF h
    refine WC.cf rfl ?_
    refine WC.skip ?_
    refine DN.block ?_
    refine DN.seq ?_
    refine WC.rs [(0, 2), (1, 2)] rfl ?_
    refine WO.pn 2 rfl ?_
    refine WO.fin ?_
    have hw1 : IntKind.wrap .i64 (v8 + 1) = v8 + 1 := wr1 hj1 (of_decide_eq_true hc1) hN1
    rw [hw1]
    have hc1 := of_decide_eq_true hc1
    obtain rfl := Option.some.inj h
    refine DN.round fun a ha => ?_
    exact ⟨k, _, Nat.lt_succ_self _, ⟨K18, v8 + 1, rfl, (S9.tr S19).wk rfl, by omega, by omega, hk10⟩, (ha.more (ha.more (ha.more (ha.more ha.nil rfl) rfl) rfl) rfl)⟩
 rintro _ w4 ⟨K5, rfl, S6, rfl⟩
 have h := hK2
 dsimp only [aft] at h
 refine DN.seq ?_
 refine WC.seq ?_
 refine WC.rs [(0, 2)] rfl ?_
 refine WO.pn 1 rfl ?_
 refine WO.fin ?_
 refine DN.seq ?_
 refine WC.ret ?_
 have f24 := hE.stp S6 rfl rfl
 refine DN.res (l := [.tmp 4]) Try.results150 (res_tmp rfl rfl) rfl ?_
 obtain rfl := Option.some.inj h
 exact ⟨K5, rfl, f24⟩

/- slices.IndexFunc[[]int64,int64] -/
theorem slices_IndexFunc_I_int64__i_holdsOn_1_ok {w : World} {κ : Col} {a0 : Option Addr} {u0 : Nat} {p0 : (List Int)} {a1_0_1 : Option Addr} {u1_0_1 : Nat} {a1_0_2 : Option Addr} {u1_0_2 : Nat} {c1_0 : Clause} {b1_0 : Nat} (g0 : Rd (Rp.int .i64) κ w 0 a0 u0 p0) (g1_0_1 : Rd (Rp.int .i64) κ w 0 a1_0_1 u1_0_1 c1_0.A) (g1_0_2 : Rd (Rp.int .i64) κ w 0 a1_0_2 u1_0_2 c1_0.B) (gb1_0 : Bc κ w 0 b1_0 99 [.int .i64 c1_0.Kind, .slice a1_0_1 c1_0.A.length u1_0_1, .slice a1_0_2 c1_0.B.length u1_0_2]) {r : Int} (h : slices_IndexFunc_I_int64__i_holdsOn_1 p0 c1_0 = some r) : Ret Try.prog 150 [.slice a0 p0.length u0, .func (.func 147) #[] #[.pointer (some ⟨b1_0, 0, none⟩)]] w (fun v w' => ∃ (κ' : Col), v = .int .i64 r ∧ Ent κ w κ' w') := by
 unfold slices_IndexFunc_I_int64__i_holdsOn_1 at h
 refine Ret.enter Try.func150 rfl Try.ntmps150 rfl ?_
 dsimp only [envOf]
 have hE := Ent.refl κ w
 refine WC.seq ?_
 refine WC.rs [(0, 2)] rfl ?_
 refine WO.pn 1 rfl ?_
 refine WO.fin ?_
 refine DN.seq ?_
 refine WC.seq ?_
 refine WC.seq ?_
 refine WC.rs [(0, 2), (1, 2), (2, 2)] rfl ?_
 refine WO.pn 1 rfl ?_
 refine WO.k2 rfl rfl rfl rfl (rn_len Try.runUnderlying28 rfl rfl) ?_
 refine WO.pn 1 rfl ?_
 refine WO.fin ?_
 refine DN.seq ?_
 have hN1 : (p0.length : Int) ≤ 9223372036854775807 := g0.len_le
 obtain ⟨q2, hq3, hK2⟩ := Option.bind_eq_some_iff.mp h
 clear h
 refine WC.meet (fun L w' => ∃ (κ' : Col), L = [(1, .func (.func 147) #[] #[.pointer (some ⟨b1_0, 0, none⟩)])] ∧ Stp [] κ w κ' w' ∧ q2 = Sum.inr ()) ?_ ?_
 ·
  refine WC.block ?_
  refine WC.loop (fun k L w' => ∃ (κ' : Col) (v8 : Int), L = [(0, .slice a0 p0.length u0), (1, .func (.func 147) #[] #[.pointer (some ⟨b1_0, 0, none⟩)]), (7, .int .i64 (p0.length : Int)), (8, .int .i64 v8)] ∧ Stp [] κ w κ' w' ∧ 0 ≤ v8 ∧ Int.toNat ((p0.length : Int) - v8) = k ∧ cntM (slices_IndexFunc_I_int64__i_holdsOn_1_b0 p0 c1_0) k v8 () = some q2) ⟨_, _, ⟨κ, 0, rfl, (Stp.refl _ _).wk rfl, (by decide), (by simp), hq3⟩, fun a ha => (ha.more (ha.more (ha.more (ha.more ha.nil rfl) rfl) rfl) rfl)⟩ ?_
  rintro k _ w7 ⟨K8, v8, rfl, S9, hj1, hJ1, h⟩
  rcases k with _ | k
  ·
   have hk10 := h; obtain ⟨o1, h⟩ := ex_eq (Sum.inr (Sum.inl ()) : Int ⊕ ((Unit) ⊕ (Unit)))
   have hc1 : decide (v8 < (p0.length : Int)) = false := decide_eq_false (by omega)
   refine WC.seq ?_
   refine WC.rs [(0, 2)] rfl ?_
   refine WO.pn 1 rfl ?_
   refine WO.fin ?_
   refine DN.seq ?_
   refine WC.seq ?_
   refine WC.cf' rfl hc1 ?_
   refine WC.exit ?_
   refine DN.exitThen ?_
   refine DN.exitThen ?_
   obtain rfl := Option.some.inj h
   have h := hk10
   refine DN.hit ?_
   obtain rfl := Option.some.inj h
   exact DN.meet _ ⟨K8, rfl, S9.wk rfl, rfl⟩ fun a ha => (ha.more ha.nil rfl)
  ·
   obtain ⟨o1, h, hk10⟩ := Option.bind_eq_some_iff.mp h; unfold slices_IndexFunc_I_int64__i_holdsOn_1_b0 at h
   have hc1 : decide (v8 < (p0.length : Int)) = true := decide_eq_true (by omega)
   refine WC.seq ?_
   refine WC.rs [(0, 2)] rfl ?_
   refine WO.pn 1 rfl ?_
   refine WO.fin ?_
   refine DN.seq ?_
   refine WC.seq ?_
   refine WC.ct' rfl hc1 ?_
   refine WC.skip ?_
   refine DN.seq ?_
   refine WC.seq ?_
   refine WC.block ?_
   refine WC.seq ?_
   refine WC.rs [(0, 2), (1, 2)] rfl ?_
   refine WO.pn 2 rfl ?_
   refine WO.fin ?_
   refine DN.seq ?_
   refine WC.seq ?_
   refine WC.rs [(0, 2), (1, 2), (2, 2), (3, 2), (4, 1), (5, 1)] rfl ?_
   refine WO.pn 3 rfl ?_
   obtain ⟨x14, hx14, h⟩ := Option.bind_eq_some_iff.mp h
   refine WO.k2 rfl rfl rfl rfl (rn_index g0 hx14 Try.runUnderlying28 Try.sizeOf2 rfl rfl rfl rfl) ?_
   have f11 := g0.stp S9 rfl rfl
   refine WO.k1 trivial rfl rfl rfl rfl (rn_ld Try.isAgg2 rfl rfl (hvE (f11.gInt hx14))) ?_
   obtain ⟨x16, hx16, h⟩ := Option.bind_eq_some_iff.mp h
   have f12 := g1_0_1.stp S9 rfl rfl
   have f13 := g1_0_2.stp S9 rfl rfl
   have f14 := gb1_0.stp S9 rfl rfl
   refine WO.callV rfl rfl rfl rfl rfl rfl rfl rfl Try.call147 (i_holdsOn_1_ok (κ := fun b => mp [] 0 (K8 b)) (c0 := c1_0) (Sl.map f12 (mp [] 0) rfl rfl) (Sl.map f13 (mp [] 0) rfl rfl) (f14.map (mp [] 0) rfl rfl) hx16) ?_
   rintro _ w15 ⟨k16, rfl, e17⟩
   obtain ⟨K18, S19, m20⟩ := Ent.mixed (l := []) (κ := K8) e17 2 rfl
   refine ⟨trivial, ?_⟩
   refine WO.fin ?_
   refine DN.seq ?_
   revert h
   cases ht22 : x16 with
   | true =>
    intro h; replace h := cT h
    refine WC.ct rfl ?_
    refine WC.seq ?_
    refine WC.rs [(0, 2), (1, 2)] rfl ?_
    refine WO.pn 2 rfl ?_
    refine WO.fin ?_
    refine DN.seq ?_
    refine WC.ret ?_
    refine DN.retBlock ?_
    refine DN.retThen ?_
    refine DN.retThen ?_
    obtain rfl := Option.some.inj h
    obtain rfl := Option.some.inj hk10
    have h := hK2
    dsimp only [aft] at h
    refine DN.retBlock ?_
    refine DN.retMeet ?_
    refine DN.retThen ?_
    have f23 := hE.stp (S9.tr S19) rfl rfl
    refine DN.res (l := [.tmp 4]) Try.results150 (res_tmp rfl rfl) rfl ?_
    obtain rfl := Option.some.inj h
    exact ⟨K18, rfl, f23⟩
   | false =>
    intro h; replace h := cF h
    refine WC.cf rfl ?_
    refine WC.skip ?_
    refine DN.block ?_
    refine DN.seq ?_
    refine WC.rs [(0, 2), (1, 2)] rfl ?_
    refine WO.pn 2 rfl ?_
    refine WO.fin ?_
    have hw1 : IntKind.wrap .i64 (v8 + 1) = v8 + 1 := wr1 hj1 (of_decide_eq_true hc1) hN1
    rw [hw1]
    have hc1 := of_decide_eq_true hc1
    obtain rfl := Option.some.inj h
    refine DN.round fun a ha => ?_
    exact ⟨k, _, Nat.lt_succ_self _, ⟨K18, v8 + 1, rfl, (S9.tr S19).wk rfl, by omega, by omega, hk10⟩, (ha.more (ha.more (ha.more (ha.more ha.nil rfl) rfl) rfl) rfl)⟩
 rintro _ w4 ⟨K5, rfl, S6, rfl⟩
 have h := hK2
 dsimp only [aft] at h
 refine DN.seq ?_
 refine WC.seq ?_
 refine WC.rs [(0, 2)] rfl ?_
 refine WO.pn 1 rfl ?_
 refine WO.fin ?_
 refine DN.seq ?_
 refine WC.ret ?_
 have f24 := hE.stp S6 rfl rfl
 refine DN.res (l := [.tmp 4]) Try.results150 (res_tmp rfl rfl) rfl ?_
 obtain rfl := Option.some.inj h
 exact ⟨K5, rfl, f24⟩

end Go.Proofs.Ytnmjfjppgpkieaa
