/- The walks, part 4. By program. -/
import Derived.Test.YtnmjfjppgpkieaaSort
import Derived.Test.YtnmjfjppgpkieaaShelf
import Derived.Test.YtnmjfjppgpkieaaFnsE3
set_option linter.unusedVariables false
set_option linter.unusedSimpArgs false
namespace Go.Proofs.Ytnmjfjppgpkieaa
open Go Go.Wk Go.Proofs
set_option maxRecDepth 100000
set_option maxHeartbeats 1000000

/- loop.example/g00869/spec.EditOk -/
theorem s_EditOk_ok {w : World} {κ : Col} {a0_0_0 : Option Addr} {u0_0_0 : Nat} {a0_0_1 : Option Addr} {u0_0_1 : Nat} {a0_1 : Option Addr} {u0_1 : Nat} {p0 : Parity} {p1 : Edit} (g0_0_0 : Rd (Rp.int .i64) κ w 0 a0_0_0 u0_0_0 p0.Arena.Owner) (g0_0_1 : Rd (Rp.sl (Rp.int .i64)) κ w 0 a0_0_1 u0_0_1 p0.Arena.Next) (g0_1 : Rd (Rp.int .i64) κ w 0 a0_1 u0_1 p0.Prio) {r : Bool} (h : s_EditOk p0 p1 = some r) : Ret Try.prog 72 [.agg #[.slice a0_0_0 p0.Arena.Owner.length u0_0_0, .slice a0_0_1 p0.Arena.Next.length u0_0_1, .slice a0_1 p0.Prio.length u0_1], .agg #[.int .i64 p1.Kind, .int .i64 p1.V, .int .i64 p1.N]] w (fun v w' => ∃ (κ' : Col), v = .bool r ∧ Ent κ w κ' w') := by
 unfold s_EditOk at h
 refine Ret.enter Try.func72 rfl Try.ntmps72 rfl ?_
 dsimp only [envOf]
 have hE := Ent.refl κ w
 refine WC.seq ?_
 refine WC.rs [(0, 1), (1, 1), (2, 2)] rfl ?_
 refine WO.box (κ := κ) 2 rfl rfl rfl rfl rfl rfl rfl fun b2 w1 K2 S3 f4 => ⟨trivial, ?_⟩
 refine WO.box (κ := K2) 3 rfl rfl rfl rfl rfl rfl rfl fun b3 w5 K6 S7 f8 => ⟨trivial, ?_⟩
 refine WO.pn 1 rfl ?_
 refine WO.fin ?_
 refine DN.seq ?_
 refine WC.seq ?_
 refine WC.rs [(0, 2), (1, 1), (2, 2), (3, 2)] rfl ?_
 refine WO.k2 rfl rfl rfl rfl (rn_fieldAddr Try.runUnderlying74 rfl Try.sizeOf28 rfl rfl) ?_
 have f9 := f4.stp S7 rfl rfl
 refine WO.k1 trivial rfl rfl rfl rfl (rn_ld Try.isAgg28 rfl rfl (hvE (f9.ld 2 rfl rfl))) ?_
 refine WO.k2 rfl rfl rfl rfl (rn_len Try.runUnderlying28 rfl rfl) ?_
 refine WO.pn 1 rfl ?_
 refine WO.fin ?_
 refine DN.seq ?_
 refine WC.seq ?_
 refine WC.seq ?_
 refine WC.rs [(0, 1), (1, 1), (2, 2), (3, 2), (4, 2), (5, 1), (6, 2), (7, 2), (8, 1), (9, 2), (10, 2)] rfl ?_
 refine WO.k1 trivial rfl rfl rfl rfl (rn_la (cs := [.slice a0_0_0 p0.Arena.Owner.length u0_0_0, .slice a0_0_1 p0.Arena.Next.length u0_0_1, .slice a0_1 p0.Prio.length u0_1]) Try.isAgg74 Try.sizeOf74 rfl rfl rfl (haE f9.cells)) ?_
 obtain ⟨x11, hx11, h⟩ := Option.bind_eq_some_iff.mp h
 have f10 := g0_0_0.stp (S3.tr S7) rfl rfl
 have f11 := g0_0_1.stp (S3.tr S7) rfl rfl
 have f12 := g0_1.stp (S3.tr S7) rfl rfl
 refine WO.call rfl rfl rfl rfl rfl rfl Try.call81 (s_ParityOk_ok (κ := fun b => mp [] 0 (K6 b)) (p0 := p0) (Sl.map f10 (mp [] 0) rfl rfl) (Sl.map f11 (mp [] 0) rfl rfl) (Sl.map f12 (mp [] 0) rfl rfl) hx11) ?_
 rintro _ w13 ⟨k14, rfl, e15⟩
 obtain ⟨K16, S17, m18⟩ := Ent.mixed (l := []) (κ := K6) e15 4 rfl
 refine ⟨trivial, ?_⟩
 refine WO.pn 2 rfl ?_
 obtain ⟨p20, h, hK20⟩ := Option.bind_eq_some_iff.mp h
 refine WO.meet [(4, 2), (5, 1), (6, 2), (7, 2), (8, 1), (9, 2), (10, 2)] [] (fun L w' => L = [(2, .pointer (some ⟨b2, 0, none⟩)), (3, .pointer (some ⟨b3, 0, none⟩)), (5, .int .i64 (p0.Prio.length : Int)), (20, .bool p20)] ∧ ∃ κ', Stp [] K16 w13 κ' w') trivial ?_ ?_
 ·
  revert h
  cases ht21 : (!x11) with
  | true =>
   intro h; replace h := cT h
   refine WO.pn 1 rfl ?_
   refine WO.ls rfl rfl rfl rfl ?_
   refine WO.pn 2 rfl ?_
   refine WO.ls rfl rfl rfl rfl ?_
   refine WO.pn 2 rfl ?_
   obtain rfl := Option.some.inj h
   exact WO.met _ trivial ⟨rfl, _, (Stp.refl _ _).wk rfl⟩ fun a ha => (ha.more (ha.more (ha.more (ha.more ha.nil rfl) rfl) rfl) rfl)
  | false =>
   intro h; replace h := cF h
   refine WO.k2 rfl rfl rfl rfl (rn_fieldAddr Try.runUnderlying78 rfl Try.sizeOf2 rfl rfl) ?_
   have f22 := f8.stp S17 rfl rfl
   refine WO.k1 trivial rfl rfl rfl rfl (rn_ld Try.isAgg2 rfl rfl (hvE (f22.ld 1 rfl rfl))) ?_
   refine WO.pn 2 rfl ?_
   obtain ⟨x18, hx18, h⟩ := Option.bind_eq_some_iff.mp h
   refine WO.call rfl rfl rfl rfl rfl rfl Try.call96 (s_l1In_ok (κ := fun b => mp [] 0 (K16 b)) hx18) ?_
   rintro _ w23 ⟨k24, rfl, e25⟩
   obtain ⟨K26, S27, m28⟩ := Ent.mixed (l := []) (κ := K16) e25 6 rfl
   refine ⟨trivial, ?_⟩
   refine WO.pn 2 rfl ?_
   obtain rfl := Option.some.inj h
   exact WO.met _ trivial ⟨rfl, _, S27.wk rfl⟩ fun a ha => (ha.more (ha.more (ha.more (ha.more ha.nil rfl) rfl) rfl) rfl)
 rintro _ w30 _ ⟨rfl, K31, S32⟩
 have h := hK20
 refine WO.fin ?_
 refine DN.seq ?_
 revert h
 cases ht33 : p20 with
 | true =>
  intro h; replace h := cT h
  refine WC.ct rfl ?_
  refine WC.seq ?_
  refine WC.rs [(0, 2)] rfl ?_
  refine WO.pn 1 rfl ?_
  refine WO.fin ?_
  refine DN.seq ?_
  refine WC.ret ?_
  refine DN.retThen ?_
  have f34 := hE.stp (S3.tr (S7.tr (S17.tr S32))) rfl rfl
  refine DN.res (l := [.tmp 4]) Try.results72 (res_tmp rfl rfl) rfl ?_
  obtain rfl := Option.some.inj h
  exact ⟨K31, rfl, f34⟩
 | false =>
  intro h; replace h := cF h
  refine WC.cf rfl ?_
  refine WC.skip ?_
  refine DN.seq ?_
  refine WC.seq ?_
  refine WC.rs [(0, 2), (1, 2), (2, 1), (3, 2), (4, 1), (5, 2), (6, 1), (7, 2)] rfl ?_
  refine WO.k2 rfl rfl rfl rfl (rn_fieldAddr Try.runUnderlying74 rfl Try.sizeOf72 rfl rfl) ?_
  refine WO.k2 rfl rfl rfl rfl (rn_fieldAddr Try.runUnderlying72 rfl Try.sizeOf24 rfl rfl) ?_
  have f35 := f9.stp (S17.tr S32) rfl rfl
  refine WO.k1 trivial rfl rfl rfl rfl (rn_ld Try.isAgg24 rfl rfl (hvE (f35.ld 1 rfl rfl))) ?_
  refine WO.k2 rfl rfl rfl rfl (rn_fieldAddr Try.runUnderlying78 rfl Try.sizeOf2 rfl rfl) ?_
  have f36 := f8.stp (S17.tr S32) rfl rfl
  refine WO.k1 trivial rfl rfl rfl rfl (rn_ld Try.isAgg2 rfl rfl (hvE (f36.ld 1 rfl rfl))) ?_
  obtain ⟨x26, hx26, h⟩ := Option.bind_eq_some_iff.mp h
  refine WO.k2 rfl rfl rfl rfl (rn_index f11 hx26 Try.runUnderlying24 Try.sizeOf28 rfl rfl rfl rfl) ?_
  have f37 := f11.stp (S17.tr S32) rfl rfl
  obtain ⟨ax26, ux26, f38, hl39⟩ := f37.gSl hx26
  refine WO.k1 trivial rfl rfl rfl rfl (rn_ld Try.isAgg28 rfl rfl (hvE hl39)) ?_
  refine WO.pn 1 rfl ?_
  refine WO.fin ?_
  refine DN.seq ?_
  refine WC.seq ?_
  refine WC.seq ?_
  refine WC.rs [(0, 2), (1, 1)] rfl ?_
  refine WO.k2 rfl rfl rfl rfl (rn_fieldAddr Try.runUnderlying78 rfl Try.sizeOf2 rfl rfl) ?_
  refine WO.k1 trivial rfl rfl rfl rfl (rn_ld Try.isAgg2 rfl rfl (hvE (f36.ld 0 rfl rfl))) ?_
  refine WO.fin ?_
  refine DN.seq ?_
  refine WC.block ?_
  refine WC.seq ?_
  refine WC.rs [(0, 2), (1, 2)] rfl ?_
  refine WO.pn 2 rfl ?_
  refine WO.fin ?_
  refine DN.seq ?_
  revert h
  cases ht40 : (p1.Kind == 1) with
  | true =>
   intro h; replace h := cT h
   refine WC.ct rfl ?_
   refine WC.seq ?_
   refine WC.rs [(0, 2), (1, 1), (2, 1), (3, 2)] rfl ?_
   refine WO.k2 rfl rfl rfl rfl (rn_fieldAddr Try.runUnderlying78 rfl Try.sizeOf2 rfl rfl) ?_
   refine WO.k1 trivial rfl rfl rfl rfl (rn_ld Try.isAgg2 rfl rfl (hvE (f36.ld 2 rfl rfl))) ?_
   obtain ⟨x34, hx34, h⟩ := Option.bind_eq_some_iff.mp h
   refine WO.call rfl rfl rfl rfl rfl rfl Try.call96 (s_l1In_ok (κ := fun b => mp [] 0 (K31 b)) hx34) ?_
   rintro _ w41 ⟨k42, rfl, e43⟩
   obtain ⟨K44, S45, m46⟩ := Ent.mixed (l := []) (κ := K31) e43 6 rfl
   refine ⟨trivial, ?_⟩
   refine WO.pn 1 rfl ?_
   refine WO.fin ?_
   refine DN.seq ?_
   refine WC.ret ?_
   refine DN.retBlock ?_
   refine DN.retThen ?_
   have f48 := hE.stp (S3.tr (S7.tr (S17.tr (S32.tr S45)))) rfl rfl
   refine DN.res (l := [.tmp 4]) Try.results72 (res_tmp rfl rfl) rfl ?_
   obtain rfl := Option.some.inj h
   exact ⟨K44, rfl, f48⟩
  | false =>
   intro h; replace h := cF h
   refine WC.cf rfl ?_
   refine WC.seq ?_
   refine WC.rs [(0, 2), (1, 2)] rfl ?_
   refine WO.pn 2 rfl ?_
   refine WO.fin ?_
   refine DN.seq ?_
   revert h
   cases ht49 : (p1.Kind == 2) with
   | true =>
    intro h; replace h := cT h
    refine WC.ct rfl ?_
    refine WC.seq ?_
    refine WC.rs [(0, 2), (1, 1), (2, 1), (3, 2)] rfl ?_
    refine WO.k2 rfl rfl rfl rfl (rn_fieldAddr Try.runUnderlying78 rfl Try.sizeOf2 rfl rfl) ?_
    refine WO.k1 trivial rfl rfl rfl rfl (rn_ld Try.isAgg2 rfl rfl (hvE (f36.ld 2 rfl rfl))) ?_
    obtain ⟨x39, hx39, h⟩ := Option.bind_eq_some_iff.mp h
    refine WO.call rfl rfl rfl rfl rfl rfl Try.call96 (s_l1In_ok (κ := fun b => mp [] 0 (K31 b)) hx39) ?_
    rintro _ w50 ⟨k51, rfl, e52⟩
    obtain ⟨K53, S54, m55⟩ := Ent.mixed (l := []) (κ := K31) e52 6 rfl
    refine ⟨trivial, ?_⟩
    refine WO.pn 1 rfl ?_
    refine WO.fin ?_
    refine DN.seq ?_
    refine WC.ret ?_
    refine DN.retBlock ?_
    refine DN.retThen ?_
    have f57 := hE.stp (S3.tr (S7.tr (S17.tr (S32.tr S54)))) rfl rfl
    refine DN.res (l := [.tmp 4]) Try.results72 (res_tmp rfl rfl) rfl ?_
    obtain rfl := Option.some.inj h
    exact ⟨K53, rfl, f57⟩
   | false =>
    intro h; replace h := cF h
    refine WC.cf rfl ?_
    refine WC.seq ?_
    refine WC.rs [(0, 2), (1, 2)] rfl ?_
    refine WO.pn 2 rfl ?_
    refine WO.fin ?_
    refine DN.seq ?_
    revert h
    cases ht58 : (p1.Kind == 3) with
    | true =>
     intro h; replace h := cT h
     refine WC.ct rfl ?_
     refine WC.seq ?_
     refine WC.rs [(0, 2), (1, 1), (2, 2), (3, 2), (4, 1), (5, 2), (6, 2), (7, 2), (8, 1), (9, 1), (10, 2), (11, 2), (12, 2), (13, 2), (14, 2), (15, 2), (16, 2), (17, 2)] rfl ?_
     refine WO.k2 rfl rfl rfl rfl (rn_fieldAddr Try.runUnderlying78 rfl Try.sizeOf2 rfl rfl) ?_
     refine WO.k1 trivial rfl rfl rfl rfl (rn_ld Try.isAgg2 rfl rfl (hvE (f36.ld 2 rfl rfl))) ?_
     refine WO.pn 2 rfl ?_
     obtain ⟨x46, hx46, h⟩ := Option.bind_eq_some_iff.mp h
     refine WO.call rfl rfl rfl rfl rfl rfl Try.call96 (s_l1In_ok (κ := fun b => mp [] 0 (K31 b)) hx46) ?_
     rintro _ w59 ⟨k60, rfl, e61⟩
     obtain ⟨K62, S63, m64⟩ := Ent.mixed (l := []) (κ := K31) e61 6 rfl
     refine ⟨trivial, ?_⟩
     refine WO.pn 1 rfl ?_
     obtain ⟨p53, h, hK66⟩ := Option.bind_eq_some_iff.mp h
     refine WO.meet [(6, 2), (7, 2), (8, 1), (9, 1), (10, 2), (11, 2)] [(12, 2), (13, 2), (14, 2), (15, 2), (16, 2), (17, 2)] (fun L w' => L = [(6, .slice ax26 x26.length ux26), (53, .bool p53)] ∧ ∃ κ', Stp [] K62 w59 κ' w') trivial ?_ ?_
     ·
      revert h
      cases ht67 : x46 with
      | true =>
       intro h; replace h := cT h
       refine WO.pn 1 rfl ?_
       refine WO.k2 rfl rfl rfl rfl (rn_fieldAddr Try.runUnderlying78 rfl Try.sizeOf2 rfl rfl) ?_
       have f68 := f36.stp S63 rfl rfl
       refine WO.k1 trivial rfl rfl rfl rfl (rn_ld Try.isAgg2 rfl rfl (hvE (f68.ld 2 rfl rfl))) ?_
       obtain ⟨x51, hx51, h⟩ := Option.bind_eq_some_iff.mp h
       have f69 := f38.stp S63 rfl rfl
       refine WO.call rfl rfl rfl rfl rfl rfl Try.call109 (s_l16Has_ok (κ := fun b => mp [] 0 (K62 b)) (Sl.map f69 (mp [] 0) rfl rfl) hx51) ?_
       rintro _ w70 ⟨k71, rfl, e72⟩
       obtain ⟨K73, S74, m75⟩ := Ent.mixed (l := []) (κ := K62) e72 8 rfl
       refine ⟨trivial, ?_⟩
       refine WO.pn 2 rfl ?_
       obtain rfl := Option.some.inj h
       exact WO.met _ trivial ⟨rfl, _, S74.wk rfl⟩ fun a ha => (ha.more (ha.more ha.nil rfl) rfl)
      | false =>
       intro h; replace h := cF h
       refine WO.pn 2 rfl ?_
       refine WO.ls rfl rfl rfl rfl ?_
       refine WO.ls rfl rfl rfl rfl ?_
       refine WO.pn 2 rfl ?_
       obtain rfl := Option.some.inj h
       exact WO.met _ trivial ⟨rfl, _, (Stp.refl _ _).wk rfl⟩ fun a ha => (ha.more (ha.more ha.nil rfl) rfl)
     rintro _ w77 _ ⟨rfl, K78, S79⟩
     have h := hK66
     refine WO.pn 1 rfl ?_
     obtain ⟨p58, h, hK80⟩ := Option.bind_eq_some_iff.mp h
     refine WO.meet [(13, 2), (14, 2), (15, 2), (16, 2)] [(17, 2)] (fun L w' => L = [(58, .bool p58)] ∧ ∃ κ', Stp [] K78 w77 κ' w') trivial ?_ ?_
     ·
      revert h
      cases ht81 : p53 with
      | true =>
       intro h; replace h := cT h
       refine WO.pn 1 rfl ?_
       refine WO.k2 rfl rfl rfl rfl (rn_len Try.runUnderlying28 rfl rfl) ?_
       refine WO.pn 2 rfl ?_
       obtain rfl := Option.some.inj h
       exact WO.met _ trivial ⟨rfl, _, (Stp.refl _ _).wk rfl⟩ fun a ha => (ha.more ha.nil rfl)
      | false =>
       intro h; replace h := cF h
       refine WO.pn 4 rfl ?_
       obtain rfl := Option.some.inj h
       exact WO.met _ trivial ⟨rfl, _, (Stp.refl _ _).wk rfl⟩ fun a ha => (ha.more ha.nil rfl)
     rintro _ w82 _ ⟨rfl, K83, S84⟩
     have h := hK80
     refine WO.pn 1 rfl ?_
     refine WO.fin ?_
     refine DN.seq ?_
     refine WC.ret ?_
     refine DN.retBlock ?_
     refine DN.retThen ?_
     have f85 := hE.stp (S3.tr (S7.tr (S17.tr (S32.tr (S63.tr (S79.tr S84)))))) rfl rfl
     refine DN.res (l := [.tmp 4]) Try.results72 (res_tmp rfl rfl) rfl ?_
     obtain rfl := Option.some.inj h
     exact ⟨K83, rfl, f85⟩
    | false =>
     intro h; replace h := cF h
     refine WC.cf rfl ?_
     refine WC.seq ?_
     refine WC.rs [(0, 2), (1, 2)] rfl ?_
     refine WO.pn 2 rfl ?_
     refine WO.fin ?_
     refine DN.seq ?_
     revert h
     cases ht86 : (p1.Kind == 4) with
     | true =>
      intro h; replace h := cT h
      refine WC.ct rfl ?_
      refine WC.seq ?_
      refine WC.rs [(0, 2), (1, 2), (2, 1), (3, 1), (4, 2), (5, 2), (6, 2), (7, 2), (8, 2), (9, 2)] rfl ?_
      refine WO.pn 1 rfl ?_
      refine WO.k2 rfl rfl rfl rfl (rn_fieldAddr Try.runUnderlying78 rfl Try.sizeOf2 rfl rfl) ?_
      refine WO.k1 trivial rfl rfl rfl rfl (rn_ld Try.isAgg2 rfl rfl (hvE (f36.ld 2 rfl rfl))) ?_
      obtain ⟨x64, hx64, h⟩ := Option.bind_eq_some_iff.mp h
      refine WO.call rfl rfl rfl rfl rfl rfl Try.call109 (s_l16Has_ok (κ := fun b => mp [] 0 (K31 b)) (Sl.map f38 (mp [] 0) rfl rfl) hx64) ?_
      rintro _ w87 ⟨k88, rfl, e89⟩
      obtain ⟨K90, S91, m92⟩ := Ent.mixed (l := []) (κ := K31) e89 6 rfl
      refine ⟨trivial, ?_⟩
      refine WO.pn 1 rfl ?_
      obtain ⟨p69, h, hK94⟩ := Option.bind_eq_some_iff.mp h
      refine WO.meet [(5, 2), (6, 2), (7, 2), (8, 2)] [(9, 2)] (fun L w' => L = [(69, .bool p69)] ∧ ∃ κ', Stp [] K90 w87 κ' w') trivial ?_ ?_
      ·
       revert h
       cases ht95 : x64 with
       | true =>
        intro h; replace h := cT h
        refine WO.pn 1 rfl ?_
        refine WO.k2 rfl rfl rfl rfl (rn_len Try.runUnderlying28 rfl rfl) ?_
        refine WO.pn 2 rfl ?_
        obtain rfl := Option.some.inj h
        exact WO.met _ trivial ⟨rfl, _, (Stp.refl _ _).wk rfl⟩ fun a ha => (ha.more ha.nil rfl)
       | false =>
        intro h; replace h := cF h
        refine WO.pn 4 rfl ?_
        obtain rfl := Option.some.inj h
        exact WO.met _ trivial ⟨rfl, _, (Stp.refl _ _).wk rfl⟩ fun a ha => (ha.more ha.nil rfl)
      rintro _ w96 _ ⟨rfl, K97, S98⟩
      have h := hK94
      refine WO.pn 1 rfl ?_
      refine WO.fin ?_
      refine DN.seq ?_
      refine WC.ret ?_
      refine DN.retBlock ?_
      refine DN.retThen ?_
      have f99 := hE.stp (S3.tr (S7.tr (S17.tr (S32.tr (S91.tr S98))))) rfl rfl
      refine DN.res (l := [.tmp 4]) Try.results72 (res_tmp rfl rfl) rfl ?_
      obtain rfl := Option.some.inj h
      exact ⟨K97, rfl, f99⟩
     | false =>
      intro h; replace h := cF h
      refine WC.cf rfl ?_
      refine WC.skip ?_
      refine DN.block ?_
      refine DN.seq ?_
      refine WC.seq ?_
      refine WC.rs [(0, 2)] rfl ?_
      refine WO.pn 1 rfl ?_
      refine WO.fin ?_
      refine DN.seq ?_
      refine WC.ret ?_
      have f100 := hE.stp (S3.tr (S7.tr (S17.tr S32))) rfl rfl
      refine DN.res (l := [.tmp 4]) Try.results72 (res_tmp rfl rfl) rfl ?_
      obtain rfl := Option.some.inj h
      exact ⟨K31, rfl, f100⟩

/- loop.example/g00869/spec.Edited -/
theorem s_Edited_ok {w : World} {κ : Col} {a0_0_0 : Option Addr} {u0_0_0 : Nat} {a0_0_1 : Option Addr} {u0_0_1 : Nat} {a0_1 : Option Addr} {u0_1 : Nat} {p0 : Parity} {p1 : Edit} (g0_0_0 : Rd (Rp.int .i64) κ w 0 a0_0_0 u0_0_0 p0.Arena.Owner) (g0_0_1 : Rd (Rp.sl (Rp.int .i64)) κ w 0 a0_0_1 u0_0_1 p0.Arena.Next) (g0_1 : Rd (Rp.int .i64) κ w 0 a0_1 u0_1 p0.Prio) {r : Parity × Bool} (h : s_Edited p0 p1 = some r) : Ret Try.prog 33 [.agg #[.slice a0_0_0 p0.Arena.Owner.length u0_0_0, .slice a0_0_1 p0.Arena.Next.length u0_0_1, .slice a0_1 p0.Prio.length u0_1], .agg #[.int .i64 p1.Kind, .int .i64 p1.V, .int .i64 p1.N]] w (fun v w' => ∃ (κ' : Col) (ra0 : Option Addr) (ru0 : Nat) (ra1 : Option Addr) (ru1 : Nat) (ra2 : Option Addr) (ru2 : Nat), v = .tuple #[.agg #[.slice ra0 r.1.Arena.Owner.length ru0, .slice ra1 r.1.Arena.Next.length ru1, .slice ra2 r.1.Prio.length ru2], .bool r.2] ∧ Ent κ w κ' w' ∧ Oc (Ep.int .i64) 2 κ' w' 2 ra0 ru0 r.1.Arena.Owner ∧ Oc (Ep.fz (Rp.sl (Rp.int .i64))) 28 κ' w' 3 ra1 ru1 r.1.Arena.Next ∧ Oc (Ep.int .i64) 2 κ' w' 4 ra2 ru2 r.1.Prio) := by
 unfold s_Edited at h
 refine Ret.enter Try.func33 rfl Try.ntmps33 rfl ?_
 dsimp only [envOf]
 have hE := Ent.refl κ w
 refine WC.seq ?_
 refine WC.rs [(0, 1), (1, 1), (2, 1), (3, 2)] rfl ?_
 refine WO.box (κ := κ) 2 rfl rfl rfl rfl rfl rfl rfl fun b2 w1 K2 S3 f4 => ⟨trivial, ?_⟩
 refine WO.box (κ := K2) 3 rfl rfl rfl rfl rfl rfl rfl fun b3 w5 K6 S7 f8 => ⟨trivial, ?_⟩
 refine WO.alloc (κ := K6) 4 rfl rfl rfl rfl rfl Try.zeroValue74 rfl fun b4 w9 K10 S11 f12 => ⟨trivial, ?_⟩
 refine WO.pn 1 rfl ?_
 refine WO.fin ?_
 refine DN.seq ?_
 refine WC.seq ?_
 refine WC.seq ?_
 refine WC.rs [(0, 1), (1, 1), (2, 1), (3, 2)] rfl ?_
 have f13 := f4.stp (S7.tr S11) rfl rfl
 refine WO.k1 trivial rfl rfl rfl rfl (rn_la (cs := [.slice a0_0_0 p0.Arena.Owner.length u0_0_0, .slice a0_0_1 p0.Arena.Next.length u0_0_1, .slice a0_1 p0.Prio.length u0_1]) Try.isAgg74 Try.sizeOf74 rfl rfl rfl (haE f13.cells)) ?_
 have f14 := f8.stp S11 rfl rfl
 refine WO.k1 trivial rfl rfl rfl rfl (rn_la (cs := [.int .i64 p1.Kind, .int .i64 p1.V, .int .i64 p1.N]) Try.isAgg78 Try.sizeOf78 rfl rfl rfl (haE f14.cells)) ?_
 obtain ⟨x8, hx8, h⟩ := Option.bind_eq_some_iff.mp h
 have f15 := g0_0_0.stp (S3.tr (S7.tr S11)) rfl rfl
 have f16 := g0_0_1.stp (S3.tr (S7.tr S11)) rfl rfl
 have f17 := g0_1.stp (S3.tr (S7.tr S11)) rfl rfl
 refine WO.call rfl rfl rfl rfl rfl rfl Try.call72 (s_EditOk_ok (κ := fun b => mp [] 0 (K10 b)) (p0 := p0) (p1 := p1) (Sl.map f15 (mp [] 0) rfl rfl) (Sl.map f16 (mp [] 0) rfl rfl) (Sl.map f17 (mp [] 0) rfl rfl) hx8) ?_
 rintro _ w18 ⟨k19, rfl, e20⟩
 obtain ⟨K21, S22, m23⟩ := Ent.mixed (l := []) (κ := K10) e20 5 rfl
 refine ⟨trivial, ?_⟩
 refine WO.pn 1 rfl ?_
 refine WO.fin ?_
 refine DN.seq ?_
 revert h
 cases ht25 : (!x8) with
 | true =>
  intro h; replace h := cT h
  refine WC.ct rfl ?_
  refine WC.seq ?_
  refine WC.rs [(0, 2), (1, 1), (2, 2)] rfl ?_
  refine WO.k2 rfl rfl rfl rfl (rn_build (parts := []) (cells := [.slice none 0 0, .slice none 0 0, .slice none 0 0]) rfl rfl (by kernel_rfl)) ?_
  have f26 := f12.stp S22 rfl rfl
  refine WO.stB0 (κ := K21) 4 (vc := [.slice none 0 0, .slice none 0 0, .slice none 0 0]) rfl rfl rfl rfl rfl rfl rfl Try.sizeOf74 rfl rfl f26 rfl fun w27 S28 f29 => ⟨trivial, ?_⟩
  refine WO.pn 1 rfl ?_
  refine WO.fin ?_
  refine DN.seq ?_
  refine WC.ret ?_
  refine DN.retThen ?_
  have f30 := hE.stp (S3.tr (S7.tr (S11.tr (S22.tr S28)))) rfl rfl
  refine DN.res (l := [.cell 4 74, .tmp 5]) Try.results33 (res_cellA rfl f29 Try.isAgg74 Try.sizeOf74 rfl (res_tmp rfl rfl)) rfl ?_
  obtain rfl := Option.some.inj h
  exact ⟨K21, none, 0, none, 0, none, 0, rfl, f30, Ow.nil, Ow.nil, Ow.nil⟩
 | false =>
  intro h; replace h := cF h
  refine WC.cf rfl ?_
  refine WC.skip ?_
  refine DN.seq ?_
  refine WC.seq ?_
  refine WC.rs [(0, 1), (1, 1), (2, 1), (3, 1), (4, 2)] rfl ?_
  have f31 := f13.stp S22 rfl rfl
  refine WO.k1 trivial rfl rfl rfl rfl (rn_la (cs := [.slice a0_0_0 p0.Arena.Owner.length u0_0_0, .slice a0_0_1 p0.Arena.Next.length u0_0_1, .slice a0_1 p0.Prio.length u0_1]) Try.isAgg74 Try.sizeOf74 rfl rfl rfl (haE f31.cells)) ?_
  have f32 := f14.stp S22 rfl rfl
  refine WO.k1 trivial rfl rfl rfl rfl (rn_la (cs := [.int .i64 p1.Kind, .int .i64 p1.V, .int .i64 p1.N]) Try.isAgg78 Try.sizeOf78 rfl rfl rfl (haE f32.cells)) ?_
  obtain ⟨x13, hx13, h⟩ := Option.bind_eq_some_iff.mp h
  have f33 := f15.stp S22 rfl rfl
  have f34 := f16.stp S22 rfl rfl
  have f35 := f17.stp S22 rfl rfl
  refine WO.call rfl rfl rfl rfl rfl rfl Try.call73 (s_l32Do_ok (κ := fun b => mp [] 1 (K21 b)) (p0 := p0) (p1 := p1) (Sl.map f33 (mp [] 1) rfl rfl) (Sl.map f34 (mp [] 1) rfl rfl) (Sl.map f35 (mp [] 1) rfl rfl) hx13) ?_
  rintro _ w36 ⟨k37, a13_0, u13_0, a13_1, u13_1, a13_2, u13_2, rfl, e38, f39, f40, f41⟩
  obtain ⟨K42, S43, m44, z45⟩ := Ent.mixed0 (l := []) (κ := K21) e38 7 rfl
  refine ⟨trivial, ?_⟩
  have f46 := f39.mx (no_int _) m44 rfl (rfl : 7 + 2 = 9)
  have f47 := f40.mxz z45 m44 rfl (rfl : 7 + 3 = 10)
  have f48 := f41.mx (no_int _) m44 rfl (rfl : 7 + 4 = 11)
  have f49 := f12.stp (S22.tr S43) rfl rfl
  refine WO.stB0 (κ := K42) 4 (vc := [.slice a13_0 x13.Arena.Owner.length u13_0, .slice a13_1 x13.Arena.Next.length u13_1, .slice a13_2 x13.Prio.length u13_2]) rfl rfl rfl rfl rfl rfl rfl Try.sizeOf74 rfl rfl f49 rfl fun w50 S51 f52 => ⟨trivial, ?_⟩
  refine WO.pn 1 rfl ?_
  refine WO.fin ?_
  refine DN.seq ?_
  refine WC.ret ?_
  have f53 := hE.stp (S3.tr (S7.tr (S11.tr (S22.tr (S43.tr S51))))) rfl rfl
  have f54 := f46.stp S51 rfl rfl
  have f55 := f47.stp S51 rfl rfl
  have f56 := f48.stp S51 rfl rfl
  refine DN.res (l := [.cell 4 74, .tmp 5]) Try.results33 (res_cellA rfl f52 Try.isAgg74 Try.sizeOf74 rfl (res_tmp rfl rfl)) rfl ?_
  obtain rfl := Option.some.inj h
  exact ⟨(fun b => ren [(9, 2), (10, 3), (11, 4)] (K42 b)), a13_0, u13_0, a13_1, u13_1, a13_2, u13_2, rfl, (f53.map (ren [(9, 2), (10, 3), (11, 4)]) rfl rfl), (f54.map (ren [(9, 2), (10, 3), (11, 4)]) rfl rfl), (f55.map (ren [(9, 2), (10, 3), (11, 4)]) rfl rfl), (f56.map (ren [(9, 2), (10, 3), (11, 4)]) rfl rfl)⟩

/- loop.example/g00869/impl.edited -/
theorem i_edited_ok {w : World} {κ : Col} {a0_0_0 : Option Addr} {u0_0_0 : Nat} {a0_0_1 : Option Addr} {u0_0_1 : Nat} {a0_1 : Option Addr} {u0_1 : Nat} {p0 : Parity} {p1 : Edit} (g0_0_0 : Rd (Rp.int .i64) κ w 0 a0_0_0 u0_0_0 p0.Arena.Owner) (g0_0_1 : Rd (Rp.sl (Rp.int .i64)) κ w 0 a0_0_1 u0_0_1 p0.Arena.Next) (g0_1 : Rd (Rp.int .i64) κ w 0 a0_1 u0_1 p0.Prio) {r : Parity} (h : i_edited p0 p1 = some r) : Ret Try.prog 77 [.agg #[.slice a0_0_0 p0.Arena.Owner.length u0_0_0, .slice a0_0_1 p0.Arena.Next.length u0_0_1, .slice a0_1 p0.Prio.length u0_1], .agg #[.int .i64 p1.Kind, .int .i64 p1.V, .int .i64 p1.N]] w (fun v w' => ∃ (κ' : Col) (ra0 : Option Addr) (ru0 : Nat) (ra1 : Option Addr) (ru1 : Nat) (ra2 : Option Addr) (ru2 : Nat), v = .agg #[.slice ra0 r.Arena.Owner.length ru0, .slice ra1 r.Arena.Next.length ru1, .slice ra2 r.Prio.length ru2] ∧ Ent κ w κ' w' ∧ Oc (Ep.int .i64) 2 κ' w' 2 ra0 ru0 r.Arena.Owner ∧ Oc (Ep.own (Ep.int .i64) 2) 28 κ' w' 3 ra1 ru1 r.Arena.Next ∧ Oc (Ep.int .i64) 2 κ' w' 4 ra2 ru2 r.Prio) := by
 unfold i_edited at h
 refine Ret.enter Try.func77 rfl Try.ntmps77 rfl ?_
 dsimp only [envOf]
 have hE := Ent.refl κ w
 refine WC.seq ?_
 refine WC.rs [(0, 1), (1, 1), (2, 1)] rfl ?_
 refine WO.box (κ := κ) 2 rfl rfl rfl rfl rfl rfl rfl fun b2 w1 K2 S3 f4 => ⟨trivial, ?_⟩
 refine WO.box (κ := K2) 3 rfl rfl rfl rfl rfl rfl rfl fun b3 w5 K6 S7 f8 => ⟨trivial, ?_⟩
 refine WO.alloc (κ := K6) 4 rfl rfl rfl rfl rfl Try.zeroValue74 rfl fun b4 w9 K10 S11 f12 => ⟨trivial, ?_⟩
 refine WO.fin ?_
 refine DN.seq ?_
 refine WC.seq ?_
 refine WC.rs [(0, 1), (1, 1), (2, 1), (3, 1)] rfl ?_
 have f13 := f4.stp (S7.tr S11) rfl rfl
 refine WO.k1 trivial rfl rfl rfl rfl (rn_la (cs := [.slice a0_0_0 p0.Arena.Owner.length u0_0_0, .slice a0_0_1 p0.Arena.Next.length u0_0_1, .slice a0_1 p0.Prio.length u0_1]) Try.isAgg74 Try.sizeOf74 rfl rfl rfl (haE f13.cells)) ?_
 obtain ⟨x7, hx7, h⟩ := Option.bind_eq_some_iff.mp h
 have f14 := g0_0_0.stp (S3.tr (S7.tr S11)) rfl rfl
 have f15 := g0_0_1.stp (S3.tr (S7.tr S11)) rfl rfl
 have f16 := g0_1.stp (S3.tr (S7.tr S11)) rfl rfl
 refine WO.call rfl rfl rfl rfl rfl rfl Try.call83 (i_copyParity_ok (κ := fun b => mp [] 0 (K10 b)) (p0 := p0) (Sl.map f14 (mp [] 0) rfl rfl) (Sl.map f15 (mp [] 0) rfl rfl) (Sl.map f16 (mp [] 0) rfl rfl) hx7) ?_
 rintro _ w17 ⟨k18, a7_0, u7_0, a7_1, u7_1, a7_2, u7_2, rfl, e19, f20, f21, f22⟩
 obtain ⟨K23, S24, m25⟩ := Ent.mixed (l := []) (κ := K10) e19 5 rfl
 refine ⟨trivial, ?_⟩
 have f27 := f20.mx (no_int _) m25 rfl (rfl : 5 + 2 = 7)
 have f28 := f21.mx (no_own (no_int _) _) m25 rfl (rfl : 5 + 3 = 8)
 have f29 := f22.mx (no_int _) m25 rfl (rfl : 5 + 4 = 9)
 refine WO.alloc (κ := K23) 10 rfl rfl rfl rfl rfl Try.zeroValue74 rfl fun b5 w30 K31 S32 f33 => ⟨trivial, ?_⟩
 refine WO.stB0 (κ := K31) 10 (vc := [.slice a7_0 x7.Arena.Owner.length u7_0, .slice a7_1 x7.Arena.Next.length u7_1, .slice a7_2 x7.Prio.length u7_2]) rfl rfl rfl rfl rfl rfl rfl Try.sizeOf74 rfl rfl f33 rfl fun w34 S35 f36 => ⟨trivial, ?_⟩
 refine WO.fin ?_
 refine DN.seq ?_
 refine WC.seq ?_
 refine WC.seq ?_
 refine WC.rs [(0, 2), (1, 1)] rfl ?_
 refine WO.k2 rfl rfl rfl rfl (rn_fieldAddr Try.runUnderlying78 rfl Try.sizeOf2 rfl rfl) ?_
 have f37 := f8.stp (S11.tr (S24.tr (S32.tr S35))) rfl rfl
 refine WO.k1 trivial rfl rfl rfl rfl (rn_ld Try.isAgg2 rfl rfl (hvE (f37.ld 0 rfl rfl))) ?_
 refine WO.fin ?_
 refine DN.seq ?_
 refine WC.block ?_
 refine WC.seq ?_
 refine WC.rs [(0, 2), (1, 2)] rfl ?_
 refine WO.pn 2 rfl ?_
 refine WO.fin ?_
 refine DN.seq ?_
 obtain ⟨q1, h, hK38⟩ := Option.bind_eq_some_iff.mp h
 refine WC.meet (fun L w' => ∃ (κ' : Col), L = [(4, .pointer (some ⟨b4, 0, none⟩)), (5, .pointer (some ⟨b5, 0, none⟩))] ∧ Stp [7, 8, 9, 14] K31 w34 κ' w' ∧ Oc (Ep.int .i64) 2 κ' w' 7 a7_0 u7_0 q1.1 ∧ x7.Arena.Owner.length = q1.1.length ∧ Oc (Ep.own (Ep.int .i64) 2) 28 κ' w' 8 a7_1 u7_1 q1.2.1 ∧ x7.Arena.Next.length = q1.2.1.length ∧ Oc (Ep.int .i64) 2 κ' w' 9 a7_2 u7_2 q1.2.2 ∧ x7.Prio.length = q1.2.2.length) ?_ ?_
 ·
  revert h
  cases ht48 : (p1.Kind == 1) with
  | true =>
   intro h; replace h := cT h
   refine WC.ct rfl ?_
   refine WC.rs [(0, 2), (1, 1), (2, 2), (3, 1), (4, 2), (5, 1), (6, 2), (7, 1)] rfl ?_
   refine WO.k2 rfl rfl rfl rfl (rn_fieldAddr Try.runUnderlying74 rfl Try.sizeOf28 rfl rfl) ?_
   refine WO.k1 trivial rfl rfl rfl rfl (rn_ld Try.isAgg28 rfl rfl (hvE (f36.ld 2 rfl rfl))) ?_
   refine WO.k2 rfl rfl rfl rfl (rn_fieldAddr Try.runUnderlying78 rfl Try.sizeOf2 rfl rfl) ?_
   refine WO.k1 trivial rfl rfl rfl rfl (rn_ld Try.isAgg2 rfl rfl (hvE (f37.ld 1 rfl rfl))) ?_
   refine WO.k2 rfl rfl rfl rfl (rn_fieldAddr Try.runUnderlying78 rfl Try.sizeOf2 rfl rfl) ?_
   refine WO.k1 trivial rfl rfl rfl rfl (rn_ld Try.isAgg2 rfl rfl (hvE (f37.ld 2 rfl rfl))) ?_
   obtain ⟨x35, hx35, h⟩ := Option.bind_eq_some_iff.mp h
   refine WO.k2 rfl rfl rfl rfl (rn_index f29.rdc hx35 Try.runUnderlying28 Try.sizeOf2 rfl rfl rfl rfl) ?_
   have f49 := f29.stp (S32.tr S35) rfl rfl
   obtain ⟨y18, hy18, h⟩ := Option.bind_eq_some_iff.mp h
   refine WO.stI (κ := K31) (E := (Ep.int .i64)) 9 [] rfl rfl rfl rfl rfl rfl rfl rfl Try.sizeOf2 rfl rfl rfl rfl f49 hy18 fun w50 K51 S52 f53 => ⟨trivial, ?_⟩
   have hn54 : x7.Prio.length = y18.length := (setI_ok hy18).2.2.2.symm
   refine WO.fin ?_
   have f55 := f27.stp (S32.tr (S35.tr S52)) rfl rfl
   have f56 := f28.stp (S32.tr (S35.tr S52)) rfl rfl
   obtain rfl := Option.some.inj h
   exact DN.meet _ ⟨K51, rfl, S52.wk rfl, f55, rfl, f56, rfl, f53, hn54⟩ fun a ha => (ha.more (ha.more ha.nil rfl) rfl)
  | false =>
   intro h; replace h := cF h
   refine WC.cf rfl ?_
   refine WC.seq ?_
   refine WC.rs [(0, 2), (1, 2)] rfl ?_
   refine WO.pn 2 rfl ?_
   refine WO.fin ?_
   refine DN.seq ?_
   obtain ⟨q2, h, hK57⟩ := Option.bind_eq_some_iff.mp h
   refine WC.meet (fun L w' => ∃ (κ' : Col), L = [(4, .pointer (some ⟨b4, 0, none⟩)), (5, .pointer (some ⟨b5, 0, none⟩))] ∧ Stp [7, 8, 14] K31 w34 κ' w' ∧ Oc (Ep.int .i64) 2 κ' w' 7 a7_0 u7_0 q2.1 ∧ x7.Arena.Owner.length = q2.1.length ∧ Oc (Ep.own (Ep.int .i64) 2) 28 κ' w' 8 a7_1 u7_1 q2.2 ∧ x7.Arena.Next.length = q2.2.length) ?_ ?_
   ·
    revert h
    cases ht65 : (p1.Kind == 2) with
    | true =>
     intro h; replace h := cT h
     refine WC.ct rfl ?_
     refine WC.rs [(0, 2), (1, 2), (2, 1), (3, 2), (4, 1), (5, 2), (6, 1), (7, 2), (8, 1)] rfl ?_
     refine WO.k2 rfl rfl rfl rfl (rn_fieldAddr Try.runUnderlying74 rfl Try.sizeOf72 rfl rfl) ?_
     refine WO.k2 rfl rfl rfl rfl (rn_fieldAddr Try.runUnderlying72 rfl Try.sizeOf28 rfl rfl) ?_
     refine WO.k1 trivial rfl rfl rfl rfl (rn_ld Try.isAgg28 rfl rfl (hvE (f36.ld 0 rfl rfl))) ?_
     refine WO.k2 rfl rfl rfl rfl (rn_fieldAddr Try.runUnderlying78 rfl Try.sizeOf2 rfl rfl) ?_
     refine WO.k1 trivial rfl rfl rfl rfl (rn_ld Try.isAgg2 rfl rfl (hvE (f37.ld 1 rfl rfl))) ?_
     refine WO.k2 rfl rfl rfl rfl (rn_fieldAddr Try.runUnderlying78 rfl Try.sizeOf2 rfl rfl) ?_
     refine WO.k1 trivial rfl rfl rfl rfl (rn_ld Try.isAgg2 rfl rfl (hvE (f37.ld 2 rfl rfl))) ?_
     obtain ⟨x45, hx45, h⟩ := Option.bind_eq_some_iff.mp h
     refine WO.k2 rfl rfl rfl rfl (rn_index f27.rdc hx45 Try.runUnderlying28 Try.sizeOf2 rfl rfl rfl rfl) ?_
     have f66 := f27.stp (S32.tr S35) rfl rfl
     obtain ⟨y19, hy19, h⟩ := Option.bind_eq_some_iff.mp h
     refine WO.stI (κ := K31) (E := (Ep.int .i64)) 7 [] rfl rfl rfl rfl rfl rfl rfl rfl Try.sizeOf2 rfl rfl rfl rfl f66 hy19 fun w67 K68 S69 f70 => ⟨trivial, ?_⟩
     have hn71 : x7.Arena.Owner.length = y19.length := (setI_ok hy19).2.2.2.symm
     refine WO.fin ?_
     have f72 := f28.stp (S32.tr (S35.tr S69)) rfl rfl
     obtain rfl := Option.some.inj h
     exact DN.meet _ ⟨K68, rfl, S69.wk rfl, f70, hn71, f72, rfl⟩ fun a ha => (ha.more (ha.more ha.nil rfl) rfl)
    | false =>
     intro h; replace h := cF h
     refine WC.cf rfl ?_
     refine WC.seq ?_
     refine WC.rs [(0, 2), (1, 2)] rfl ?_
     refine WO.pn 2 rfl ?_
     refine WO.fin ?_
     refine DN.seq ?_
     obtain ⟨q3, h, hK73⟩ := Option.bind_eq_some_iff.mp h
     refine WC.meet (fun L w' => ∃ (κ' : Col), L = [(4, .pointer (some ⟨b4, 0, none⟩)), (5, .pointer (some ⟨b5, 0, none⟩))] ∧ Stp [8, 14] K31 w34 κ' w' ∧ Oc (Ep.own (Ep.int .i64) 2) 28 κ' w' 8 a7_1 u7_1 q3 ∧ x7.Arena.Next.length = q3.length) ?_ ?_
     ·
      revert h
      cases ht79 : (p1.Kind == 3) with
      | true =>
       intro h; replace h := cT h
       refine WC.ct rfl ?_
       refine WC.rx (κ := K31) [0, 3, 8, 10] (some 17) [(0, 2), (1, 2), (3, 2), (5, 2), (6, 2), (8, 2), (12, 2), (2, 0), (4, 0), (7, 0), (9, 0), (10, 2), (11, 0), (13, 0), (14, 1), (15, 1), (16, 2)] [(17, 1)] (by kernel_rfl) (by kernel_rfl) fun w81 S80 => ?_
       refine WO.k2 rfl rfl rfl rfl (rn_fieldAddr Try.runUnderlying74 rfl Try.sizeOf72 rfl rfl) ?_
       refine WO.k2 rfl rfl rfl rfl (rn_fieldAddr Try.runUnderlying72 rfl Try.sizeOf24 rfl rfl) ?_
       refine WO.k2 rfl rfl rfl rfl (rn_fieldAddr Try.runUnderlying78 rfl Try.sizeOf2 rfl rfl) ?_
       refine WO.k2 rfl rfl rfl rfl (rn_fieldAddr Try.runUnderlying74 rfl Try.sizeOf72 rfl rfl) ?_
       refine WO.k2 rfl rfl rfl rfl (rn_fieldAddr Try.runUnderlying72 rfl Try.sizeOf24 rfl rfl) ?_
       refine WO.k2 rfl rfl rfl rfl (rn_fieldAddr Try.runUnderlying78 rfl Try.sizeOf2 rfl rfl) ?_
       refine WO.k2 rfl rfl rfl rfl (rn_fieldAddr Try.runUnderlying78 rfl Try.sizeOf2 rfl rfl) ?_
       have f82 := f36.stp S80 rfl rfl
       refine WO.k0 rfl rfl rfl rfl (rn_ld Try.isAgg24 rfl rfl (hvC (f82.ld 1 rfl rfl) rfl)) ?_
       have f83 := f37.stp S80 rfl rfl
       refine WO.k0 rfl rfl rfl rfl (rn_ld Try.isAgg2 rfl rfl (hvC (f83.ld 1 rfl rfl) rfl)) ?_
       refine WO.k0 rfl rfl rfl rfl (rn_ld Try.isAgg24 rfl rfl (hvC (f82.ld 1 rfl rfl) rfl)) ?_
       refine WO.k0 rfl rfl rfl rfl (rn_ld Try.isAgg2 rfl rfl (hvC (f83.ld 1 rfl rfl) rfl)) ?_
       obtain ⟨x58, hx58, h⟩ := Option.bind_eq_some_iff.mp h
       refine WO.k2 rfl rfl rfl rfl (rn_index f28.rdc hx58 Try.runUnderlying24 Try.sizeOf28 rfl rfl rfl rfl) ?_
       have f84 := f28.stp (S32.tr (S35.tr S80)) rfl rfl
       obtain ⟨ax58, ux58, f85, hl86⟩ := f84.rdc.gSl hx58
       refine WO.k0 rfl rfl rfl rfl (rn_ld Try.isAgg28 rfl rfl (hvC hl86 rfl)) ?_
       refine WO.k0 rfl rfl rfl rfl (rn_ld Try.isAgg2 rfl rfl (hvC (f83.ld 2 rfl rfl) rfl)) ?_
       refine WO.bl (κ := K31) (E := (Ep.int .i64)) 11 [] (parts := [(0, .tmp 61)]) (cells := [.int .i64 p1.N]) (xs := ([p1.N] : List Int)) rfl rfl rfl rfl rfl rfl Try.underlying28 Tryinfo2 rfl rfl rfl rfl rfl rfl rfl rfl rfl rfl ⟨[.int .i64 p1.N], [], Zl K31 w81 [], Zl K31 w81 [], rfl, Zl.sp (l1 := []) (l2 := []) rfl, Zl.sr (l1 := []) (l2 := []), rfl, rfl⟩ fun a62 u62 w87 K88 S89 f90 => ⟨(S89.cl rfl), ?_⟩
       obtain ⟨x63, hx63, h⟩ := Option.bind_eq_some_iff.mp h
       have f91 := f85.stp S89 rfl rfl
       refine WO.call rfl rfl rfl rfl rfl rfl Try.call114 (i_bothOf_ok (κ := fun b => mp [] 0 (K88 b)) (Sl.map f91 (mp [] 0) rfl rfl) (Sl.map f90.rdc (mp [] 0) rfl rfl) hx63) ?_
       rintro _ w92 ⟨k93, a63_0, u63_0, rfl, e94, f95⟩
       obtain ⟨K96, S97, m98⟩ := Ent.mixed (l := []) (κ := K88) e94 12 rfl
       refine ⟨((S89.tr S97).cl rfl), ?_⟩
       have f100 := f95.mx (no_int _) m98 rfl (rfl : 12 + 2 = 14)
       obtain ⟨x64, hx64, h⟩ := Option.bind_eq_some_iff.mp h
       refine WO.k2 rfl rfl rfl rfl (rn_index f84.rdc hx64 Try.runUnderlying24 Try.sizeOf28 rfl rfl rfl rfl) ?_
       refine WO.nx ?_
       have f101 := f84.stp (S89.tr S97) rfl rfl
       obtain ⟨y24, hy24, h⟩ := Option.bind_eq_some_iff.mp h
       refine WO.stI (κ := K96) (E := (Ep.own (Ep.int .i64) 2)) 8 [14] rfl rfl rfl rfl rfl rfl rfl rfl Try.sizeOf28 rfl ⟨_, _, rfl, f100⟩ rfl rfl f101 hy24 fun w102 K103 S104 f105 => ⟨trivial, ?_⟩
       have hn106 : x7.Arena.Next.length = y24.length := (setI_ok hy24).2.2.2.symm
       refine WO.fin ?_
       obtain rfl := Option.some.inj h
       exact DN.meet _ ⟨K103, rfl, (S80.tr (S89.tr (S97.tr S104))).wk rfl, f105, hn106⟩ fun a ha => (ha.more (ha.more ha.nil rfl) rfl)
      | false =>
       intro h; replace h := cF h
       refine WC.cf rfl ?_
       refine WC.rx (κ := K31) [0, 3, 8, 10] (some 17) [(0, 2), (1, 2), (3, 2), (5, 2), (6, 2), (8, 2), (12, 2), (2, 0), (4, 0), (7, 0), (9, 0), (10, 2), (11, 0), (13, 0), (14, 1), (15, 1), (16, 2)] [(17, 1)] (by kernel_rfl) (by kernel_rfl) fun w108 S107 => ?_
       refine WO.k2 rfl rfl rfl rfl (rn_fieldAddr Try.runUnderlying74 rfl Try.sizeOf72 rfl rfl) ?_
       refine WO.k2 rfl rfl rfl rfl (rn_fieldAddr Try.runUnderlying72 rfl Try.sizeOf24 rfl rfl) ?_
       refine WO.k2 rfl rfl rfl rfl (rn_fieldAddr Try.runUnderlying78 rfl Try.sizeOf2 rfl rfl) ?_
       refine WO.k2 rfl rfl rfl rfl (rn_fieldAddr Try.runUnderlying74 rfl Try.sizeOf72 rfl rfl) ?_
       refine WO.k2 rfl rfl rfl rfl (rn_fieldAddr Try.runUnderlying72 rfl Try.sizeOf24 rfl rfl) ?_
       refine WO.k2 rfl rfl rfl rfl (rn_fieldAddr Try.runUnderlying78 rfl Try.sizeOf2 rfl rfl) ?_
       refine WO.k2 rfl rfl rfl rfl (rn_fieldAddr Try.runUnderlying78 rfl Try.sizeOf2 rfl rfl) ?_
       have f109 := f36.stp S107 rfl rfl
       refine WO.k0 rfl rfl rfl rfl (rn_ld Try.isAgg24 rfl rfl (hvC (f109.ld 1 rfl rfl) rfl)) ?_
       have f110 := f37.stp S107 rfl rfl
       refine WO.k0 rfl rfl rfl rfl (rn_ld Try.isAgg2 rfl rfl (hvC (f110.ld 1 rfl rfl) rfl)) ?_
       refine WO.k0 rfl rfl rfl rfl (rn_ld Try.isAgg24 rfl rfl (hvC (f109.ld 1 rfl rfl) rfl)) ?_
       refine WO.k0 rfl rfl rfl rfl (rn_ld Try.isAgg2 rfl rfl (hvC (f110.ld 1 rfl rfl) rfl)) ?_
       obtain ⟨x20, hx20, h⟩ := Option.bind_eq_some_iff.mp h
       refine WO.k2 rfl rfl rfl rfl (rn_index f28.rdc hx20 Try.runUnderlying24 Try.sizeOf28 rfl rfl rfl rfl) ?_
       have f111 := f28.stp (S32.tr (S35.tr S107)) rfl rfl
       obtain ⟨ax20, ux20, f112, hl113⟩ := f111.rdc.gSl hx20
       refine WO.k0 rfl rfl rfl rfl (rn_ld Try.isAgg28 rfl rfl (hvC hl113 rfl)) ?_
       refine WO.k0 rfl rfl rfl rfl (rn_ld Try.isAgg2 rfl rfl (hvC (f110.ld 2 rfl rfl) rfl)) ?_
       refine WO.bl (κ := K31) (E := (Ep.int .i64)) 11 [] (parts := [(0, .tmp 23)]) (cells := [.int .i64 p1.N]) (xs := ([p1.N] : List Int)) rfl rfl rfl rfl rfl rfl Try.underlying28 Tryinfo2 rfl rfl rfl rfl rfl rfl rfl rfl rfl rfl ⟨[.int .i64 p1.N], [], Zl K31 w108 [], Zl K31 w108 [], rfl, Zl.sp (l1 := []) (l2 := []) rfl, Zl.sr (l1 := []) (l2 := []), rfl, rfl⟩ fun a24 u24 w114 K115 S116 f117 => ⟨(S116.cl rfl), ?_⟩
       obtain ⟨x25, hx25, h⟩ := Option.bind_eq_some_iff.mp h
       have f118 := f112.stp S116 rfl rfl
       refine WO.call rfl rfl rfl rfl rfl rfl Try.call115 (i_lessOf_ok (κ := fun b => mp [] 0 (K115 b)) (Sl.map f118 (mp [] 0) rfl rfl) (Sl.map f117.rdc (mp [] 0) rfl rfl) hx25) ?_
       rintro _ w119 ⟨k120, a25_0, u25_0, rfl, e121, f122⟩
       obtain ⟨K123, S124, m125⟩ := Ent.mixed (l := []) (κ := K115) e121 12 rfl
       refine ⟨((S116.tr S124).cl rfl), ?_⟩
       have f127 := f122.mx (no_int _) m125 rfl (rfl : 12 + 2 = 14)
       obtain ⟨x26, hx26, h⟩ := Option.bind_eq_some_iff.mp h
       refine WO.k2 rfl rfl rfl rfl (rn_index f111.rdc hx26 Try.runUnderlying24 Try.sizeOf28 rfl rfl rfl rfl) ?_
       refine WO.nx ?_
       have f128 := f111.stp (S116.tr S124) rfl rfl
       obtain ⟨y26, hy26, h⟩ := Option.bind_eq_some_iff.mp h
       refine WO.stI (κ := K123) (E := (Ep.own (Ep.int .i64) 2)) 8 [14] rfl rfl rfl rfl rfl rfl rfl rfl Try.sizeOf28 rfl ⟨_, _, rfl, f127⟩ rfl rfl f128 hy26 fun w129 K130 S131 f132 => ⟨trivial, ?_⟩
       have hn133 : x7.Arena.Next.length = y26.length := (setI_ok hy26).2.2.2.symm
       refine WO.fin ?_
       obtain rfl := Option.some.inj h
       exact DN.meet _ ⟨K130, rfl, (S107.tr (S116.tr (S124.tr S131))).wk rfl, f132, hn133⟩ fun a ha => (ha.more (ha.more ha.nil rfl) rfl)
     rintro _ w74 ⟨K75, rfl, S76, f77, hn78⟩
     have h := hK73
     have f134 := f27.stp (S32.tr (S35.tr S76)) rfl rfl
     obtain rfl := Option.some.inj h
     exact DN.meet _ ⟨K75, rfl, S76.wk rfl, f134, rfl, f77, hn78⟩ fun a ha => (ha.more (ha.more ha.nil rfl) rfl)
   rintro _ w58 ⟨K59, rfl, S60, f61, hn62, f63, hn64⟩
   have h := hK57
   have f135 := f29.stp (S32.tr (S35.tr S60)) rfl rfl
   obtain rfl := Option.some.inj h
   exact DN.meet _ ⟨K59, rfl, S60.wk rfl, f61, hn62, f63, hn64, f135, rfl⟩ fun a ha => (ha.more (ha.more ha.nil rfl) rfl)
 rintro _ w39 ⟨K40, rfl, S41, f42, hn43, f44, hn45, f46, hn47⟩
 have h := hK38
 refine DN.block ?_
 refine DN.seq ?_
 refine WC.seq ?_
 refine WC.rs [(0, 1), (1, 1)] rfl ?_
 have f136 := f36.stp S41 rfl rfl
 refine WO.k1 trivial rfl rfl rfl rfl (rn_la (cs := [.slice a7_0 x7.Arena.Owner.length u7_0, .slice a7_1 x7.Arena.Next.length u7_1, .slice a7_2 x7.Prio.length u7_2]) Try.isAgg74 Try.sizeOf74 rfl rfl rfl (haE f136.cells)) ?_
 have f137 := f12.stp (S24.tr (S32.tr (S35.tr S41))) rfl rfl
 refine WO.stB0 (κ := K40) 4 (vc := [.slice a7_0 x7.Arena.Owner.length u7_0, .slice a7_1 x7.Arena.Next.length u7_1, .slice a7_2 x7.Prio.length u7_2]) rfl rfl rfl rfl rfl rfl rfl Try.sizeOf74 rfl rfl f137 rfl fun w138 S139 f140 => ⟨trivial, ?_⟩
 refine WO.fin ?_
 refine DN.seq ?_
 refine WC.ret ?_
 have f141 := hE.stp (S3.tr (S7.tr (S11.tr (S24.tr (S32.tr (S35.tr (S41.tr S139))))))) rfl rfl
 have f142 := f42.stp S139 rfl rfl
 have f143 := f44.stp S139 rfl rfl
 have f144 := f46.stp S139 rfl rfl
 refine DN.res (l := [.cell 4 74]) Try.results77 (res_cellA rfl f140 Try.isAgg74 Try.sizeOf74 rfl rfl) rfl ?_
 obtain rfl := Option.some.inj h
 exact ⟨(fun b => ren [(7, 2), (8, 3), (9, 4)] (K40 b)), a7_0, u7_0, a7_1, u7_1, a7_2, u7_2, (by simp only [hn43, hn45, hn47]), (f141.map (ren [(7, 2), (8, 3), (9, 4)]) rfl rfl), (f142.map (ren [(7, 2), (8, 3), (9, 4)]) rfl rfl), (f143.map (ren [(7, 2), (8, 3), (9, 4)]) rfl rfl), (f144.map (ren [(7, 2), (8, 3), (9, 4)]) rfl rfl)⟩

/- loop.example/g00869/impl.Edited -/
theorem i_Edited_ok {w : World} {κ : Col} {a0_0_0 : Option Addr} {u0_0_0 : Nat} {a0_0_1 : Option Addr} {u0_0_1 : Nat} {a0_1 : Option Addr} {u0_1 : Nat} {p0 : Parity} {p1 : Edit} (g0_0_0 : Rd (Rp.int .i64) κ w 0 a0_0_0 u0_0_0 p0.Arena.Owner) (g0_0_1 : Rd (Rp.sl (Rp.int .i64)) κ w 0 a0_0_1 u0_0_1 p0.Arena.Next) (g0_1 : Rd (Rp.int .i64) κ w 0 a0_1 u0_1 p0.Prio) {r : Parity × Bool} (h : i_Edited p0 p1 = some r) : Ret Try.prog 36 [.agg #[.slice a0_0_0 p0.Arena.Owner.length u0_0_0, .slice a0_0_1 p0.Arena.Next.length u0_0_1, .slice a0_1 p0.Prio.length u0_1], .agg #[.int .i64 p1.Kind, .int .i64 p1.V, .int .i64 p1.N]] w (fun v w' => ∃ (κ' : Col) (ra0 : Option Addr) (ru0 : Nat) (ra1 : Option Addr) (ru1 : Nat) (ra2 : Option Addr) (ru2 : Nat), v = .tuple #[.agg #[.slice ra0 r.1.Arena.Owner.length ru0, .slice ra1 r.1.Arena.Next.length ru1, .slice ra2 r.1.Prio.length ru2], .bool r.2] ∧ Ent κ w κ' w' ∧ Oc (Ep.int .i64) 2 κ' w' 2 ra0 ru0 r.1.Arena.Owner ∧ Oc (Ep.own (Ep.int .i64) 2) 28 κ' w' 3 ra1 ru1 r.1.Arena.Next ∧ Oc (Ep.int .i64) 2 κ' w' 4 ra2 ru2 r.1.Prio) := by
 unfold i_Edited at h
 refine Ret.enter Try.func36 rfl Try.ntmps36 rfl ?_
 dsimp only [envOf]
 have hE := Ent.refl κ w
 refine WC.seq ?_
 refine WC.rs [(0, 1), (1, 1), (2, 1), (3, 2)] rfl ?_
 refine WO.box (κ := κ) 2 rfl rfl rfl rfl rfl rfl rfl fun b2 w1 K2 S3 f4 => ⟨trivial, ?_⟩
 refine WO.box (κ := K2) 3 rfl rfl rfl rfl rfl rfl rfl fun b3 w5 K6 S7 f8 => ⟨trivial, ?_⟩
 refine WO.alloc (κ := K6) 4 rfl rfl rfl rfl rfl Try.zeroValue74 rfl fun b4 w9 K10 S11 f12 => ⟨trivial, ?_⟩
 refine WO.pn 1 rfl ?_
 refine WO.fin ?_
 refine DN.seq ?_
 refine WC.seq ?_
 refine WC.seq ?_
 refine WC.rs [(0, 1), (1, 1), (2, 2), (3, 2), (4, 1), (5, 1), (6, 1), (7, 2), (8, 2)] rfl ?_
 have f13 := f4.stp (S7.tr S11) rfl rfl
 refine WO.k1 trivial rfl rfl rfl rfl (rn_la (cs := [.slice a0_0_0 p0.Arena.Owner.length u0_0_0, .slice a0_0_1 p0.Arena.Next.length u0_0_1, .slice a0_1 p0.Prio.length u0_1]) Try.isAgg74 Try.sizeOf74 rfl rfl rfl (haE f13.cells)) ?_
 obtain ⟨x7, hx7, h⟩ := Option.bind_eq_some_iff.mp h
 have f14 := g0_0_0.stp (S3.tr (S7.tr S11)) rfl rfl
 have f15 := g0_0_1.stp (S3.tr (S7.tr S11)) rfl rfl
 have f16 := g0_1.stp (S3.tr (S7.tr S11)) rfl rfl
 refine WO.call rfl rfl rfl rfl rfl rfl Try.call75 (i_ParityOk_ok (κ := fun b => mp [] 0 (K10 b)) (p0 := p0) (Sl.map f14 (mp [] 0) rfl rfl) (Sl.map f15 (mp [] 0) rfl rfl) (Sl.map f16 (mp [] 0) rfl rfl) hx7) ?_
 rintro _ w17 ⟨k18, rfl, e19⟩
 obtain ⟨K20, S21, m22⟩ := Ent.mixed (l := []) (κ := K10) e19 5 rfl
 refine ⟨trivial, ?_⟩
 refine WO.pn 2 rfl ?_
 obtain ⟨p14, h, hK24⟩ := Option.bind_eq_some_iff.mp h
 refine WO.meet [(4, 1), (5, 1), (6, 1), (7, 2), (8, 2)] [] (fun L w' => L = [(2, .pointer (some ⟨b2, 0, none⟩)), (3, .pointer (some ⟨b3, 0, none⟩)), (4, .pointer (some ⟨b4, 0, none⟩)), (14, .bool p14)] ∧ ∃ κ', Stp [] K20 w17 κ' w') trivial ?_ ?_
 ·
  revert h
  cases ht25 : (!x7) with
  | true =>
   intro h; replace h := cT h
   refine WO.ls rfl rfl rfl rfl ?_
   refine WO.ls rfl rfl rfl rfl ?_
   refine WO.ls rfl rfl rfl rfl ?_
   refine WO.pn 2 rfl ?_
   obtain rfl := Option.some.inj h
   exact WO.met _ trivial ⟨rfl, _, (Stp.refl _ _).wk rfl⟩ fun a ha => (ha.more (ha.more (ha.more (ha.more ha.nil rfl) rfl) rfl) rfl)
  | false =>
   intro h; replace h := cF h
   have f26 := f13.stp S21 rfl rfl
   refine WO.k1 trivial rfl rfl rfl rfl (rn_la (cs := [.slice a0_0_0 p0.Arena.Owner.length u0_0_0, .slice a0_0_1 p0.Arena.Next.length u0_0_1, .slice a0_1 p0.Prio.length u0_1]) Try.isAgg74 Try.sizeOf74 rfl rfl rfl (haE f26.cells)) ?_
   have f27 := f8.stp (S11.tr S21) rfl rfl
   refine WO.k1 trivial rfl rfl rfl rfl (rn_la (cs := [.int .i64 p1.Kind, .int .i64 p1.V, .int .i64 p1.N]) Try.isAgg78 Try.sizeOf78 rfl rfl rfl (haE f27.cells)) ?_
   obtain ⟨x12, hx12, h⟩ := Option.bind_eq_some_iff.mp h
   have f28 := f14.stp S21 rfl rfl
   have f29 := f15.stp S21 rfl rfl
   have f30 := f16.stp S21 rfl rfl
   refine WO.call rfl rfl rfl rfl rfl rfl Try.call76 (i_isEdit_ok (κ := fun b => mp [] 0 (K20 b)) (p0 := p0) (p1 := p1) (Sl.map f28 (mp [] 0) rfl rfl) (Sl.map f29 (mp [] 0) rfl rfl) (Sl.map f30 (mp [] 0) rfl rfl) hx12) ?_
   rintro _ w31 ⟨k32, rfl, e33⟩
   obtain ⟨K34, S35, m36⟩ := Ent.mixed (l := []) (κ := K20) e33 7 rfl
   refine ⟨trivial, ?_⟩
   refine WO.pn 2 rfl ?_
   obtain rfl := Option.some.inj h
   exact WO.met _ trivial ⟨rfl, _, S35.wk rfl⟩ fun a ha => (ha.more (ha.more (ha.more (ha.more ha.nil rfl) rfl) rfl) rfl)
 rintro _ w38 _ ⟨rfl, K39, S40⟩
 have h := hK24
 refine WO.fin ?_
 refine DN.seq ?_
 revert h
 cases ht41 : p14 with
 | true =>
  intro h; replace h := cT h
  refine WC.ct rfl ?_
  refine WC.seq ?_
  refine WC.rs [(0, 2), (1, 1), (2, 2)] rfl ?_
  refine WO.k2 rfl rfl rfl rfl (rn_build (parts := []) (cells := [.slice none 0 0, .slice none 0 0, .slice none 0 0]) rfl rfl (by kernel_rfl)) ?_
  have f42 := f12.stp (S21.tr S40) rfl rfl
  refine WO.stB0 (κ := K39) 4 (vc := [.slice none 0 0, .slice none 0 0, .slice none 0 0]) rfl rfl rfl rfl rfl rfl rfl Try.sizeOf74 rfl rfl f42 rfl fun w43 S44 f45 => ⟨trivial, ?_⟩
  refine WO.pn 1 rfl ?_
  refine WO.fin ?_
  refine DN.seq ?_
  refine WC.ret ?_
  refine DN.retThen ?_
  have f46 := hE.stp (S3.tr (S7.tr (S11.tr (S21.tr (S40.tr S44))))) rfl rfl
  refine DN.res (l := [.cell 4 74, .tmp 5]) Try.results36 (res_cellA rfl f45 Try.isAgg74 Try.sizeOf74 rfl (res_tmp rfl rfl)) rfl ?_
  obtain rfl := Option.some.inj h
  exact ⟨K39, none, 0, none, 0, none, 0, rfl, f46, Ow.nil, Ow.nil, Ow.nil⟩
 | false =>
  intro h; replace h := cF h
  refine WC.cf rfl ?_
  refine WC.skip ?_
  refine DN.seq ?_
  refine WC.seq ?_
  refine WC.rs [(0, 1), (1, 1), (2, 1), (3, 1), (4, 2)] rfl ?_
  have f47 := f13.stp (S21.tr S40) rfl rfl
  refine WO.k1 trivial rfl rfl rfl rfl (rn_la (cs := [.slice a0_0_0 p0.Arena.Owner.length u0_0_0, .slice a0_0_1 p0.Arena.Next.length u0_0_1, .slice a0_1 p0.Prio.length u0_1]) Try.isAgg74 Try.sizeOf74 rfl rfl rfl (haE f47.cells)) ?_
  have f48 := f8.stp (S11.tr (S21.tr S40)) rfl rfl
  refine WO.k1 trivial rfl rfl rfl rfl (rn_la (cs := [.int .i64 p1.Kind, .int .i64 p1.V, .int .i64 p1.N]) Try.isAgg78 Try.sizeOf78 rfl rfl rfl (haE f48.cells)) ?_
  obtain ⟨x18, hx18, h⟩ := Option.bind_eq_some_iff.mp h
  have f49 := f14.stp (S21.tr S40) rfl rfl
  have f50 := f15.stp (S21.tr S40) rfl rfl
  have f51 := f16.stp (S21.tr S40) rfl rfl
  refine WO.call rfl rfl rfl rfl rfl rfl Try.call77 (i_edited_ok (κ := fun b => mp [] 0 (K39 b)) (p0 := p0) (p1 := p1) (Sl.map f49 (mp [] 0) rfl rfl) (Sl.map f50 (mp [] 0) rfl rfl) (Sl.map f51 (mp [] 0) rfl rfl) hx18) ?_
  rintro _ w52 ⟨k53, a18_0, u18_0, a18_1, u18_1, a18_2, u18_2, rfl, e54, f55, f56, f57⟩
  obtain ⟨K58, S59, m60⟩ := Ent.mixed (l := []) (κ := K39) e54 7 rfl
  refine ⟨trivial, ?_⟩
  have f62 := f55.mx (no_int _) m60 rfl (rfl : 7 + 2 = 9)
  have f63 := f56.mx (no_own (no_int _) _) m60 rfl (rfl : 7 + 3 = 10)
  have f64 := f57.mx (no_int _) m60 rfl (rfl : 7 + 4 = 11)
  have f65 := f12.stp (S21.tr (S40.tr S59)) rfl rfl
  refine WO.stB0 (κ := K58) 4 (vc := [.slice a18_0 x18.Arena.Owner.length u18_0, .slice a18_1 x18.Arena.Next.length u18_1, .slice a18_2 x18.Prio.length u18_2]) rfl rfl rfl rfl rfl rfl rfl Try.sizeOf74 rfl rfl f65 rfl fun w66 S67 f68 => ⟨trivial, ?_⟩
  refine WO.pn 1 rfl ?_
  refine WO.fin ?_
  refine DN.seq ?_
  refine WC.ret ?_
  have f69 := hE.stp (S3.tr (S7.tr (S11.tr (S21.tr (S40.tr (S59.tr S67)))))) rfl rfl
  have f70 := f62.stp S67 rfl rfl
  have f71 := f63.stp S67 rfl rfl
  have f72 := f64.stp S67 rfl rfl
  refine DN.res (l := [.cell 4 74, .tmp 5]) Try.results36 (res_cellA rfl f68 Try.isAgg74 Try.sizeOf74 rfl (res_tmp rfl rfl)) rfl ?_
  obtain rfl := Option.some.inj h
  exact ⟨(fun b => ren [(9, 2), (10, 3), (11, 4)] (K58 b)), a18_0, u18_0, a18_1, u18_1, a18_2, u18_2, rfl, (f69.map (ren [(9, 2), (10, 3), (11, 4)]) rfl rfl), (f70.map (ren [(9, 2), (10, 3), (11, 4)]) rfl rfl), (f71.map (ren [(9, 2), (10, 3), (11, 4)]) rfl rfl), (f72.map (ren [(9, 2), (10, 3), (11, 4)]) rfl rfl)⟩

end Go.Proofs.Ytnmjfjppgpkieaa
