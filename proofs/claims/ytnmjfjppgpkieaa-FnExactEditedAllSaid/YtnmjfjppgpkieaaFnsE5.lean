/- The walks, part 5. By program. -/
import Derived.Test.YtnmjfjppgpkieaaSort
import Derived.Test.YtnmjfjppgpkieaaShelf
import Derived.Test.YtnmjfjppgpkieaaFnsE4
set_option linter.unusedVariables false
set_option linter.unusedSimpArgs false
namespace Go.Proofs.Ytnmjfjppgpkieaa
open Go Go.Wk Go.Proofs
set_option maxRecDepth 100000
set_option maxHeartbeats 1000000

/- loop.example/g00869/laws.FnExactEditedAll -/
theorem l_FnExactEditedAll_ok {w : World} {κ : Col} {a0_0_0 : Option Addr} {u0_0_0 : Nat} {a0_0_1 : Option Addr} {u0_0_1 : Nat} {a0_1 : Option Addr} {u0_1 : Nat} {p0 : Parity} {a1 : Option Addr} {u1 : Nat} {p1 : (List Edit)} (g0_0_0 : Rd (Rp.int .i64) κ w 0 a0_0_0 u0_0_0 p0.Arena.Owner) (g0_0_1 : Rd (Rp.sl (Rp.int .i64)) κ w 0 a0_0_1 u0_0_1 p0.Arena.Next) (g0_1 : Rd (Rp.int .i64) κ w 0 a0_1 u0_1 p0.Prio) (g1 : Rd Edit.rp κ w 0 a1 u1 p1) {r : Bool} (h : l_FnExactEditedAll p0 p1 = some r) : Ret Try.prog 6 [.agg #[.slice a0_0_0 p0.Arena.Owner.length u0_0_0, .slice a0_0_1 p0.Arena.Next.length u0_0_1, .slice a0_1 p0.Prio.length u0_1], .slice a1 p1.length u1] w (fun v w' => ∃ (κ' : Col), v = .bool r ∧ Ent κ w κ' w') := by
 unfold l_FnExactEditedAll at h
 refine Ret.enter Try.func6 rfl Try.ntmps6 rfl ?_
 dsimp only [envOf]
 have hE := Ent.refl κ w
 refine WC.seq ?_
 refine WC.rs [(0, 1), (1, 2)] rfl ?_
 refine WO.box (κ := κ) 2 rfl rfl rfl rfl rfl rfl rfl fun b2 w1 K2 S3 f4 => ⟨trivial, ?_⟩
 refine WO.pn 1 rfl ?_
 refine WO.fin ?_
 refine DN.seq ?_
 refine WC.seq ?_
 refine WC.rs [(0, 2)] rfl ?_
 refine WO.pn 1 rfl ?_
 refine WO.fin ?_
 refine DN.seq ?_
 refine WC.seq ?_
 refine WC.rs [(0, 1), (1, 2), (2, 1), (3, 2)] rfl ?_
 refine WO.k1 trivial rfl rfl rfl rfl (rn_la (cs := [.slice a0_0_0 p0.Arena.Owner.length u0_0_0, .slice a0_0_1 p0.Arena.Next.length u0_0_1, .slice a0_1 p0.Prio.length u0_1]) Try.isAgg68 Try.sizeOf68 rfl rfl rfl (haE f4.cells)) ?_
 refine WO.pn 1 rfl ?_
 obtain ⟨x19, hx19, h⟩ := Option.bind_eq_some_iff.mp h
 have f5 := g0_0_0.stp S3 rfl rfl
 have f6 := g0_0_1.stp S3 rfl rfl
 have f7 := g0_1.stp S3 rfl rfl
 refine WO.call rfl rfl rfl rfl rfl rfl Try.call32 (l_szParity_ok (κ := fun b => mp [] 0 (K2 b)) (p0 := p0) (Sl.map f5 (mp [] 0) rfl rfl) (Sl.map f6 (mp [] 0) rfl rfl) (Sl.map f7 (mp [] 0) rfl rfl) hx19) ?_
 rintro _ w8 ⟨k9, rfl, e10⟩
 obtain ⟨K11, S12, m13⟩ := Ent.mixed (l := []) (κ := K2) e10 3 rfl
 refine ⟨trivial, ?_⟩
 refine WO.pn 1 rfl ?_
 refine WO.fin ?_
 refine DN.seq ?_
 refine WC.seq ?_
 refine WC.seq ?_
 refine WC.rs [(0, 2), (1, 2)] rfl ?_
 refine WO.pn 2 rfl ?_
 refine WO.fin ?_
 refine DN.seq ?_
 revert h
 cases ht15 : decide (x19 < 0) with
 | true =>
  intro h; replace h := cT h
  refine WC.ct rfl ?_
  refine WC.seq ?_
  refine WC.rs [(0, 2)] rfl ?_
  refine WO.pn 1 rfl ?_
  refine WO.fin ?_
  refine DN.seq ?_
  refine WC.ret ?_
  refine DN.retThen ?_
  have f16 := hE.stp (S3.tr S12) rfl rfl
  refine DN.res (l := [.tmp 4]) Try.results6 (res_tmp rfl rfl) rfl ?_
  obtain rfl := Option.some.inj h
  exact ⟨K11, rfl, f16⟩
 | false =>
  intro h; replace h := cF h
  refine WC.cf rfl ?_
  refine WC.skip ?_
  refine DN.seq ?_
  refine WC.seq ?_
  refine WC.rs [(0, 2), (1, 2), (2, 1), (3, 2)] rfl ?_
  refine WO.pn 2 rfl ?_
  obtain ⟨x24, hx24, h⟩ := Option.bind_eq_some_iff.mp h
  have f17 := g1.stp (S3.tr S12) rfl rfl
  refine WO.call rfl rfl rfl rfl rfl rfl Try.call40 (l_szEditS_ok (κ := fun b => mp [] 0 (K11 b)) (Sl.map f17 (mp [] 0) rfl rfl) hx24) ?_
  rintro _ w18 ⟨k19, rfl, e20⟩
  obtain ⟨K21, S22, m23⟩ := Ent.mixed (l := []) (κ := K11) e20 5 rfl
  refine ⟨trivial, ?_⟩
  refine WO.pn 1 rfl ?_
  refine WO.fin ?_
  refine DN.seq ?_
  refine WC.seq ?_
  refine WC.seq ?_
  refine WC.rs [(0, 2), (1, 2)] rfl ?_
  refine WO.pn 2 rfl ?_
  refine WO.fin ?_
  refine DN.seq ?_
  revert h
  cases ht25 : decide (x24 < 0) with
  | true =>
   intro h; replace h := cT h
   refine WC.ct rfl ?_
   refine WC.seq ?_
   refine WC.rs [(0, 2)] rfl ?_
   refine WO.pn 1 rfl ?_
   refine WO.fin ?_
   refine DN.seq ?_
   refine WC.ret ?_
   refine DN.retThen ?_
   have f26 := hE.stp (S3.tr (S12.tr S22)) rfl rfl
   refine DN.res (l := [.tmp 4]) Try.results6 (res_tmp rfl rfl) rfl ?_
   obtain rfl := Option.some.inj h
   exact ⟨K21, rfl, f26⟩
  | false =>
   intro h; replace h := cF h
   refine WC.cf rfl ?_
   refine WC.skip ?_
   refine DN.seq ?_
   refine WC.seq ?_
   refine WC.rs [(0, 1), (1, 1), (2, 2), (3, 1), (4, 1), (5, 2), (6, 2), (7, 2), (8, 1), (9, 1), (10, 2)] rfl ?_
   have f27 := f4.stp (S12.tr S22) rfl rfl
   refine WO.k1 trivial rfl rfl rfl rfl (rn_la (cs := [.slice a0_0_0 p0.Arena.Owner.length u0_0_0, .slice a0_0_1 p0.Arena.Next.length u0_0_1, .slice a0_1 p0.Prio.length u0_1]) Try.isAgg68 Try.sizeOf68 rfl rfl rfl (haE f27.cells)) ?_
   obtain ⟨x29, hx29, h⟩ := Option.bind_eq_some_iff.mp h
   have f28 := f5.stp (S12.tr S22) rfl rfl
   have f29 := f6.stp (S12.tr S22) rfl rfl
   have f30 := f7.stp (S12.tr S22) rfl rfl
   refine WO.call rfl rfl rfl rfl rfl rfl Try.call34 (l_toParity_ok (κ := fun b => mp [] 0 (K21 b)) (p0 := p0) (Sl.map f28 (mp [] 0) rfl rfl) (Sl.map f29 (mp [] 0) rfl rfl) (Sl.map f30 (mp [] 0) rfl rfl) hx29) ?_
   rintro _ w31 ⟨k32, a29_0, u29_0, a29_1, u29_1, a29_2, u29_2, rfl, e33, f34, f35, f36⟩
   obtain ⟨K37, S38, m39⟩ := Ent.mixed (l := []) (κ := K21) e33 7 rfl
   refine ⟨trivial, ?_⟩
   have f41 := f34.mx (no_int _) m39 rfl (rfl : 7 + 2 = 9)
   have f42 := f35.mx (no_own (no_int _) _) m39 rfl (rfl : 7 + 3 = 10)
   have f43 := f36.mx (no_int _) m39 rfl (rfl : 7 + 4 = 11)
   refine WO.pn 1 rfl ?_
   obtain ⟨x31, hx31, h⟩ := Option.bind_eq_some_iff.mp h
   have f44 := f17.stp (S22.tr S38) rfl rfl
   refine WO.call rfl rfl rfl rfl rfl rfl Try.call42 (l_toEditS_ok (κ := fun b => mp [] 0 (K37 b)) (Sl.map f44 (mp [] 0) rfl rfl) hx31) ?_
   rintro _ w45 ⟨k46, a31_0, u31_0, rfl, e47, f48⟩
   obtain ⟨K49, S50, m51⟩ := Ent.mixed (l := []) (κ := K37) e47 12 rfl
   refine ⟨trivial, ?_⟩
   have f53 := f48.mx Edit.no78 m51 rfl (rfl : 12 + 2 = 14)
   have f54 := f41.stp S50 rfl rfl
   obtain ⟨K55, S56, z57⟩ := fz_ex K49 w45 9
   have f58 := Sl.st z57 f54.rdc
   have f59 := f42.stp (S50.tr S56) rfl rfl
   obtain ⟨K60, S61, z62⟩ := fz_ex K55 w45 10
   have f63 := Sl.st z62 f59.rdc
   have f64 := f43.stp (S50.tr (S56.tr S61)) rfl rfl
   obtain ⟨K65, S66, z67⟩ := fz_ex K60 w45 11
   have f68 := Sl.st z67 f64.rdc
   have f69 := f53.stp (S56.tr (S61.tr S66)) rfl rfl
   obtain ⟨K70, S71, z72⟩ := fz_ex K65 w45 14
   have f73 := Sl.st z72 f69.rdc
   obtain ⟨x32, hx32, h⟩ := Option.bind_eq_some_iff.mp h
   have f74 := f58.stp (S61.tr (S66.tr S71)) rfl rfl
   have f75 := f63.stp (S66.tr S71) rfl rfl
   have f76 := f68.stp S71 rfl rfl
   refine WO.call rfl rfl rfl rfl rfl rfl Try.call41 (s_EditedAll_ok (κ := fun b => mp [] 1 (K70 b)) (p0 := x29) (Sl.map f74 (mp [] 1) rfl rfl) (Sl.map f75 (mp [] 1) rfl rfl) (Sl.map f76 (mp [] 1) rfl rfl) (Sl.map f73 (mp [] 1) rfl rfl) hx32) ?_
   rintro _ w77 ⟨k78, a32_0, u32_0, a32_1, u32_1, a32_2, u32_2, rfl, e79, f80, f81, f82⟩
   obtain ⟨K83, S84, m85, z86⟩ := Ent.mixed0 (l := []) (κ := K70) e79 15 rfl
   refine ⟨trivial, ?_⟩
   have f87 := f80.mx z86
   have f88 := f81.mx z86
   have f89 := f82.mx z86
   refine WO.pn 3 rfl ?_
   refine WO.alloc (κ := K83) 20 rfl rfl rfl rfl rfl Try.zeroValue74 rfl fun b6 w90 K91 S92 f93 => ⟨trivial, ?_⟩
   refine WO.stB0 (κ := K91) 20 (vc := [.slice a32_0 x32.1.Arena.Owner.length u32_0, .slice a32_1 x32.1.Arena.Next.length u32_1, .slice a32_2 x32.1.Prio.length u32_2]) rfl rfl rfl rfl rfl rfl rfl Try.sizeOf74 rfl rfl f93 rfl fun w94 S95 f96 => ⟨trivial, ?_⟩
   refine WO.pn 1 rfl ?_
   refine WO.fin ?_
   refine DN.seq ?_
   refine WC.seq ?_
   refine WC.rs [(0, 1), (1, 1), (2, 1), (3, 1)] rfl ?_
   have f97 := f27.stp (S38.tr (S50.tr (S56.tr (S61.tr (S66.tr (S71.tr (S84.tr (S92.tr S95)))))))) rfl rfl
   refine WO.k1 trivial rfl rfl rfl rfl (rn_la (cs := [.slice a0_0_0 p0.Arena.Owner.length u0_0_0, .slice a0_0_1 p0.Arena.Next.length u0_0_1, .slice a0_1 p0.Prio.length u0_1]) Try.isAgg68 Try.sizeOf68 rfl rfl rfl (haE f97.cells)) ?_
   obtain ⟨x36, hx36, h⟩ := Option.bind_eq_some_iff.mp h
   have f98 := f28.stp (S38.tr (S50.tr (S56.tr (S61.tr (S66.tr (S71.tr (S84.tr (S92.tr S95)))))))) rfl rfl
   have f99 := f29.stp (S38.tr (S50.tr (S56.tr (S61.tr (S66.tr (S71.tr (S84.tr (S92.tr S95)))))))) rfl rfl
   have f100 := f30.stp (S38.tr (S50.tr (S56.tr (S61.tr (S66.tr (S71.tr (S84.tr (S92.tr S95)))))))) rfl rfl
   refine WO.call rfl rfl rfl rfl rfl rfl Try.call34 (l_toParity_ok (κ := fun b => mp [] 0 (K91 b)) (p0 := p0) (Sl.map f98 (mp [] 0) rfl rfl) (Sl.map f99 (mp [] 0) rfl rfl) (Sl.map f100 (mp [] 0) rfl rfl) hx36) ?_
   rintro _ w101 ⟨k102, a36_0, u36_0, a36_1, u36_1, a36_2, u36_2, rfl, e103, f104, f105, f106⟩
   obtain ⟨K107, S108, m109⟩ := Ent.mixed (l := []) (κ := K91) e103 21 rfl
   refine ⟨trivial, ?_⟩
   have f111 := f104.mx (no_int _) m109 rfl (rfl : 21 + 2 = 23)
   have f112 := f105.mx (no_own (no_int _) _) m109 rfl (rfl : 21 + 3 = 24)
   have f113 := f106.mx (no_int _) m109 rfl (rfl : 21 + 4 = 25)
   refine WO.alloc (κ := K107) 26 rfl rfl rfl rfl rfl Try.zeroValue74 rfl fun b8 w114 K115 S116 f117 => ⟨trivial, ?_⟩
   refine WO.stB0 (κ := K115) 26 (vc := [.slice a36_0 x36.Arena.Owner.length u36_0, .slice a36_1 x36.Arena.Next.length u36_1, .slice a36_2 x36.Prio.length u36_2]) rfl rfl rfl rfl rfl rfl rfl Try.sizeOf74 rfl rfl f117 rfl fun w118 S119 f120 => ⟨trivial, ?_⟩
   refine WO.fin ?_
   refine DN.seq ?_
   refine WC.seq ?_
   refine WC.rs [(0, 2), (1, 1), (2, 2)] rfl ?_
   refine WO.pn 1 rfl ?_
   obtain ⟨x38, hx38, h⟩ := Option.bind_eq_some_iff.mp h
   have f121 := f44.stp (S50.tr (S56.tr (S61.tr (S66.tr (S71.tr (S84.tr (S92.tr (S95.tr (S108.tr (S116.tr S119)))))))))) rfl rfl
   refine WO.call rfl rfl rfl rfl rfl rfl Try.call42 (l_toEditS_ok (κ := fun b => mp [] 0 (K115 b)) (Sl.map f121 (mp [] 0) rfl rfl) hx38) ?_
   rintro _ w122 ⟨k123, a38_0, u38_0, rfl, e124, f125⟩
   obtain ⟨K126, S127, m128⟩ := Ent.mixed (l := []) (κ := K115) e124 27 rfl
   refine ⟨trivial, ?_⟩
   have f130 := f125.mx Edit.no78 m128 rfl (rfl : 27 + 2 = 29)
   refine WO.pn 1 rfl ?_
   refine WO.fin ?_
   refine DN.seq ?_
   refine WC.seq ?_
   refine WC.rs [(0, 1), (1, 2), (2, 1), (3, 2), (4, 2), (5, 2), (6, 1), (7, 1), (8, 2)] rfl ?_
   have f131 := f120.stp S127 rfl rfl
   refine WO.k1 trivial rfl rfl rfl rfl (rn_la (cs := [.slice a36_0 x36.Arena.Owner.length u36_0, .slice a36_1 x36.Arena.Next.length u36_1, .slice a36_2 x36.Prio.length u36_2]) Try.isAgg74 Try.sizeOf74 rfl rfl rfl (haE f131.cells)) ?_
   refine WO.pn 1 rfl ?_
   obtain ⟨x42, hx42, h⟩ := Option.bind_eq_some_iff.mp h
   have f132 := f111.stp (S116.tr (S119.tr S127)) rfl rfl
   have f133 := f112.stp (S116.tr (S119.tr S127)) rfl rfl
   have f134 := f113.stp (S116.tr (S119.tr S127)) rfl rfl
   refine WO.call rfl rfl rfl rfl rfl rfl Try.call43 (i_EditedAll_ok (κ := fun b => mp [] 0 (K126 b)) (p0 := x36) (Sl.map f132.rdc (mp [] 0) rfl rfl) (Sl.map f133.rdc (mp [] 0) rfl rfl) (Sl.map f134.rdc (mp [] 0) rfl rfl) (Sl.map f130.rdc (mp [] 0) rfl rfl) hx42) ?_
   rintro _ w135 ⟨k136, a42_0, u42_0, a42_1, u42_1, a42_2, u42_2, rfl, e137, f138, f139, f140⟩
   obtain ⟨K141, S142, m143⟩ := Ent.mixed (l := []) (κ := K126) e137 30 rfl
   refine ⟨trivial, ?_⟩
   have f145 := f138.mx (no_int _) m143 rfl (rfl : 30 + 2 = 32)
   have f146 := f139.mx (no_own (no_int _) _) m143 rfl (rfl : 30 + 3 = 33)
   have f147 := f140.mx (no_int _) m143 rfl (rfl : 30 + 4 = 34)
   refine WO.pn 3 rfl ?_
   refine WO.alloc (κ := K141) 35 rfl rfl rfl rfl rfl Try.zeroValue74 rfl fun b10 w148 K149 S150 f151 => ⟨trivial, ?_⟩
   refine WO.stB0 (κ := K149) 35 (vc := [.slice a42_0 x42.1.Arena.Owner.length u42_0, .slice a42_1 x42.1.Arena.Next.length u42_1, .slice a42_2 x42.1.Prio.length u42_2]) rfl rfl rfl rfl rfl rfl rfl Try.sizeOf74 rfl rfl f151 rfl fun w152 S153 f154 => ⟨trivial, ?_⟩
   refine WO.pn 1 rfl ?_
   refine WO.fin ?_
   refine DN.seq ?_
   refine WC.seq ?_
   refine WC.seq ?_
   refine WC.rs [(0, 1), (1, 1), (2, 1), (3, 2), (4, 2), (5, 2), (6, 2), (7, 2), (8, 2)] rfl ?_
   refine WO.k1 trivial rfl rfl rfl rfl (rn_la (cs := [.slice a42_0 x42.1.Arena.Owner.length u42_0, .slice a42_1 x42.1.Arena.Next.length u42_1, .slice a42_2 x42.1.Prio.length u42_2]) Try.isAgg74 Try.sizeOf74 rfl rfl rfl (haE f154.cells)) ?_
   have f155 := f96.stp (S108.tr (S116.tr (S119.tr (S127.tr (S142.tr (S150.tr S153)))))) rfl rfl
   refine WO.k1 trivial rfl rfl rfl rfl (rn_la (cs := [.slice a32_0 x32.1.Arena.Owner.length u32_0, .slice a32_1 x32.1.Arena.Next.length u32_1, .slice a32_2 x32.1.Prio.length u32_2]) Try.isAgg74 Try.sizeOf74 rfl rfl rfl (haE f155.cells)) ?_
   obtain ⟨x47, hx47, h⟩ := Option.bind_eq_some_iff.mp h
   have f156 := f145.stp (S150.tr S153) rfl rfl
   have f157 := f146.stp (S150.tr S153) rfl rfl
   have f158 := f147.stp (S150.tr S153) rfl rfl
   have f159 := f87.stp (S92.tr (S95.tr (S108.tr (S116.tr (S119.tr (S127.tr (S142.tr (S150.tr S153)))))))) rfl rfl
   have f160 := f88.stp (S92.tr (S95.tr (S108.tr (S116.tr (S119.tr (S127.tr (S142.tr (S150.tr S153)))))))) rfl rfl
   have f161 := f89.stp (S92.tr (S95.tr (S108.tr (S116.tr (S119.tr (S127.tr (S142.tr (S150.tr S153)))))))) rfl rfl
   refine WO.call rfl rfl rfl rfl rfl rfl Try.call37 (l_eqParity_ok (κ := fun b => mp [] 0 (K149 b)) (p0 := x42.1) (p1 := x32.1) (Sl.map f156.rdc (mp [] 0) rfl rfl) (Sl.map f157.rdc (mp [] 0) rfl rfl) (Sl.map f158.rdc (mp [] 0) rfl rfl) (Sl.map f159 (mp [] 0) rfl rfl) (Sl.map f160 (mp [] 0) rfl rfl) (Sl.map f161 (mp [] 0) rfl rfl) hx47) ?_
   rintro _ w162 ⟨k163, rfl, e164⟩
   obtain ⟨K165, S166, m167⟩ := Ent.mixed (l := []) (κ := K149) e164 36 rfl
   refine ⟨trivial, ?_⟩
   refine WO.pn 2 rfl ?_
   obtain ⟨p53, h, hK169⟩ := Option.bind_eq_some_iff.mp h
   refine WO.meet [(5, 2), (6, 2), (7, 2), (8, 2)] [] (fun L w' => L = [(1, .slice a1 p1.length u1), (2, .pointer (some ⟨b2, 0, none⟩)), (6, .pointer (some ⟨b6, 0, none⟩)), (7, .int .i64 x32.2), (8, .pointer (some ⟨b8, 0, none⟩)), (9, .slice a38_0 x38.length u38_0), (10, .pointer (some ⟨b10, 0, none⟩)), (11, .int .i64 x42.2), (53, .bool p53)] ∧ ∃ κ', Stp [] K165 w162 κ' w') trivial ?_ ?_
   ·
    revert h
    cases ht170 : (!x47) with
    | true =>
     intro h; replace h := cT h
     refine WO.pn 4 rfl ?_
     obtain rfl := Option.some.inj h
     exact WO.met _ trivial ⟨rfl, _, (Stp.refl _ _).wk rfl⟩ fun a ha => (ha.more (ha.more (ha.more (ha.more (ha.more (ha.more (ha.more (ha.more (ha.more ha.nil rfl) rfl) rfl) rfl) rfl) rfl) rfl) rfl) rfl)
    | false =>
     intro h; replace h := cF h
     refine WO.pn 4 rfl ?_
     obtain rfl := Option.some.inj h
     exact WO.met _ trivial ⟨rfl, _, (Stp.refl _ _).wk rfl⟩ fun a ha => (ha.more (ha.more (ha.more (ha.more (ha.more (ha.more (ha.more (ha.more (ha.more ha.nil rfl) rfl) rfl) rfl) rfl) rfl) rfl) rfl) rfl)
   rintro _ w171 _ ⟨rfl, K172, S173⟩
   have h := hK169
   refine WO.fin ?_
   refine DN.seq ?_
   revert h
   cases ht174 : p53 with
   | true =>
    intro h; replace h := cT h
    refine WC.ct rfl ?_
    refine WC.seq ?_
    refine WC.rs [(0, 2)] rfl ?_
    refine WO.pn 1 rfl ?_
    refine WO.fin ?_
    refine DN.seq ?_
    refine WC.ret ?_
    refine DN.retThen ?_
    have f175 := hE.stp (S3.tr (S12.tr (S22.tr (S38.tr (S50.tr (S56.tr (S61.tr (S66.tr (S71.tr (S84.tr (S92.tr (S95.tr (S108.tr (S116.tr (S119.tr (S127.tr (S142.tr (S150.tr (S153.tr (S166.tr S173)))))))))))))))))))) rfl rfl
    refine DN.res (l := [.tmp 4]) Try.results6 (res_tmp rfl rfl) rfl ?_
    obtain rfl := Option.some.inj h
    exact ⟨K172, rfl, f175⟩
   | false =>
    intro h; replace h := cF h
    refine WC.cf rfl ?_
    refine WC.skip ?_
    refine DN.seq ?_
    refine WC.seq ?_
    refine WC.seq ?_
    refine WC.rx (κ := K172) [2, 26] none [(0, 0), (1, 0), (2, 1), (3, 1), (4, 2)] [] (by kernel_rfl) (by kernel_rfl) fun w177 S176 => ?_
    have f178 := f131.stp (S142.tr (S150.tr (S153.tr (S166.tr (S173.tr S176))))) rfl rfl
    refine WO.k0 rfl rfl rfl rfl (rn_la (cs := [.slice a36_0 x36.Arena.Owner.length u36_0, .slice a36_1 x36.Arena.Next.length u36_1, .slice a36_2 x36.Prio.length u36_2]) Try.isAgg74 Try.sizeOf74 rfl rfl rfl (haC f178.cells rfl)) ?_
    have f179 := f97.stp (S108.tr (S116.tr (S119.tr (S127.tr (S142.tr (S150.tr (S153.tr (S166.tr (S173.tr S176))))))))) rfl rfl
    refine WO.k0 rfl rfl rfl rfl (rn_la (cs := [.slice a0_0_0 p0.Arena.Owner.length u0_0_0, .slice a0_0_1 p0.Arena.Next.length u0_0_1, .slice a0_1 p0.Prio.length u0_1]) Try.isAgg68 Try.sizeOf68 rfl rfl rfl (haC f179.cells rfl)) ?_
    obtain ⟨x56, hx56, h⟩ := Option.bind_eq_some_iff.mp h
    have f180 := f98.stp (S108.tr (S116.tr (S119.tr (S127.tr (S142.tr (S150.tr (S153.tr (S166.tr (S173.tr S176))))))))) rfl rfl
    have f181 := f99.stp (S108.tr (S116.tr (S119.tr (S127.tr (S142.tr (S150.tr (S153.tr (S166.tr (S173.tr S176))))))))) rfl rfl
    have f182 := f100.stp (S108.tr (S116.tr (S119.tr (S127.tr (S142.tr (S150.tr (S153.tr (S166.tr (S173.tr S176))))))))) rfl rfl
    refine WO.call rfl rfl rfl rfl rfl rfl Try.call34 (l_toParity_ok (κ := fun b => mp [] 0 (K172 b)) (p0 := p0) (Sl.map f180 (mp [] 0) rfl rfl) (Sl.map f181 (mp [] 0) rfl rfl) (Sl.map f182 (mp [] 0) rfl rfl) hx56) ?_
    rintro _ w183 ⟨k184, a56_0, u56_0, a56_1, u56_1, a56_2, u56_2, rfl, e185, f186, f187, f188⟩
    obtain ⟨K189, S190, m191⟩ := Ent.mixed (l := []) (κ := K172) e185 38 rfl
    refine ⟨(S190.cl rfl), ?_⟩
    have f193 := f186.mx (no_int _) m191 rfl (rfl : 38 + 2 = 40)
    have f194 := f187.mx (no_own (no_int _) _) m191 rfl (rfl : 38 + 3 = 41)
    have f195 := f188.mx (no_int _) m191 rfl (rfl : 38 + 4 = 42)
    obtain ⟨x57, hx57, h⟩ := Option.bind_eq_some_iff.mp h
    have f196 := f132.stp (S142.tr (S150.tr (S153.tr (S166.tr (S173.tr (S176.tr S190)))))) rfl rfl
    have f197 := f133.stp (S142.tr (S150.tr (S153.tr (S166.tr (S173.tr (S176.tr S190)))))) rfl rfl
    have f198 := f134.stp (S142.tr (S150.tr (S153.tr (S166.tr (S173.tr (S176.tr S190)))))) rfl rfl
    refine WO.call rfl rfl rfl rfl rfl rfl Try.call37 (l_eqParity_ok (κ := fun b => mp [] 0 (K189 b)) (p0 := x36) (p1 := x56) (Sl.map f196.rdc (mp [] 0) rfl rfl) (Sl.map f197.rdc (mp [] 0) rfl rfl) (Sl.map f198.rdc (mp [] 0) rfl rfl) (Sl.map f193.rdc (mp [] 0) rfl rfl) (Sl.map f194.rdc (mp [] 0) rfl rfl) (Sl.map f195.rdc (mp [] 0) rfl rfl) hx57) ?_
    rintro _ w199 ⟨k200, rfl, e201⟩
    obtain ⟨K202, S203, m204⟩ := Ent.mixed (l := []) (κ := K189) e201 43 rfl
    refine ⟨((S190.tr S203).cl rfl), ?_⟩
    refine WO.pn 1 rfl ?_
    refine WO.nx ?_
    refine WO.fin ?_
    refine DN.seq ?_
    revert h
    cases ht206 : (!x57) with
    | true =>
     intro h; replace h := cT h
     refine WC.ct rfl ?_
     refine WC.seq ?_
     refine WC.rs [(0, 2)] rfl ?_
     refine WO.pn 1 rfl ?_
     refine WO.fin ?_
     refine DN.seq ?_
     refine WC.ret ?_
     refine DN.retThen ?_
     have f207 := hE.stp (S3.tr (S12.tr (S22.tr (S38.tr (S50.tr (S56.tr (S61.tr (S66.tr (S71.tr (S84.tr (S92.tr (S95.tr (S108.tr (S116.tr (S119.tr (S127.tr (S142.tr (S150.tr (S153.tr (S166.tr (S173.tr (S176.tr (S190.tr S203))))))))))))))))))))))) rfl rfl
     refine DN.res (l := [.tmp 4]) Try.results6 (res_tmp rfl rfl) rfl ?_
     obtain rfl := Option.some.inj h
     exact ⟨K202, rfl, f207⟩
    | false =>
     intro h; replace h := cF h
     refine WC.cf rfl ?_
     refine WC.skip ?_
     refine DN.seq ?_
     refine WC.seq ?_
     refine WC.seq ?_
     refine WC.rs [(0, 2), (1, 2), (2, 1), (3, 1), (4, 2)] rfl ?_
     refine WO.pn 2 rfl ?_
     obtain ⟨x61, hx61, h⟩ := Option.bind_eq_some_iff.mp h
     have f208 := f121.stp (S127.tr (S142.tr (S150.tr (S153.tr (S166.tr (S173.tr (S176.tr (S190.tr S203)))))))) rfl rfl
     refine WO.call rfl rfl rfl rfl rfl rfl Try.call42 (l_toEditS_ok (κ := fun b => mp [] 0 (K202 b)) (Sl.map f208 (mp [] 0) rfl rfl) hx61) ?_
     rintro _ w209 ⟨k210, a61_0, u61_0, rfl, e211, f212⟩
     obtain ⟨K213, S214, m215⟩ := Ent.mixed (l := []) (κ := K202) e211 45 rfl
     refine ⟨trivial, ?_⟩
     have f217 := f212.mx Edit.no78 m215 rfl (rfl : 45 + 2 = 47)
     obtain ⟨x62, hx62, h⟩ := Option.bind_eq_some_iff.mp h
     have f218 := f130.stp (S142.tr (S150.tr (S153.tr (S166.tr (S173.tr (S176.tr (S190.tr (S203.tr S214)))))))) rfl rfl
     refine WO.call rfl rfl rfl rfl rfl rfl Try.call44 (l_eqEditS_ok (κ := fun b => mp [] 0 (K213 b)) (Sl.map f218.rdc (mp [] 0) rfl rfl) (Sl.map f217.rdc (mp [] 0) rfl rfl) hx62) ?_
     rintro _ w219 ⟨k220, rfl, e221⟩
     obtain ⟨K222, S223, m224⟩ := Ent.mixed (l := []) (κ := K213) e221 48 rfl
     refine ⟨trivial, ?_⟩
     refine WO.pn 1 rfl ?_
     refine WO.fin ?_
     refine DN.seq ?_
     revert h
     cases ht226 : (!x62) with
     | true =>
      intro h; replace h := cT h
      refine WC.ct rfl ?_
      refine WC.seq ?_
      refine WC.rs [(0, 2)] rfl ?_
      refine WO.pn 1 rfl ?_
      refine WO.fin ?_
      refine DN.seq ?_
      refine WC.ret ?_
      refine DN.retThen ?_
      have f227 := hE.stp (S3.tr (S12.tr (S22.tr (S38.tr (S50.tr (S56.tr (S61.tr (S66.tr (S71.tr (S84.tr (S92.tr (S95.tr (S108.tr (S116.tr (S119.tr (S127.tr (S142.tr (S150.tr (S153.tr (S166.tr (S173.tr (S176.tr (S190.tr (S203.tr (S214.tr S223))))))))))))))))))))))))) rfl rfl
      refine DN.res (l := [.tmp 4]) Try.results6 (res_tmp rfl rfl) rfl ?_
      obtain rfl := Option.some.inj h
      exact ⟨K222, rfl, f227⟩
     | false =>
      intro h; replace h := cF h
      refine WC.cf rfl ?_
      refine WC.skip ?_
      refine DN.seq ?_
      refine WC.seq ?_
      refine WC.rs [(0, 2)] rfl ?_
      refine WO.pn 1 rfl ?_
      refine WO.fin ?_
      refine DN.seq ?_
      refine WC.seq ?_
      refine WC.rs [(0, 1), (1, 2), (2, 1), (3, 2)] rfl ?_
      have f228 := f178.stp (S190.tr (S203.tr (S214.tr S223))) rfl rfl
      refine WO.k1 trivial rfl rfl rfl rfl (rn_la (cs := [.slice a36_0 x36.Arena.Owner.length u36_0, .slice a36_1 x36.Arena.Next.length u36_1, .slice a36_2 x36.Prio.length u36_2]) Try.isAgg74 Try.sizeOf74 rfl rfl rfl (haE f228.cells)) ?_
      refine WO.pn 1 rfl ?_
      obtain ⟨x66, hx66, h⟩ := Option.bind_eq_some_iff.mp h
      have f229 := f196.stp (S203.tr (S214.tr S223)) rfl rfl
      have f230 := f197.stp (S203.tr (S214.tr S223)) rfl rfl
      have f231 := f198.stp (S203.tr (S214.tr S223)) rfl rfl
      refine WO.call rfl rfl rfl rfl rfl rfl Try.call38 (l_markParity_ok (κ := fun b => mp [(23, 2), (24, 3), (25, 4)] 0 (K222 b)) (p0 := x36) (f229.map (mp [(23, 2), (24, 3), (25, 4)] 0) rfl rfl) (f230.map (mp [(23, 2), (24, 3), (25, 4)] 0) rfl rfl) (f231.map (mp [(23, 2), (24, 3), (25, 4)] 0) rfl rfl) hx66) ?_
      rintro _ w232 ⟨k233, rfl, e234, f235, hn236, f237, hn238, f239, hn240⟩
      obtain ⟨K241, S242, m243⟩ := Ent.mixed (l := [(23, 2), (24, 3), (25, 4)]) (κ := K222) e234 50 rfl
      refine ⟨trivial, ?_⟩
      have f245 := f235.mx (no_int _) m243 rfl (rfl : 50 + 2 = 52)
      have f246 := f237.mx (no_own (no_int _) _) m243 rfl (rfl : 50 + 3 = 53)
      have f247 := f239.mx (no_int _) m243 rfl (rfl : 50 + 4 = 54)
      refine WO.pn 1 rfl ?_
      refine WO.fin ?_
      refine DN.seq ?_
      refine WC.seq ?_
      refine WC.rs [(0, 2), (1, 2), (2, 1), (3, 2)] rfl ?_
      refine WO.pn 2 rfl ?_
      obtain ⟨x69, hx69, h⟩ := Option.bind_eq_some_iff.mp h
      have f248 := f218.stp (S223.tr S242) rfl rfl
      refine WO.call rfl rfl rfl rfl rfl rfl Try.call45 (l_markEditS_ok (κ := fun b => mp [(29, 2)] 0 (K241 b)) (f248.map (mp [(29, 2)] 0) rfl rfl) hx69) ?_
      rintro _ w249 ⟨k250, rfl, e251, f252, hn253⟩
      obtain ⟨K254, S255, m256⟩ := Ent.mixed (l := [(29, 2)]) (κ := K241) e251 55 rfl
      refine ⟨trivial, ?_⟩
      have f258 := f252.mx Edit.no78 m256 rfl (rfl : 55 + 2 = 57)
      refine WO.pn 1 rfl ?_
      refine WO.fin ?_
      refine DN.seq ?_
      refine WC.seq ?_
      refine WC.seq ?_
      refine WC.rs [(0, 2), (1, 2), (2, 2), (3, 1), (4, 1), (5, 1), (6, 2), (7, 2), (8, 2), (9, 2), (10, 2), (11, 2), (12, 2)] rfl ?_
      refine WO.pn 3 rfl ?_
      obtain ⟨p77, h, hK259⟩ := Option.bind_eq_some_iff.mp h
      refine WO.meet [(3, 1), (4, 1), (5, 1), (6, 2), (7, 2)] [(8, 2), (9, 2), (10, 2), (11, 2), (12, 2)] (fun L w' => L = [(1, .slice a1 p1.length u1), (2, .pointer (some ⟨b2, 0, none⟩)), (6, .pointer (some ⟨b6, 0, none⟩)), (7, .int .i64 x32.2), (10, .pointer (some ⟨b10, 0, none⟩)), (11, .int .i64 x42.2), (77, .bool p77)] ∧ ∃ κ', Stp [] K254 w249 κ' w') trivial ?_ ?_
      ·
       revert h
       cases ht260 : decide (x69.1 < 0) with
       | true =>
        intro h; replace h := cT h
        refine WO.ls rfl rfl rfl rfl ?_
        refine WO.ls rfl rfl rfl rfl ?_
        refine WO.ls rfl rfl rfl rfl ?_
        refine WO.pn 2 rfl ?_
        obtain rfl := Option.some.inj h
        exact WO.met _ trivial ⟨rfl, _, (Stp.refl _ _).wk rfl⟩ fun a ha => (ha.more (ha.more (ha.more (ha.more (ha.more (ha.more (ha.more ha.nil rfl) rfl) rfl) rfl) rfl) rfl) rfl)
       | false =>
        intro h; replace h := cF h
        have f261 := f154.stp (S166.tr (S173.tr (S176.tr (S190.tr (S203.tr (S214.tr (S223.tr (S242.tr S255)))))))) rfl rfl
        refine WO.k1 trivial rfl rfl rfl rfl (rn_la (cs := [.slice a42_0 x42.1.Arena.Owner.length u42_0, .slice a42_1 x42.1.Arena.Next.length u42_1, .slice a42_2 x42.1.Prio.length u42_2]) Try.isAgg74 Try.sizeOf74 rfl rfl rfl (haE f261.cells)) ?_
        have f262 := f155.stp (S166.tr (S173.tr (S176.tr (S190.tr (S203.tr (S214.tr (S223.tr (S242.tr S255)))))))) rfl rfl
        refine WO.k1 trivial rfl rfl rfl rfl (rn_la (cs := [.slice a32_0 x32.1.Arena.Owner.length u32_0, .slice a32_1 x32.1.Arena.Next.length u32_1, .slice a32_2 x32.1.Prio.length u32_2]) Try.isAgg74 Try.sizeOf74 rfl rfl rfl (haE f262.cells)) ?_
        obtain ⟨x75, hx75, h⟩ := Option.bind_eq_some_iff.mp h
        have f263 := f156.stp (S166.tr (S173.tr (S176.tr (S190.tr (S203.tr (S214.tr (S223.tr (S242.tr S255)))))))) rfl rfl
        have f264 := f157.stp (S166.tr (S173.tr (S176.tr (S190.tr (S203.tr (S214.tr (S223.tr (S242.tr S255)))))))) rfl rfl
        have f265 := f158.stp (S166.tr (S173.tr (S176.tr (S190.tr (S203.tr (S214.tr (S223.tr (S242.tr S255)))))))) rfl rfl
        have f266 := f159.stp (S166.tr (S173.tr (S176.tr (S190.tr (S203.tr (S214.tr (S223.tr (S242.tr S255)))))))) rfl rfl
        have f267 := f160.stp (S166.tr (S173.tr (S176.tr (S190.tr (S203.tr (S214.tr (S223.tr (S242.tr S255)))))))) rfl rfl
        have f268 := f161.stp (S166.tr (S173.tr (S176.tr (S190.tr (S203.tr (S214.tr (S223.tr (S242.tr S255)))))))) rfl rfl
        refine WO.call rfl rfl rfl rfl rfl rfl Try.call37 (l_eqParity_ok (κ := fun b => mp [] 0 (K254 b)) (p0 := x42.1) (p1 := x32.1) (Sl.map f263.rdc (mp [] 0) rfl rfl) (Sl.map f264.rdc (mp [] 0) rfl rfl) (Sl.map f265.rdc (mp [] 0) rfl rfl) (Sl.map f266 (mp [] 0) rfl rfl) (Sl.map f267 (mp [] 0) rfl rfl) (Sl.map f268 (mp [] 0) rfl rfl) hx75) ?_
        rintro _ w269 ⟨k270, rfl, e271⟩
        obtain ⟨K272, S273, m274⟩ := Ent.mixed (l := []) (κ := K254) e271 58 rfl
        refine ⟨trivial, ?_⟩
        refine WO.pn 2 rfl ?_
        obtain rfl := Option.some.inj h
        exact WO.met _ trivial ⟨rfl, _, S273.wk rfl⟩ fun a ha => (ha.more (ha.more (ha.more (ha.more (ha.more (ha.more (ha.more ha.nil rfl) rfl) rfl) rfl) rfl) rfl) rfl)
      rintro _ w276 _ ⟨rfl, K277, S278⟩
      have h := hK259
      refine WO.pn 1 rfl ?_
      obtain ⟨p82, h, hK279⟩ := Option.bind_eq_some_iff.mp h
      refine WO.meet [(9, 2), (10, 2), (11, 2), (12, 2)] [] (fun L w' => L = [(1, .slice a1 p1.length u1), (2, .pointer (some ⟨b2, 0, none⟩)), (6, .pointer (some ⟨b6, 0, none⟩)), (7, .int .i64 x32.2), (10, .pointer (some ⟨b10, 0, none⟩)), (82, .bool p82)] ∧ ∃ κ', Stp [] K277 w276 κ' w') trivial ?_ ?_
      ·
       revert h
       cases ht280 : p77 with
       | true =>
        intro h; replace h := cT h
        refine WO.pn 4 rfl ?_
        obtain rfl := Option.some.inj h
        exact WO.met _ trivial ⟨rfl, _, (Stp.refl _ _).wk rfl⟩ fun a ha => (ha.more (ha.more (ha.more (ha.more (ha.more (ha.more ha.nil rfl) rfl) rfl) rfl) rfl) rfl)
       | false =>
        intro h; replace h := cF h
        refine WO.pn 4 rfl ?_
        obtain rfl := Option.some.inj h
        exact WO.met _ trivial ⟨rfl, _, (Stp.refl _ _).wk rfl⟩ fun a ha => (ha.more (ha.more (ha.more (ha.more (ha.more (ha.more ha.nil rfl) rfl) rfl) rfl) rfl) rfl)
      rintro _ w281 _ ⟨rfl, K282, S283⟩
      have h := hK279
      refine WO.fin ?_
      refine DN.seq ?_
      revert h
      cases ht284 : p82 with
      | true =>
       intro h; replace h := cT h
       refine WC.ct rfl ?_
       refine WC.seq ?_
       refine WC.rs [(0, 2)] rfl ?_
       refine WO.pn 1 rfl ?_
       refine WO.fin ?_
       refine DN.seq ?_
       refine WC.ret ?_
       refine DN.retThen ?_
       have f285 := hE.stp (S3.tr (S12.tr (S22.tr (S38.tr (S50.tr (S56.tr (S61.tr (S66.tr (S71.tr (S84.tr (S92.tr (S95.tr (S108.tr (S116.tr (S119.tr (S127.tr (S142.tr (S150.tr (S153.tr (S166.tr (S173.tr (S176.tr (S190.tr (S203.tr (S214.tr (S223.tr (S242.tr (S255.tr (S278.tr S283))))))))))))))))))))))))))))) rfl rfl
       refine DN.res (l := [.tmp 4]) Try.results6 (res_tmp rfl rfl) rfl ?_
       obtain rfl := Option.some.inj h
       exact ⟨K282, rfl, f285⟩
      | false =>
       intro h; replace h := cF h
       refine WC.cf rfl ?_
       refine WC.skip ?_
       refine DN.seq ?_
       refine WC.seq ?_
       refine WC.rs [(0, 2)] rfl ?_
       refine WO.pn 1 rfl ?_
       refine WO.fin ?_
       refine DN.seq ?_
       refine WC.seq ?_
       refine WC.rs [(0, 1), (1, 2), (2, 1), (3, 2)] rfl ?_
       have f286 := f154.stp (S166.tr (S173.tr (S176.tr (S190.tr (S203.tr (S214.tr (S223.tr (S242.tr (S255.tr (S278.tr S283)))))))))) rfl rfl
       refine WO.k1 trivial rfl rfl rfl rfl (rn_la (cs := [.slice a42_0 x42.1.Arena.Owner.length u42_0, .slice a42_1 x42.1.Arena.Next.length u42_1, .slice a42_2 x42.1.Prio.length u42_2]) Try.isAgg74 Try.sizeOf74 rfl rfl rfl (haE f286.cells)) ?_
       refine WO.pn 1 rfl ?_
       obtain ⟨x85, hx85, h⟩ := Option.bind_eq_some_iff.mp h
       have f287 := f156.stp (S166.tr (S173.tr (S176.tr (S190.tr (S203.tr (S214.tr (S223.tr (S242.tr (S255.tr (S278.tr S283)))))))))) rfl rfl
       have f288 := f157.stp (S166.tr (S173.tr (S176.tr (S190.tr (S203.tr (S214.tr (S223.tr (S242.tr (S255.tr (S278.tr S283)))))))))) rfl rfl
       have f289 := f158.stp (S166.tr (S173.tr (S176.tr (S190.tr (S203.tr (S214.tr (S223.tr (S242.tr (S255.tr (S278.tr S283)))))))))) rfl rfl
       refine WO.call rfl rfl rfl rfl rfl rfl Try.call38 (l_markParity_ok (κ := fun b => mp [(32, 2), (33, 3), (34, 4)] 0 (K282 b)) (p0 := x42.1) (f287.map (mp [(32, 2), (33, 3), (34, 4)] 0) rfl rfl) (f288.map (mp [(32, 2), (33, 3), (34, 4)] 0) rfl rfl) (f289.map (mp [(32, 2), (33, 3), (34, 4)] 0) rfl rfl) hx85) ?_
       rintro _ w290 ⟨k291, rfl, e292, f293, hn294, f295, hn296, f297, hn298⟩
       obtain ⟨K299, S300, m301⟩ := Ent.mixed (l := [(32, 2), (33, 3), (34, 4)]) (κ := K282) e292 58 rfl
       refine ⟨trivial, ?_⟩
       have f303 := f293.mx (no_int _) m301 rfl (rfl : 58 + 2 = 60)
       have f304 := f295.mx (no_own (no_int _) _) m301 rfl (rfl : 58 + 3 = 61)
       have f305 := f297.mx (no_int _) m301 rfl (rfl : 58 + 4 = 62)
       refine WO.pn 1 rfl ?_
       refine WO.fin ?_
       refine DN.seq ?_
       refine WC.seq ?_
       refine WC.rs [(0, 2)] rfl ?_
       refine WO.pn 1 rfl ?_
       refine WO.fin ?_
       refine DN.seq ?_
       refine WC.seq ?_
       refine WC.rs [(0, 1), (1, 2), (2, 1), (3, 2)] rfl ?_
       have f306 := f286.stp S300 rfl rfl
       refine WO.k1 trivial rfl rfl rfl rfl (rn_la (cs := [.slice a42_0 x42.1.Arena.Owner.length u42_0, .slice a42_1 x42.1.Arena.Next.length u42_1, .slice a42_2 x42.1.Prio.length u42_2]) Try.isAgg74 Try.sizeOf74 rfl rfl rfl (haE f306.cells)) ?_
       refine WO.pn 1 rfl ?_
       obtain ⟨x88, hx88, h⟩ := Option.bind_eq_some_iff.mp h
       refine WO.call rfl rfl rfl rfl rfl rfl Try.call39 (Ret.cast (by simp only [(hn294), (hn296), (hn298), List.cons_append, List.nil_append]) (l_heldParity_ok (κ := fun b => mp [] 0 (K299 b)) (p0 := (⟨(⟨x85.2.1, x85.2.2.1⟩ : Arena), x85.2.2.2⟩ : Parity)) (Sl.map f303.rdc (mp [] 0) rfl rfl) (Sl.map f304.rdc (mp [] 0) rfl rfl) (Sl.map f305.rdc (mp [] 0) rfl rfl) hx88)) ?_
       rintro _ w307 ⟨k308, rfl, e309⟩
       obtain ⟨K310, S311, m312⟩ := Ent.mixed (l := []) (κ := K299) e309 63 rfl
       refine ⟨trivial, ?_⟩
       refine WO.pn 1 rfl ?_
       refine WO.fin ?_
       refine DN.seq ?_
       refine WC.seq ?_
       refine WC.seq ?_
       refine WC.rs [(0, 2), (1, 2)] rfl ?_
       refine WO.pn 2 rfl ?_
       refine WO.fin ?_
       refine DN.seq ?_
       revert h
       cases ht314 : decide (x88 < 0) with
       | true =>
        intro h; replace h := cT h
        refine WC.ct rfl ?_
        refine WC.seq ?_
        refine WC.rs [(0, 2)] rfl ?_
        refine WO.pn 1 rfl ?_
        refine WO.fin ?_
        refine DN.seq ?_
        refine WC.ret ?_
        refine DN.retThen ?_
        have f315 := hE.stp (S3.tr (S12.tr (S22.tr (S38.tr (S50.tr (S56.tr (S61.tr (S66.tr (S71.tr (S84.tr (S92.tr (S95.tr (S108.tr (S116.tr (S119.tr (S127.tr (S142.tr (S150.tr (S153.tr (S166.tr (S173.tr (S176.tr (S190.tr (S203.tr (S214.tr (S223.tr (S242.tr (S255.tr (S278.tr (S283.tr (S300.tr S311))))))))))))))))))))))))))))))) rfl rfl
        refine DN.res (l := [.tmp 4]) Try.results6 (res_tmp rfl rfl) rfl ?_
        obtain rfl := Option.some.inj h
        exact ⟨K310, rfl, f315⟩
       | false =>
        intro h; replace h := cF h
        refine WC.cf rfl ?_
        refine WC.skip ?_
        refine DN.seq ?_
        refine WC.seq ?_
        refine WC.seq ?_
        refine WC.rs [(0, 2), (1, 2), (2, 2)] rfl ?_
        refine WO.pn 3 rfl ?_
        refine WO.fin ?_
        refine DN.seq ?_
        revert h
        cases ht316 : (x88 != x85.1) with
        | true =>
         intro h; replace h := cT h
         refine WC.ct rfl ?_
         refine WC.seq ?_
         refine WC.rs [(0, 2)] rfl ?_
         refine WO.pn 1 rfl ?_
         refine WO.fin ?_
         refine DN.seq ?_
         refine WC.ret ?_
         refine DN.retThen ?_
         have f317 := hE.stp (S3.tr (S12.tr (S22.tr (S38.tr (S50.tr (S56.tr (S61.tr (S66.tr (S71.tr (S84.tr (S92.tr (S95.tr (S108.tr (S116.tr (S119.tr (S127.tr (S142.tr (S150.tr (S153.tr (S166.tr (S173.tr (S176.tr (S190.tr (S203.tr (S214.tr (S223.tr (S242.tr (S255.tr (S278.tr (S283.tr (S300.tr S311))))))))))))))))))))))))))))))) rfl rfl
         refine DN.res (l := [.tmp 4]) Try.results6 (res_tmp rfl rfl) rfl ?_
         obtain rfl := Option.some.inj h
         exact ⟨K310, rfl, f317⟩
        | false =>
         intro h; replace h := cF h
         refine WC.cf rfl ?_
         refine WC.skip ?_
         refine DN.seq ?_
         refine WC.seq ?_
         refine WC.rs [(0, 1), (1, 1), (2, 2), (3, 1), (4, 1), (5, 2), (6, 2), (7, 2), (8, 1), (9, 1), (10, 2)] rfl ?_
         have f318 := f179.stp (S190.tr (S203.tr (S214.tr (S223.tr (S242.tr (S255.tr (S278.tr (S283.tr (S300.tr S311))))))))) rfl rfl
         refine WO.k1 trivial rfl rfl rfl rfl (rn_la (cs := [.slice a0_0_0 p0.Arena.Owner.length u0_0_0, .slice a0_0_1 p0.Arena.Next.length u0_0_1, .slice a0_1 p0.Prio.length u0_1]) Try.isAgg68 Try.sizeOf68 rfl rfl rfl (haE f318.cells)) ?_
         obtain ⟨x96, hx96, h⟩ := Option.bind_eq_some_iff.mp h
         have f319 := f180.stp (S190.tr (S203.tr (S214.tr (S223.tr (S242.tr (S255.tr (S278.tr (S283.tr (S300.tr S311))))))))) rfl rfl
         have f320 := f181.stp (S190.tr (S203.tr (S214.tr (S223.tr (S242.tr (S255.tr (S278.tr (S283.tr (S300.tr S311))))))))) rfl rfl
         have f321 := f182.stp (S190.tr (S203.tr (S214.tr (S223.tr (S242.tr (S255.tr (S278.tr (S283.tr (S300.tr S311))))))))) rfl rfl
         refine WO.call rfl rfl rfl rfl rfl rfl Try.call34 (l_toParity_ok (κ := fun b => mp [] 0 (K310 b)) (p0 := p0) (Sl.map f319 (mp [] 0) rfl rfl) (Sl.map f320 (mp [] 0) rfl rfl) (Sl.map f321 (mp [] 0) rfl rfl) hx96) ?_
         rintro _ w322 ⟨k323, a96_0, u96_0, a96_1, u96_1, a96_2, u96_2, rfl, e324, f325, f326, f327⟩
         obtain ⟨K328, S329, m330⟩ := Ent.mixed (l := []) (κ := K310) e324 65 rfl
         refine ⟨trivial, ?_⟩
         have f332 := f325.mx (no_int _) m330 rfl (rfl : 65 + 2 = 67)
         have f333 := f326.mx (no_own (no_int _) _) m330 rfl (rfl : 65 + 3 = 68)
         have f334 := f327.mx (no_int _) m330 rfl (rfl : 65 + 4 = 69)
         refine WO.pn 1 rfl ?_
         obtain ⟨x98, hx98, h⟩ := Option.bind_eq_some_iff.mp h
         have f335 := f208.stp (S214.tr (S223.tr (S242.tr (S255.tr (S278.tr (S283.tr (S300.tr (S311.tr S329)))))))) rfl rfl
         refine WO.call rfl rfl rfl rfl rfl rfl Try.call42 (l_toEditS_ok (κ := fun b => mp [] 0 (K328 b)) (Sl.map f335 (mp [] 0) rfl rfl) hx98) ?_
         rintro _ w336 ⟨k337, a98_0, u98_0, rfl, e338, f339⟩
         obtain ⟨K340, S341, m342⟩ := Ent.mixed (l := []) (κ := K328) e338 70 rfl
         refine ⟨trivial, ?_⟩
         have f344 := f339.mx Edit.no78 m342 rfl (rfl : 70 + 2 = 72)
         obtain ⟨x99, hx99, h⟩ := Option.bind_eq_some_iff.mp h
         have f345 := f332.stp S341 rfl rfl
         have f346 := f333.stp S341 rfl rfl
         have f347 := f334.stp S341 rfl rfl
         refine WO.call rfl rfl rfl rfl rfl rfl Try.call43 (i_EditedAll_ok (κ := fun b => mp [] 0 (K340 b)) (p0 := x96) (Sl.map f345.rdc (mp [] 0) rfl rfl) (Sl.map f346.rdc (mp [] 0) rfl rfl) (Sl.map f347.rdc (mp [] 0) rfl rfl) (Sl.map f344.rdc (mp [] 0) rfl rfl) hx99) ?_
         rintro _ w348 ⟨k349, a99_0, u99_0, a99_1, u99_1, a99_2, u99_2, rfl, e350, f351, f352, f353⟩
         obtain ⟨K354, S355, m356⟩ := Ent.mixed (l := []) (κ := K340) e350 73 rfl
         refine ⟨trivial, ?_⟩
         have f358 := f351.mx (no_int _) m356 rfl (rfl : 73 + 2 = 75)
         have f359 := f352.mx (no_own (no_int _) _) m356 rfl (rfl : 73 + 3 = 76)
         have f360 := f353.mx (no_int _) m356 rfl (rfl : 73 + 4 = 77)
         refine WO.pn 3 rfl ?_
         refine WO.alloc (κ := K354) 78 rfl rfl rfl rfl rfl Try.zeroValue74 rfl fun b15 w361 K362 S363 f364 => ⟨trivial, ?_⟩
         refine WO.stB0 (κ := K362) 78 (vc := [.slice a99_0 x99.1.Arena.Owner.length u99_0, .slice a99_1 x99.1.Arena.Next.length u99_1, .slice a99_2 x99.1.Prio.length u99_2]) rfl rfl rfl rfl rfl rfl rfl Try.sizeOf74 rfl rfl f364 rfl fun w365 S366 f367 => ⟨trivial, ?_⟩
         refine WO.pn 1 rfl ?_
         refine WO.fin ?_
         refine DN.seq ?_
         refine WC.seq ?_
         refine WC.seq ?_
         refine WC.rs [(0, 1), (1, 1), (2, 1), (3, 2), (4, 2), (5, 2), (6, 2), (7, 2), (8, 2)] rfl ?_
         refine WO.k1 trivial rfl rfl rfl rfl (rn_la (cs := [.slice a99_0 x99.1.Arena.Owner.length u99_0, .slice a99_1 x99.1.Arena.Next.length u99_1, .slice a99_2 x99.1.Prio.length u99_2]) Try.isAgg74 Try.sizeOf74 rfl rfl rfl (haE f367.cells)) ?_
         have f368 := f155.stp (S166.tr (S173.tr (S176.tr (S190.tr (S203.tr (S214.tr (S223.tr (S242.tr (S255.tr (S278.tr (S283.tr (S300.tr (S311.tr (S329.tr (S341.tr (S355.tr (S363.tr S366))))))))))))))))) rfl rfl
         refine WO.k1 trivial rfl rfl rfl rfl (rn_la (cs := [.slice a32_0 x32.1.Arena.Owner.length u32_0, .slice a32_1 x32.1.Arena.Next.length u32_1, .slice a32_2 x32.1.Prio.length u32_2]) Try.isAgg74 Try.sizeOf74 rfl rfl rfl (haE f368.cells)) ?_
         obtain ⟨x104, hx104, h⟩ := Option.bind_eq_some_iff.mp h
         have f369 := f358.stp (S363.tr S366) rfl rfl
         have f370 := f359.stp (S363.tr S366) rfl rfl
         have f371 := f360.stp (S363.tr S366) rfl rfl
         have f372 := f159.stp (S166.tr (S173.tr (S176.tr (S190.tr (S203.tr (S214.tr (S223.tr (S242.tr (S255.tr (S278.tr (S283.tr (S300.tr (S311.tr (S329.tr (S341.tr (S355.tr (S363.tr S366))))))))))))))))) rfl rfl
         have f373 := f160.stp (S166.tr (S173.tr (S176.tr (S190.tr (S203.tr (S214.tr (S223.tr (S242.tr (S255.tr (S278.tr (S283.tr (S300.tr (S311.tr (S329.tr (S341.tr (S355.tr (S363.tr S366))))))))))))))))) rfl rfl
         have f374 := f161.stp (S166.tr (S173.tr (S176.tr (S190.tr (S203.tr (S214.tr (S223.tr (S242.tr (S255.tr (S278.tr (S283.tr (S300.tr (S311.tr (S329.tr (S341.tr (S355.tr (S363.tr S366))))))))))))))))) rfl rfl
         refine WO.call rfl rfl rfl rfl rfl rfl Try.call37 (l_eqParity_ok (κ := fun b => mp [] 0 (K362 b)) (p0 := x99.1) (p1 := x32.1) (Sl.map f369.rdc (mp [] 0) rfl rfl) (Sl.map f370.rdc (mp [] 0) rfl rfl) (Sl.map f371.rdc (mp [] 0) rfl rfl) (Sl.map f372 (mp [] 0) rfl rfl) (Sl.map f373 (mp [] 0) rfl rfl) (Sl.map f374 (mp [] 0) rfl rfl) hx104) ?_
         rintro _ w375 ⟨k376, rfl, e377⟩
         obtain ⟨K378, S379, m380⟩ := Ent.mixed (l := []) (κ := K362) e377 79 rfl
         refine ⟨trivial, ?_⟩
         refine WO.pn 2 rfl ?_
         obtain ⟨p110, h, hK382⟩ := Option.bind_eq_some_iff.mp h
         refine WO.meet [(5, 2), (6, 2), (7, 2), (8, 2)] [] (fun L w' => L = [(10, .pointer (some ⟨b10, 0, none⟩)), (13, .int .i64 x85.1), (110, .bool p110)] ∧ ∃ κ', Stp [] K378 w375 κ' w') trivial ?_ ?_
         ·
          revert h
          cases ht383 : (!x104) with
          | true =>
           intro h; replace h := cT h
           refine WO.pn 4 rfl ?_
           obtain rfl := Option.some.inj h
           exact WO.met _ trivial ⟨rfl, _, (Stp.refl _ _).wk rfl⟩ fun a ha => (ha.more (ha.more (ha.more ha.nil rfl) rfl) rfl)
          | false =>
           intro h; replace h := cF h
           refine WO.pn 4 rfl ?_
           obtain rfl := Option.some.inj h
           exact WO.met _ trivial ⟨rfl, _, (Stp.refl _ _).wk rfl⟩ fun a ha => (ha.more (ha.more (ha.more ha.nil rfl) rfl) rfl)
         rintro _ w384 _ ⟨rfl, K385, S386⟩
         have h := hK382
         refine WO.fin ?_
         refine DN.seq ?_
         revert h
         cases ht387 : p110 with
         | true =>
          intro h; replace h := cT h
          refine WC.ct rfl ?_
          refine WC.seq ?_
          refine WC.rs [(0, 2)] rfl ?_
          refine WO.pn 1 rfl ?_
          refine WO.fin ?_
          refine DN.seq ?_
          refine WC.ret ?_
          refine DN.retThen ?_
          have f388 := hE.stp (S3.tr (S12.tr (S22.tr (S38.tr (S50.tr (S56.tr (S61.tr (S66.tr (S71.tr (S84.tr (S92.tr (S95.tr (S108.tr (S116.tr (S119.tr (S127.tr (S142.tr (S150.tr (S153.tr (S166.tr (S173.tr (S176.tr (S190.tr (S203.tr (S214.tr (S223.tr (S242.tr (S255.tr (S278.tr (S283.tr (S300.tr (S311.tr (S329.tr (S341.tr (S355.tr (S363.tr (S366.tr (S379.tr S386)))))))))))))))))))))))))))))))))))))) rfl rfl
          refine DN.res (l := [.tmp 4]) Try.results6 (res_tmp rfl rfl) rfl ?_
          obtain rfl := Option.some.inj h
          exact ⟨K385, rfl, f388⟩
         | false =>
          intro h; replace h := cF h
          refine WC.cf rfl ?_
          refine WC.skip ?_
          refine DN.seq ?_
          refine WC.seq ?_
          refine WC.rs [(0, 2)] rfl ?_
          refine WO.pn 1 rfl ?_
          refine WO.fin ?_
          refine DN.seq ?_
          refine WC.seq ?_
          refine WC.rs [(0, 1), (1, 2), (2, 1), (3, 2)] rfl ?_
          have f389 := f306.stp (S311.tr (S329.tr (S341.tr (S355.tr (S363.tr (S366.tr (S379.tr S386))))))) rfl rfl
          refine WO.k1 trivial rfl rfl rfl rfl (rn_la (cs := [.slice a42_0 x42.1.Arena.Owner.length u42_0, .slice a42_1 x42.1.Arena.Next.length u42_1, .slice a42_2 x42.1.Prio.length u42_2]) Try.isAgg74 Try.sizeOf74 rfl rfl rfl (haE f389.cells)) ?_
          refine WO.pn 1 rfl ?_
          obtain ⟨x113, hx113, h⟩ := Option.bind_eq_some_iff.mp h
          have f390 := f303.stp (S311.tr (S329.tr (S341.tr (S355.tr (S363.tr (S366.tr (S379.tr S386))))))) rfl rfl
          have f391 := f304.stp (S311.tr (S329.tr (S341.tr (S355.tr (S363.tr (S366.tr (S379.tr S386))))))) rfl rfl
          have f392 := f305.stp (S311.tr (S329.tr (S341.tr (S355.tr (S363.tr (S366.tr (S379.tr S386))))))) rfl rfl
          refine WO.call rfl rfl rfl rfl rfl rfl Try.call39 (Ret.cast (by simp only [(hn294), (hn296), (hn298), List.cons_append, List.nil_append]) (l_heldParity_ok (κ := fun b => mp [] 0 (K385 b)) (p0 := (⟨(⟨x85.2.1, x85.2.2.1⟩ : Arena), x85.2.2.2⟩ : Parity)) (Sl.map f390.rdc (mp [] 0) rfl rfl) (Sl.map f391.rdc (mp [] 0) rfl rfl) (Sl.map f392.rdc (mp [] 0) rfl rfl) hx113)) ?_
          rintro _ w393 ⟨k394, rfl, e395⟩
          obtain ⟨K396, S397, m398⟩ := Ent.mixed (l := []) (κ := K385) e395 81 rfl
          refine ⟨trivial, ?_⟩
          refine WO.pn 1 rfl ?_
          refine WO.fin ?_
          refine DN.seq ?_
          refine WC.seq ?_
          refine WC.seq ?_
          refine WC.rs [(0, 2), (1, 2)] rfl ?_
          refine WO.pn 2 rfl ?_
          refine WO.fin ?_
          refine DN.seq ?_
          revert h
          cases ht400 : decide (x113 < 0) with
          | true =>
           intro h; replace h := cT h
           refine WC.ct rfl ?_
           refine WC.seq ?_
           refine WC.rs [(0, 2)] rfl ?_
           refine WO.pn 1 rfl ?_
           refine WO.fin ?_
           refine DN.seq ?_
           refine WC.ret ?_
           refine DN.retThen ?_
           have f401 := hE.stp (S3.tr (S12.tr (S22.tr (S38.tr (S50.tr (S56.tr (S61.tr (S66.tr (S71.tr (S84.tr (S92.tr (S95.tr (S108.tr (S116.tr (S119.tr (S127.tr (S142.tr (S150.tr (S153.tr (S166.tr (S173.tr (S176.tr (S190.tr (S203.tr (S214.tr (S223.tr (S242.tr (S255.tr (S278.tr (S283.tr (S300.tr (S311.tr (S329.tr (S341.tr (S355.tr (S363.tr (S366.tr (S379.tr (S386.tr S397))))))))))))))))))))))))))))))))))))))) rfl rfl
           refine DN.res (l := [.tmp 4]) Try.results6 (res_tmp rfl rfl) rfl ?_
           obtain rfl := Option.some.inj h
           exact ⟨K396, rfl, f401⟩
          | false =>
           intro h; replace h := cF h
           refine WC.cf rfl ?_
           refine WC.skip ?_
           refine DN.seq ?_
           refine WC.seq ?_
           refine WC.seq ?_
           refine WC.rs [(0, 2), (1, 2), (2, 2)] rfl ?_
           refine WO.pn 3 rfl ?_
           refine WO.fin ?_
           refine DN.seq ?_
           revert h
           cases ht402 : (x113 != x85.1) with
           | true =>
            intro h; replace h := cT h
            refine WC.ct rfl ?_
            refine WC.seq ?_
            refine WC.rs [(0, 2)] rfl ?_
            refine WO.pn 1 rfl ?_
            refine WO.fin ?_
            refine DN.seq ?_
            refine WC.ret ?_
            refine DN.retThen ?_
            have f403 := hE.stp (S3.tr (S12.tr (S22.tr (S38.tr (S50.tr (S56.tr (S61.tr (S66.tr (S71.tr (S84.tr (S92.tr (S95.tr (S108.tr (S116.tr (S119.tr (S127.tr (S142.tr (S150.tr (S153.tr (S166.tr (S173.tr (S176.tr (S190.tr (S203.tr (S214.tr (S223.tr (S242.tr (S255.tr (S278.tr (S283.tr (S300.tr (S311.tr (S329.tr (S341.tr (S355.tr (S363.tr (S366.tr (S379.tr (S386.tr S397))))))))))))))))))))))))))))))))))))))) rfl rfl
            refine DN.res (l := [.tmp 4]) Try.results6 (res_tmp rfl rfl) rfl ?_
            obtain rfl := Option.some.inj h
            exact ⟨K396, rfl, f403⟩
           | false =>
            intro h; replace h := cF h
            refine WC.cf rfl ?_
            refine WC.skip ?_
            refine DN.seq ?_
            refine WC.seq ?_
            refine WC.rs [(0, 2)] rfl ?_
            refine WO.pn 1 rfl ?_
            refine WO.fin ?_
            refine DN.seq ?_
            refine WC.ret ?_
            have f404 := hE.stp (S3.tr (S12.tr (S22.tr (S38.tr (S50.tr (S56.tr (S61.tr (S66.tr (S71.tr (S84.tr (S92.tr (S95.tr (S108.tr (S116.tr (S119.tr (S127.tr (S142.tr (S150.tr (S153.tr (S166.tr (S173.tr (S176.tr (S190.tr (S203.tr (S214.tr (S223.tr (S242.tr (S255.tr (S278.tr (S283.tr (S300.tr (S311.tr (S329.tr (S341.tr (S355.tr (S363.tr (S366.tr (S379.tr (S386.tr S397))))))))))))))))))))))))))))))))))))))) rfl rfl
            refine DN.res (l := [.tmp 4]) Try.results6 (res_tmp rfl rfl) rfl ?_
            obtain rfl := Option.some.inj h
            exact ⟨K396, rfl, f404⟩

end Go.Proofs.Ytnmjfjppgpkieaa
