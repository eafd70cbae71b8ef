/- The walks, part 4. By program. -/
import Derived.Test.YtgniipbjjkodaaaFnsC133
set_option linter.unusedVariables false
set_option linter.unusedSimpArgs false
namespace Go.Proofs.Ytgniipbjjkodaaa
open Go Go.Wk Go.Proofs
set_option maxRecDepth 100000
set_option maxHeartbeats 1000000

/- loop.example/g00869/laws.FnExactLeastOf -/
theorem l_FnExactLeastOf_ok {w : World} {κ : Col} {p0 : Sig} {a1_0 : Option Addr} {u1_0 : Nat} {a1_1 : Option Addr} {u1_1 : Nat} {p1 : Machine} (g1_0 : Rd (Rp.sl (Rp.int .i64)) κ w 0 a1_0 u1_0 p1.Next) (g1_1 : Rd (Rp.sl (Rp.int .i64)) κ w 0 a1_1 u1_1 p1.Out) {r : Bool} (h : l_FnExactLeastOf p0 p1 = some r) : Ret Try.prog 13 [.agg #[.int .i64 p0.In, .int .i64 p0.Out], .agg #[.slice a1_0 p1.Next.length u1_0, .slice a1_1 p1.Out.length u1_1]] w (fun v w' => ∃ (κ' : Col), v = .bool r ∧ Ent κ w κ' w') := by
 unfold l_FnExactLeastOf at h
 refine Ret.enter Try.func13 rfl Try.ntmps13 rfl ?_
 dsimp only [envOf]
 have hE := Ent.refl κ w
 refine WC.seq ?_
 refine WC.rs [(0, 1), (1, 1), (2, 2)] rfl ?_
 refine WO.box (κ := κ) 2 rfl rfl rfl rfl rfl rfl rfl fun b2 w1 K2 S3 f4 => ⟨trivial, ?_⟩
 refine WO.box (κ := K2) 3 rfl rfl rfl rfl rfl rfl rfl fun b3 w5 K6 S7 f8 => ⟨trivial, ?_⟩
 refine WO.pn 1 rfl ?_
 refine WO.fin ?_
 refine DN.seq ?_
 refine WC.seq ?_
 refine WC.rs [(0, 2)] rfl ?_
 refine WO.pn 1 rfl ?_
 refine WO.fin ?_
 refine DN.seq ?_
 refine WC.seq ?_
 refine WC.rs [(0, 1), (1, 2), (2, 1), (3, 2)] rfl ?_
 refine WO.k1 trivial rfl rfl rfl rfl (rn_la (cs := [.slice a1_0 p1.Next.length u1_0, .slice a1_1 p1.Out.length u1_1]) Try.isAgg77 Try.sizeOf77 rfl rfl rfl (haE f8.cells)) ?_
 refine WO.pn 1 rfl ?_
 obtain ⟨x15, hx15, h⟩ := Option.bind_eq_some_iff.mp h
 have f9 := g1_0.stp (S3.tr S7) rfl rfl
 have f10 := g1_1.stp (S3.tr S7) rfl rfl
 refine WO.call rfl rfl rfl rfl rfl rfl Try.call45 (l_szMachine_ok (κ := fun b => mp [] 0 (K6 b)) (p0 := p1) (Sl.map f9 (mp [] 0) rfl rfl) (Sl.map f10 (mp [] 0) rfl rfl) hx15) ?_
 rintro _ w11 ⟨k12, rfl, e13⟩
 obtain ⟨K14, S15, m16⟩ := Ent.mixed (l := []) (κ := K6) e13 4 rfl
 refine ⟨trivial, ?_⟩
 refine WO.pn 1 rfl ?_
 refine WO.fin ?_
 refine DN.seq ?_
 refine WC.seq ?_
 refine WC.seq ?_
 refine WC.rs [(0, 2), (1, 2)] rfl ?_
 refine WO.pn 2 rfl ?_
 refine WO.fin ?_
 refine DN.seq ?_
 revert h
 cases ht18 : decide (x15 < 0) with
 | true =>
  intro h; replace h := cT h
  refine WC.ct rfl ?_
  refine WC.seq ?_
  refine WC.rs [(0, 2)] rfl ?_
  refine WO.pn 1 rfl ?_
  refine WO.fin ?_
  refine DN.seq ?_
  refine WC.ret ?_
  refine DN.retThen ?_
  have f19 := hE.stp (S3.tr (S7.tr S15)) rfl rfl
  refine DN.res (l := [.tmp 4]) Try.results13 (res_tmp rfl rfl) rfl ?_
  obtain rfl := Option.some.inj h
  exact ⟨K14, rfl, f19⟩
 | false =>
  intro h; replace h := cF h
  refine WC.cf rfl ?_
  refine WC.skip ?_
  refine DN.seq ?_
  refine WC.seq ?_
  obtain ⟨x19, hx19, h⟩ := Option.bind_eq_some_iff.mp h
  obtain ⟨x21, hx21, h⟩ := Option.bind_eq_some_iff.mp h
  obtain ⟨x22, hx22, h⟩ := Option.bind_eq_some_iff.mp h
  refine WC.meet (fun L w' => ∃ (κ' : Col) (b6 : Nat) (lar23_0 : Option Addr) (lur23_0 : Nat) (lar23_1 : Option Addr) (lur23_1 : Nat), L = [(2, .pointer (some ⟨b2, 0, none⟩)), (3, .pointer (some ⟨b3, 0, none⟩)), (6, .pointer (some ⟨b6, 0, none⟩))] ∧ Stp [6, 8, 12, 14, 15, 16] K14 w11 κ' w' ∧ Oc (Ep.own (Ep.int .i64) 2) 24 κ' w' 6 lar23_0 lur23_0 x22.Next ∧ Oc (Ep.own (Ep.int .i64) 2) 24 κ' w' 7 lar23_1 lur23_1 x22.Out ∧ Bc κ' w' 8 b6 84 [.slice lar23_0 x22.Next.length lur23_0, .slice lar23_1 x22.Out.length lur23_1]) ?_ ?_
  ·
   refine WC.rxt (κ := K14) 5 none (by kernel_rfl) fun w27 S28 => ?_
   refine WA.seg (fuel := 5) [(0, 0), (2, 0)] (by kernel_rfl) (by kernel_rfl) rfl ?_
   have f29 := f4.stp (S7.tr (S15.tr S28)) rfl rfl
   refine WO.k0 rfl rfl rfl rfl (rn_la (cs := [.int .i64 p0.In, .int .i64 p0.Out]) Try.isAgg23 Try.sizeOf23 rfl rfl rfl (haC f29.cells rfl)) ?_
   have f30 := f8.stp (S15.tr S28) rfl rfl
   refine WO.k0 rfl rfl rfl rfl (rn_la (cs := [.slice a1_0 p1.Next.length u1_0, .slice a1_1 p1.Out.length u1_1]) Try.isAgg77 Try.sizeOf77 rfl rfl rfl (haC f30.cells rfl)) ?_
   refine WO.wa ?_
   refine WA.fork2 (fuel := 4) 1 5 (by kernel_rfl) rfl ?_ ?_
   ·
    refine WO.call rfl rfl rfl rfl rfl rfl Try.call17 (l_toSig_ok (κ := fun b => mp [] 0 (K14 b)) (p0 := p0) hx19) ?_
    rintro _ w31 ⟨k32, rfl, e33⟩
    obtain ⟨K34, S35, m36⟩ := Ent.mixed (l := []) (κ := K14) e33 6 rfl
    refine ⟨(S35.cl rfl), ?_⟩
    refine WO.wa ?_
    refine WA.fork2 (fuel := 3) 3 5 (by kernel_rfl) rfl ?_ ?_
    ·
     have f38 := f9.stp (S15.tr (S28.tr S35)) rfl rfl
     have f39 := f10.stp (S15.tr (S28.tr S35)) rfl rfl
     refine WO.call rfl rfl rfl rfl rfl rfl Try.call48 (l_toMachine_ok (κ := fun b => mp [] 0 (K34 b)) (p0 := p1) (Sl.map f38 (mp [] 0) rfl rfl) (Sl.map f39 (mp [] 0) rfl rfl) hx21) ?_
     rintro _ w40 ⟨k41, a21_0, u21_0, a21_1, u21_1, rfl, e42, f43, f44⟩
     obtain ⟨K45, S46, m47⟩ := Ent.mixed (l := []) (κ := K34) e42 8 rfl
     refine ⟨((S35.tr S46).cl rfl), ?_⟩
     have f49 := f43.mx (no_own (no_int _) _) m47 rfl (rfl : 8 + 2 = 10)
     have f50 := f44.mx (no_own (no_int _) _) m47 rfl (rfl : 8 + 3 = 11)
     refine WO.wa ?_
     refine WA.fork2 (fuel := 2) 4 5 (by kernel_rfl) rfl ?_ ?_
     ·
      refine WO.call rfl rfl rfl rfl rfl rfl Try.call63 (s_LeastOf_ok (κ := fun b => mp [] 0 (K45 b)) (p0 := x19) (p1 := x21) (Sl.map f49.rdc (mp [] 0) rfl rfl) (Sl.map f50.rdc (mp [] 0) rfl rfl) hx22) ?_
      rintro _ w51 ⟨k52, a22_0, u22_0, a22_1, u22_1, rfl, e53, f54, f55⟩
      obtain ⟨K56, S57, m58⟩ := Ent.mixed (l := []) (κ := K45) e53 12 rfl
      refine ⟨((S35.tr (S46.tr S57)).cl rfl), ?_⟩
      have f60 := f54.mx (no_own (no_int _) _) m58 rfl (rfl : 12 + 2 = 14)
      have f61 := f55.mx (no_own (no_int _) _) m58 rfl (rfl : 12 + 3 = 15)
      refine WO.wa ?_
      refine WA.seg (fuel := 0) [(5, 1), (6, 1)] (by kernel_rfl) (by kernel_rfl) rfl ?_
      refine WO.alloc (κ := K56) 16 rfl rfl rfl rfl rfl Try.zeroValue84 rfl fun b6 w62 K63 S64 f65 => ⟨((S35.tr (S46.tr (S57.tr S64))).cl rfl), ?_⟩
      refine WO.stB0 (κ := K63) 16 (vc := [.slice a22_0 x22.Next.length u22_0, .slice a22_1 x22.Out.length u22_1]) rfl rfl rfl rfl rfl rfl rfl Try.sizeOf84 rfl rfl f65 rfl fun w66 S67 f68 => ⟨((S35.tr (S46.tr (S57.tr (S64.tr S67)))).cl rfl), ?_⟩
      refine WO.wa ?_
      refine WA.last [] (by kernel_rfl) (by kernel_rfl) rfl ?_
      refine WO.fin ?_
      have f69 := f60.stp (S64.tr S67) rfl rfl
      have f70 := f61.stp (S64.tr S67) rfl rfl
      exact DN.meet _ ⟨(fun b => ren [(14, 6), (15, 7), (16, 8)] (K63 b)), b6, a22_0, u22_0, a22_1, u22_1, rfl, (Stp.ren ((S28.tr (S35.tr (S46.tr (S57.tr (S64.tr S67))))).wk rfl) [(14, 6), (15, 7), (16, 8)] rfl), (f69.map (ren [(14, 6), (15, 7), (16, 8)]) rfl rfl), (f70.map (ren [(14, 6), (15, 7), (16, 8)]) rfl rfl), (f68.map (ren [(14, 6), (15, 7), (16, 8)]) rfl rfl)⟩ fun a ha => (ha.more (ha.more (ha.more ha.nil rfl) rfl) rfl)
     ·
      refine WO.alloc (κ := K45) 12 rfl rfl rfl rfl rfl Try.zeroValue84 rfl fun b6 w71 K72 S73 f74 => ⟨((S35.tr (S46.tr S73)).cl rfl), ?_⟩
      refine WO.wa ?_
      refine WA.seg (fuel := 0) [(4, 1), (6, 1)] (by kernel_rfl) (by kernel_rfl) rfl ?_
      have f75 := f49.stp S73 rfl rfl
      have f76 := f50.stp S73 rfl rfl
      refine WO.call rfl rfl rfl rfl rfl rfl Try.call63 (s_LeastOf_ok (κ := fun b => mp [] 0 (K72 b)) (p0 := x19) (p1 := x21) (Sl.map f75.rdc (mp [] 0) rfl rfl) (Sl.map f76.rdc (mp [] 0) rfl rfl) hx22) ?_
      rintro _ w77 ⟨k78, a22_0, u22_0, a22_1, u22_1, rfl, e79, f80, f81⟩
      obtain ⟨K82, S83, m84⟩ := Ent.mixed (l := []) (κ := K72) e79 13 rfl
      refine ⟨((S35.tr (S46.tr (S73.tr S83))).cl rfl), ?_⟩
      have f86 := f80.mx (no_own (no_int _) _) m84 rfl (rfl : 13 + 2 = 15)
      have f87 := f81.mx (no_own (no_int _) _) m84 rfl (rfl : 13 + 3 = 16)
      have f88 := f74.stp S83 rfl rfl
      refine WO.stB0 (κ := K82) 12 (vc := [.slice a22_0 x22.Next.length u22_0, .slice a22_1 x22.Out.length u22_1]) rfl rfl rfl rfl rfl rfl rfl Try.sizeOf84 rfl rfl f88 rfl fun w89 S90 f91 => ⟨((S35.tr (S46.tr (S73.tr (S83.tr S90)))).cl rfl), ?_⟩
      refine WO.wa ?_
      refine WA.last [] (by kernel_rfl) (by kernel_rfl) rfl ?_
      refine WO.fin ?_
      have f92 := f86.stp S90 rfl rfl
      have f93 := f87.stp S90 rfl rfl
      exact DN.meet _ ⟨(fun b => ren [(15, 6), (16, 7), (12, 8)] (K82 b)), b6, a22_0, u22_0, a22_1, u22_1, rfl, (Stp.ren ((S28.tr (S35.tr (S46.tr (S73.tr (S83.tr S90))))).wk rfl) [(15, 6), (16, 7), (12, 8)] rfl), (f92.map (ren [(15, 6), (16, 7), (12, 8)]) rfl rfl), (f93.map (ren [(15, 6), (16, 7), (12, 8)]) rfl rfl), (f91.map (ren [(15, 6), (16, 7), (12, 8)]) rfl rfl)⟩ fun a ha => (ha.more (ha.more (ha.more ha.nil rfl) rfl) rfl)
    ·
     refine WO.alloc (κ := K34) 8 rfl rfl rfl rfl rfl Try.zeroValue84 rfl fun b6 w94 K95 S96 f97 => ⟨((S35.tr S96).cl rfl), ?_⟩
     refine WO.wa ?_
     refine WA.seg (fuel := 0) [(3, 1), (4, 1), (6, 1)] (by kernel_rfl) (by kernel_rfl) rfl ?_
     have f98 := f9.stp (S15.tr (S28.tr (S35.tr S96))) rfl rfl
     have f99 := f10.stp (S15.tr (S28.tr (S35.tr S96))) rfl rfl
     refine WO.call rfl rfl rfl rfl rfl rfl Try.call48 (l_toMachine_ok (κ := fun b => mp [] 0 (K95 b)) (p0 := p1) (Sl.map f98 (mp [] 0) rfl rfl) (Sl.map f99 (mp [] 0) rfl rfl) hx21) ?_
     rintro _ w100 ⟨k101, a21_0, u21_0, a21_1, u21_1, rfl, e102, f103, f104⟩
     obtain ⟨K105, S106, m107⟩ := Ent.mixed (l := []) (κ := K95) e102 9 rfl
     refine ⟨((S35.tr (S96.tr S106)).cl rfl), ?_⟩
     have f109 := f103.mx (no_own (no_int _) _) m107 rfl (rfl : 9 + 2 = 11)
     have f110 := f104.mx (no_own (no_int _) _) m107 rfl (rfl : 9 + 3 = 12)
     refine WO.call rfl rfl rfl rfl rfl rfl Try.call63 (s_LeastOf_ok (κ := fun b => mp [] 0 (K105 b)) (p0 := x19) (p1 := x21) (Sl.map f109.rdc (mp [] 0) rfl rfl) (Sl.map f110.rdc (mp [] 0) rfl rfl) hx22) ?_
     rintro _ w111 ⟨k112, a22_0, u22_0, a22_1, u22_1, rfl, e113, f114, f115⟩
     obtain ⟨K116, S117, m118⟩ := Ent.mixed (l := []) (κ := K105) e113 13 rfl
     refine ⟨((S35.tr (S96.tr (S106.tr S117))).cl rfl), ?_⟩
     have f120 := f114.mx (no_own (no_int _) _) m118 rfl (rfl : 13 + 2 = 15)
     have f121 := f115.mx (no_own (no_int _) _) m118 rfl (rfl : 13 + 3 = 16)
     have f122 := f97.stp (S106.tr S117) rfl rfl
     refine WO.stB0 (κ := K116) 8 (vc := [.slice a22_0 x22.Next.length u22_0, .slice a22_1 x22.Out.length u22_1]) rfl rfl rfl rfl rfl rfl rfl Try.sizeOf84 rfl rfl f122 rfl fun w123 S124 f125 => ⟨((S35.tr (S96.tr (S106.tr (S117.tr S124)))).cl rfl), ?_⟩
     refine WO.wa ?_
     refine WA.last [] (by kernel_rfl) (by kernel_rfl) rfl ?_
     refine WO.fin ?_
     have f126 := f120.stp S124 rfl rfl
     have f127 := f121.stp S124 rfl rfl
     exact DN.meet _ ⟨(fun b => ren [(15, 6), (16, 7)] (K116 b)), b6, a22_0, u22_0, a22_1, u22_1, rfl, (Stp.ren ((S28.tr (S35.tr (S96.tr (S106.tr (S117.tr S124))))).wk rfl) [(15, 6), (16, 7)] rfl), (f126.map (ren [(15, 6), (16, 7)]) rfl rfl), (f127.map (ren [(15, 6), (16, 7)]) rfl rfl), (f125.map (ren [(15, 6), (16, 7)]) rfl rfl)⟩ fun a ha => (ha.more (ha.more (ha.more ha.nil rfl) rfl) rfl)
   ·
    refine WO.alloc (κ := K14) 6 rfl rfl rfl rfl rfl Try.zeroValue84 rfl fun b6 w128 K129 S130 f131 => ⟨(S130.cl rfl), ?_⟩
    refine WO.wa ?_
    refine WA.seg (fuel := 0) [(1, 1), (3, 1), (4, 1), (6, 1)] (by kernel_rfl) (by kernel_rfl) rfl ?_
    refine WO.call rfl rfl rfl rfl rfl rfl Try.call17 (l_toSig_ok (κ := fun b => mp [] 0 (K129 b)) (p0 := p0) hx19) ?_
    rintro _ w132 ⟨k133, rfl, e134⟩
    obtain ⟨K135, S136, m137⟩ := Ent.mixed (l := []) (κ := K129) e134 7 rfl
    refine ⟨((S130.tr S136).cl rfl), ?_⟩
    have f139 := f9.stp (S15.tr (S28.tr (S130.tr S136))) rfl rfl
    have f140 := f10.stp (S15.tr (S28.tr (S130.tr S136))) rfl rfl
    refine WO.call rfl rfl rfl rfl rfl rfl Try.call48 (l_toMachine_ok (κ := fun b => mp [] 0 (K135 b)) (p0 := p1) (Sl.map f139 (mp [] 0) rfl rfl) (Sl.map f140 (mp [] 0) rfl rfl) hx21) ?_
    rintro _ w141 ⟨k142, a21_0, u21_0, a21_1, u21_1, rfl, e143, f144, f145⟩
    obtain ⟨K146, S147, m148⟩ := Ent.mixed (l := []) (κ := K135) e143 9 rfl
    refine ⟨((S130.tr (S136.tr S147)).cl rfl), ?_⟩
    have f150 := f144.mx (no_own (no_int _) _) m148 rfl (rfl : 9 + 2 = 11)
    have f151 := f145.mx (no_own (no_int _) _) m148 rfl (rfl : 9 + 3 = 12)
    refine WO.call rfl rfl rfl rfl rfl rfl Try.call63 (s_LeastOf_ok (κ := fun b => mp [] 0 (K146 b)) (p0 := x19) (p1 := x21) (Sl.map f150.rdc (mp [] 0) rfl rfl) (Sl.map f151.rdc (mp [] 0) rfl rfl) hx22) ?_
    rintro _ w152 ⟨k153, a22_0, u22_0, a22_1, u22_1, rfl, e154, f155, f156⟩
    obtain ⟨K157, S158, m159⟩ := Ent.mixed (l := []) (κ := K146) e154 13 rfl
    refine ⟨((S130.tr (S136.tr (S147.tr S158))).cl rfl), ?_⟩
    have f161 := f155.mx (no_own (no_int _) _) m159 rfl (rfl : 13 + 2 = 15)
    have f162 := f156.mx (no_own (no_int _) _) m159 rfl (rfl : 13 + 3 = 16)
    have f163 := f131.stp (S136.tr (S147.tr S158)) rfl rfl
    refine WO.stB0 (κ := K157) 6 (vc := [.slice a22_0 x22.Next.length u22_0, .slice a22_1 x22.Out.length u22_1]) rfl rfl rfl rfl rfl rfl rfl Try.sizeOf84 rfl rfl f163 rfl fun w164 S165 f166 => ⟨((S130.tr (S136.tr (S147.tr (S158.tr S165)))).cl rfl), ?_⟩
    refine WO.wa ?_
    refine WA.last [] (by kernel_rfl) (by kernel_rfl) rfl ?_
    refine WO.fin ?_
    have f167 := f161.stp S165 rfl rfl
    have f168 := f162.stp S165 rfl rfl
    exact DN.meet _ ⟨(fun b => ren [(15, 6), (16, 7), (6, 8)] (K157 b)), b6, a22_0, u22_0, a22_1, u22_1, rfl, (Stp.ren ((S28.tr (S130.tr (S136.tr (S147.tr (S158.tr S165))))).wk rfl) [(15, 6), (16, 7), (6, 8)] rfl), (f167.map (ren [(15, 6), (16, 7), (6, 8)]) rfl rfl), (f168.map (ren [(15, 6), (16, 7), (6, 8)]) rfl rfl), (f166.map (ren [(15, 6), (16, 7), (6, 8)]) rfl rfl)⟩ fun a ha => (ha.more (ha.more (ha.more ha.nil rfl) rfl) rfl)
  rintro _ w20 ⟨K21, b6, lar23_0, lur23_0, lar23_1, lur23_1, rfl, S22, f24, f25, f26⟩
  refine DN.seq ?_
  refine WC.seq ?_
  refine WC.rs [(0, 1), (1, 1), (2, 1), (3, 1)] rfl ?_
  have f169 := f8.stp (S15.tr S22) rfl rfl
  refine WO.k1 trivial rfl rfl rfl rfl (rn_la (cs := [.slice a1_0 p1.Next.length u1_0, .slice a1_1 p1.Out.length u1_1]) Try.isAgg77 Try.sizeOf77 rfl rfl rfl (haE f169.cells)) ?_
  obtain ⟨x24, hx24, h⟩ := Option.bind_eq_some_iff.mp h
  have f170 := f9.stp (S15.tr S22) rfl rfl
  have f171 := f10.stp (S15.tr S22) rfl rfl
  refine WO.call rfl rfl rfl rfl rfl rfl Try.call48 (l_toMachine_ok (κ := fun b => mp [] 0 (K21 b)) (p0 := p1) (Sl.map f170 (mp [] 0) rfl rfl) (Sl.map f171 (mp [] 0) rfl rfl) hx24) ?_
  rintro _ w172 ⟨k173, a24_0, u24_0, a24_1, u24_1, rfl, e174, f175, f176⟩
  obtain ⟨K177, S178, m179⟩ := Ent.mixed (l := []) (κ := K21) e174 9 rfl
  refine ⟨trivial, ?_⟩
  have f181 := f175.mx (no_own (no_int _) _) m179 rfl (rfl : 9 + 2 = 11)
  have f182 := f176.mx (no_own (no_int _) _) m179 rfl (rfl : 9 + 3 = 12)
  refine WO.alloc (κ := K177) 13 rfl rfl rfl rfl rfl Try.zeroValue84 rfl fun b7 w183 K184 S185 f186 => ⟨trivial, ?_⟩
  refine WO.stB0 (κ := K184) 13 (vc := [.slice a24_0 x24.Next.length u24_0, .slice a24_1 x24.Out.length u24_1]) rfl rfl rfl rfl rfl rfl rfl Try.sizeOf84 rfl rfl f186 rfl fun w187 S188 f189 => ⟨trivial, ?_⟩
  refine WO.fin ?_
  refine DN.seq ?_
  refine WC.seq ?_
  obtain ⟨x26, hx26, h⟩ := Option.bind_eq_some_iff.mp h
  obtain ⟨x28, hx28, h⟩ := Option.bind_eq_some_iff.mp h
  refine WC.meet (fun L w' => ∃ (κ' : Col) (b8 : Nat) (lar193_0 : Option Addr) (lur193_0 : Nat) (lar193_1 : Option Addr) (lur193_1 : Nat), L = [(2, .pointer (some ⟨b2, 0, none⟩)), (3, .pointer (some ⟨b3, 0, none⟩)), (6, .pointer (some ⟨b6, 0, none⟩)), (7, .pointer (some ⟨b7, 0, none⟩)), (8, .pointer (some ⟨b8, 0, none⟩))] ∧ Stp [14, 16, 18, 19, 20] K184 w187 κ' w' ∧ Oc (Ep.own (Ep.int .i64) 2) 24 κ' w' 14 lar193_0 lur193_0 x28.Next ∧ Oc (Ep.own (Ep.int .i64) 2) 24 κ' w' 15 lar193_1 lur193_1 x28.Out ∧ Bc κ' w' 16 b8 84 [.slice lar193_0 x28.Next.length lur193_0, .slice lar193_1 x28.Out.length lur193_1]) ?_ ?_
  ·
   refine WC.rxt (κ := K184) 13 none (by kernel_rfl) fun w197 S198 => ?_
   refine WA.seg (fuel := 4) [(0, 0), (2, 0)] (by kernel_rfl) (by kernel_rfl) rfl ?_
   have f199 := f4.stp (S7.tr (S15.tr (S22.tr (S178.tr (S185.tr (S188.tr S198)))))) rfl rfl
   refine WO.k0 rfl rfl rfl rfl (rn_la (cs := [.int .i64 p0.In, .int .i64 p0.Out]) Try.isAgg23 Try.sizeOf23 rfl rfl rfl (haC f199.cells rfl)) ?_
   have f200 := f189.stp S198 rfl rfl
   refine WO.k0 rfl rfl rfl rfl (rn_la (cs := [.slice a24_0 x24.Next.length u24_0, .slice a24_1 x24.Out.length u24_1]) Try.isAgg84 Try.sizeOf84 rfl rfl rfl (haC f200.cells rfl)) ?_
   refine WO.wa ?_
   refine WA.fork2 (fuel := 3) 1 4 (by kernel_rfl) rfl ?_ ?_
   ·
    refine WO.call rfl rfl rfl rfl rfl rfl Try.call17 (l_toSig_ok (κ := fun b => mp [] 0 (K184 b)) (p0 := p0) hx26) ?_
    rintro _ w201 ⟨k202, rfl, e203⟩
    obtain ⟨K204, S205, m206⟩ := Ent.mixed (l := []) (κ := K184) e203 14 rfl
    refine ⟨(S205.cl rfl), ?_⟩
    refine WO.wa ?_
    refine WA.fork2 (fuel := 2) 3 4 (by kernel_rfl) rfl ?_ ?_
    ·
     have f208 := f181.stp (S185.tr (S188.tr (S198.tr S205))) rfl rfl
     have f209 := f182.stp (S185.tr (S188.tr (S198.tr S205))) rfl rfl
     refine WO.call rfl rfl rfl rfl rfl rfl Try.call64 (i_LeastOf_ok (κ := fun b => mp [] 0 (K204 b)) (p0 := x26) (p1 := x24) (Sl.map f208.rdc (mp [] 0) rfl rfl) (Sl.map f209.rdc (mp [] 0) rfl rfl) hx28) ?_
     rintro _ w210 ⟨k211, a28_0, u28_0, a28_1, u28_1, rfl, e212, f213, f214⟩
     obtain ⟨K215, S216, m217⟩ := Ent.mixed (l := []) (κ := K204) e212 16 rfl
     refine ⟨((S205.tr S216).cl rfl), ?_⟩
     have f219 := f213.mx (no_own (no_int _) _) m217 rfl (rfl : 16 + 2 = 18)
     have f220 := f214.mx (no_own (no_int _) _) m217 rfl (rfl : 16 + 3 = 19)
     refine WO.wa ?_
     refine WA.seg (fuel := 0) [(4, 1), (5, 1)] (by kernel_rfl) (by kernel_rfl) rfl ?_
     refine WO.alloc (κ := K215) 20 rfl rfl rfl rfl rfl Try.zeroValue84 rfl fun b8 w221 K222 S223 f224 => ⟨((S205.tr (S216.tr S223)).cl rfl), ?_⟩
     refine WO.stB0 (κ := K222) 20 (vc := [.slice a28_0 x28.Next.length u28_0, .slice a28_1 x28.Out.length u28_1]) rfl rfl rfl rfl rfl rfl rfl Try.sizeOf84 rfl rfl f224 rfl fun w225 S226 f227 => ⟨((S205.tr (S216.tr (S223.tr S226))).cl rfl), ?_⟩
     refine WO.wa ?_
     refine WA.last [] (by kernel_rfl) (by kernel_rfl) rfl ?_
     refine WO.fin ?_
     have f228 := f219.stp (S223.tr S226) rfl rfl
     have f229 := f220.stp (S223.tr S226) rfl rfl
     exact DN.meet _ ⟨(fun b => ren [(18, 14), (19, 15), (20, 16)] (K222 b)), b8, a28_0, u28_0, a28_1, u28_1, rfl, (Stp.ren ((S198.tr (S205.tr (S216.tr (S223.tr S226)))).wk rfl) [(18, 14), (19, 15), (20, 16)] rfl), (f228.map (ren [(18, 14), (19, 15), (20, 16)]) rfl rfl), (f229.map (ren [(18, 14), (19, 15), (20, 16)]) rfl rfl), (f227.map (ren [(18, 14), (19, 15), (20, 16)]) rfl rfl)⟩ fun a ha => (ha.more (ha.more (ha.more (ha.more (ha.more ha.nil rfl) rfl) rfl) rfl) rfl)
    ·
     refine WO.alloc (κ := K204) 16 rfl rfl rfl rfl rfl Try.zeroValue84 rfl fun b8 w230 K231 S232 f233 => ⟨((S205.tr S232).cl rfl), ?_⟩
     refine WO.wa ?_
     refine WA.seg (fuel := 0) [(3, 1), (5, 1)] (by kernel_rfl) (by kernel_rfl) rfl ?_
     have f234 := f181.stp (S185.tr (S188.tr (S198.tr (S205.tr S232)))) rfl rfl
     have f235 := f182.stp (S185.tr (S188.tr (S198.tr (S205.tr S232)))) rfl rfl
     refine WO.call rfl rfl rfl rfl rfl rfl Try.call64 (i_LeastOf_ok (κ := fun b => mp [] 0 (K231 b)) (p0 := x26) (p1 := x24) (Sl.map f234.rdc (mp [] 0) rfl rfl) (Sl.map f235.rdc (mp [] 0) rfl rfl) hx28) ?_
     rintro _ w236 ⟨k237, a28_0, u28_0, a28_1, u28_1, rfl, e238, f239, f240⟩
     obtain ⟨K241, S242, m243⟩ := Ent.mixed (l := []) (κ := K231) e238 17 rfl
     refine ⟨((S205.tr (S232.tr S242)).cl rfl), ?_⟩
     have f245 := f239.mx (no_own (no_int _) _) m243 rfl (rfl : 17 + 2 = 19)
     have f246 := f240.mx (no_own (no_int _) _) m243 rfl (rfl : 17 + 3 = 20)
     have f247 := f233.stp S242 rfl rfl
     refine WO.stB0 (κ := K241) 16 (vc := [.slice a28_0 x28.Next.length u28_0, .slice a28_1 x28.Out.length u28_1]) rfl rfl rfl rfl rfl rfl rfl Try.sizeOf84 rfl rfl f247 rfl fun w248 S249 f250 => ⟨((S205.tr (S232.tr (S242.tr S249))).cl rfl), ?_⟩
     refine WO.wa ?_
     refine WA.last [] (by kernel_rfl) (by kernel_rfl) rfl ?_
     refine WO.fin ?_
     have f251 := f245.stp S249 rfl rfl
     have f252 := f246.stp S249 rfl rfl
     exact DN.meet _ ⟨(fun b => ren [(19, 14), (20, 15)] (K241 b)), b8, a28_0, u28_0, a28_1, u28_1, rfl, (Stp.ren ((S198.tr (S205.tr (S232.tr (S242.tr S249)))).wk rfl) [(19, 14), (20, 15)] rfl), (f251.map (ren [(19, 14), (20, 15)]) rfl rfl), (f252.map (ren [(19, 14), (20, 15)]) rfl rfl), (f250.map (ren [(19, 14), (20, 15)]) rfl rfl)⟩ fun a ha => (ha.more (ha.more (ha.more (ha.more (ha.more ha.nil rfl) rfl) rfl) rfl) rfl)
   ·
    refine WO.alloc (κ := K184) 14 rfl rfl rfl rfl rfl Try.zeroValue84 rfl fun b8 w253 K254 S255 f256 => ⟨(S255.cl rfl), ?_⟩
    refine WO.wa ?_
    refine WA.seg (fuel := 0) [(1, 1), (3, 1), (5, 1)] (by kernel_rfl) (by kernel_rfl) rfl ?_
    refine WO.call rfl rfl rfl rfl rfl rfl Try.call17 (l_toSig_ok (κ := fun b => mp [] 0 (K254 b)) (p0 := p0) hx26) ?_
    rintro _ w257 ⟨k258, rfl, e259⟩
    obtain ⟨K260, S261, m262⟩ := Ent.mixed (l := []) (κ := K254) e259 15 rfl
    refine ⟨((S255.tr S261).cl rfl), ?_⟩
    have f264 := f181.stp (S185.tr (S188.tr (S198.tr (S255.tr S261)))) rfl rfl
    have f265 := f182.stp (S185.tr (S188.tr (S198.tr (S255.tr S261)))) rfl rfl
    refine WO.call rfl rfl rfl rfl rfl rfl Try.call64 (i_LeastOf_ok (κ := fun b => mp [] 0 (K260 b)) (p0 := x26) (p1 := x24) (Sl.map f264.rdc (mp [] 0) rfl rfl) (Sl.map f265.rdc (mp [] 0) rfl rfl) hx28) ?_
    rintro _ w266 ⟨k267, a28_0, u28_0, a28_1, u28_1, rfl, e268, f269, f270⟩
    obtain ⟨K271, S272, m273⟩ := Ent.mixed (l := []) (κ := K260) e268 17 rfl
    refine ⟨((S255.tr (S261.tr S272)).cl rfl), ?_⟩
    have f275 := f269.mx (no_own (no_int _) _) m273 rfl (rfl : 17 + 2 = 19)
    have f276 := f270.mx (no_own (no_int _) _) m273 rfl (rfl : 17 + 3 = 20)
    have f277 := f256.stp (S261.tr S272) rfl rfl
    refine WO.stB0 (κ := K271) 14 (vc := [.slice a28_0 x28.Next.length u28_0, .slice a28_1 x28.Out.length u28_1]) rfl rfl rfl rfl rfl rfl rfl Try.sizeOf84 rfl rfl f277 rfl fun w278 S279 f280 => ⟨((S255.tr (S261.tr (S272.tr S279))).cl rfl), ?_⟩
    refine WO.wa ?_
    refine WA.last [] (by kernel_rfl) (by kernel_rfl) rfl ?_
    refine WO.fin ?_
    have f281 := f275.stp S279 rfl rfl
    have f282 := f276.stp S279 rfl rfl
    exact DN.meet _ ⟨(fun b => ren [(19, 14), (20, 15), (14, 16)] (K271 b)), b8, a28_0, u28_0, a28_1, u28_1, rfl, (Stp.ren ((S198.tr (S255.tr (S261.tr (S272.tr S279)))).wk rfl) [(19, 14), (20, 15), (14, 16)] rfl), (f281.map (ren [(19, 14), (20, 15), (14, 16)]) rfl rfl), (f282.map (ren [(19, 14), (20, 15), (14, 16)]) rfl rfl), (f280.map (ren [(19, 14), (20, 15), (14, 16)]) rfl rfl)⟩ fun a ha => (ha.more (ha.more (ha.more (ha.more (ha.more ha.nil rfl) rfl) rfl) rfl) rfl)
  rintro _ w190 ⟨K191, b8, lar193_0, lur193_0, lar193_1, lur193_1, rfl, S192, f194, f195, f196⟩
  refine DN.seq ?_
  refine WC.seq ?_
  refine WC.seq ?_
  refine WC.rs [(0, 1), (1, 1), (2, 1), (3, 2)] rfl ?_
  refine WO.k1 trivial rfl rfl rfl rfl (rn_la (cs := [.slice lar193_0 x28.Next.length lur193_0, .slice lar193_1 x28.Out.length lur193_1]) Try.isAgg84 Try.sizeOf84 rfl rfl rfl (haE f196.cells)) ?_
  have f283 := f26.stp (S178.tr (S185.tr (S188.tr S192))) rfl rfl
  refine WO.k1 trivial rfl rfl rfl rfl (rn_la (cs := [.slice lar23_0 x22.Next.length lur23_0, .slice lar23_1 x22.Out.length lur23_1]) Try.isAgg84 Try.sizeOf84 rfl rfl rfl (haE f283.cells)) ?_
  obtain ⟨x31, hx31, h⟩ := Option.bind_eq_some_iff.mp h
  have f284 := f24.stp (S178.tr (S185.tr (S188.tr S192))) rfl rfl
  have f285 := f25.stp (S178.tr (S185.tr (S188.tr S192))) rfl rfl
  refine WO.call rfl rfl rfl rfl rfl rfl Try.call52 (l_eqMachine_ok (κ := fun b => mp [] 0 (K191 b)) (p0 := x28) (p1 := x22) (Sl.map f194.rdc (mp [] 0) rfl rfl) (Sl.map f195.rdc (mp [] 0) rfl rfl) (Sl.map f284.rdc (mp [] 0) rfl rfl) (Sl.map f285.rdc (mp [] 0) rfl rfl) hx31) ?_
  rintro _ w286 ⟨k287, rfl, e288⟩
  obtain ⟨K289, S290, m291⟩ := Ent.mixed (l := []) (κ := K191) e288 17 rfl
  refine ⟨trivial, ?_⟩
  refine WO.pn 1 rfl ?_
  refine WO.fin ?_
  refine DN.seq ?_
  revert h
  cases ht293 : (!x31) with
  | true =>
   intro h; replace h := cT h
   refine WC.ct rfl ?_
   refine WC.seq ?_
   refine WC.rs [(0, 2)] rfl ?_
   refine WO.pn 1 rfl ?_
   refine WO.fin ?_
   refine DN.seq ?_
   refine WC.ret ?_
   refine DN.retThen ?_
   have f294 := hE.stp (S3.tr (S7.tr (S15.tr (S22.tr (S178.tr (S185.tr (S188.tr (S192.tr S290)))))))) rfl rfl
   refine DN.res (l := [.tmp 4]) Try.results13 (res_tmp rfl rfl) rfl ?_
   obtain rfl := Option.some.inj h
   exact ⟨K289, rfl, f294⟩
  | false =>
   intro h; replace h := cF h
   refine WC.cf rfl ?_
   refine WC.skip ?_
   refine DN.seq ?_
   refine WC.seq ?_
   refine WC.seq ?_
   refine WC.rx (κ := K289) 18 none [(0, 0), (1, 0), (2, 1), (3, 1), (4, 2)] [] (by kernel_rfl) (by kernel_rfl) fun w296 S295 => ?_
   have f297 := f189.stp (S192.tr (S290.tr S295)) rfl rfl
   refine WO.k0 rfl rfl rfl rfl (rn_la (cs := [.slice a24_0 x24.Next.length u24_0, .slice a24_1 x24.Out.length u24_1]) Try.isAgg84 Try.sizeOf84 rfl rfl rfl (haC f297.cells rfl)) ?_
   have f298 := f169.stp (S178.tr (S185.tr (S188.tr (S192.tr (S290.tr S295))))) rfl rfl
   refine WO.k0 rfl rfl rfl rfl (rn_la (cs := [.slice a1_0 p1.Next.length u1_0, .slice a1_1 p1.Out.length u1_1]) Try.isAgg77 Try.sizeOf77 rfl rfl rfl (haC f298.cells rfl)) ?_
   obtain ⟨x35, hx35, h⟩ := Option.bind_eq_some_iff.mp h
   have f299 := f170.stp (S178.tr (S185.tr (S188.tr (S192.tr (S290.tr S295))))) rfl rfl
   have f300 := f171.stp (S178.tr (S185.tr (S188.tr (S192.tr (S290.tr S295))))) rfl rfl
   refine WO.call rfl rfl rfl rfl rfl rfl Try.call48 (l_toMachine_ok (κ := fun b => mp [] 0 (K289 b)) (p0 := p1) (Sl.map f299 (mp [] 0) rfl rfl) (Sl.map f300 (mp [] 0) rfl rfl) hx35) ?_
   rintro _ w301 ⟨k302, a35_0, u35_0, a35_1, u35_1, rfl, e303, f304, f305⟩
   obtain ⟨K306, S307, m308⟩ := Ent.mixed (l := []) (κ := K289) e303 19 rfl
   refine ⟨(S307.cl rfl), ?_⟩
   have f310 := f304.mx (no_own (no_int _) _) m308 rfl (rfl : 19 + 2 = 21)
   have f311 := f305.mx (no_own (no_int _) _) m308 rfl (rfl : 19 + 3 = 22)
   obtain ⟨x36, hx36, h⟩ := Option.bind_eq_some_iff.mp h
   have f312 := f181.stp (S185.tr (S188.tr (S192.tr (S290.tr (S295.tr S307))))) rfl rfl
   have f313 := f182.stp (S185.tr (S188.tr (S192.tr (S290.tr (S295.tr S307))))) rfl rfl
   refine WO.call rfl rfl rfl rfl rfl rfl Try.call52 (l_eqMachine_ok (κ := fun b => mp [] 0 (K306 b)) (p0 := x24) (p1 := x35) (Sl.map f312.rdc (mp [] 0) rfl rfl) (Sl.map f313.rdc (mp [] 0) rfl rfl) (Sl.map f310.rdc (mp [] 0) rfl rfl) (Sl.map f311.rdc (mp [] 0) rfl rfl) hx36) ?_
   rintro _ w314 ⟨k315, rfl, e316⟩
   obtain ⟨K317, S318, m319⟩ := Ent.mixed (l := []) (κ := K306) e316 23 rfl
   refine ⟨((S307.tr S318).cl rfl), ?_⟩
   refine WO.pn 1 rfl ?_
   refine WO.nx ?_
   refine WO.fin ?_
   refine DN.seq ?_
   revert h
   cases ht321 : (!x36) with
   | true =>
    intro h; replace h := cT h
    refine WC.ct rfl ?_
    refine WC.seq ?_
    refine WC.rs [(0, 2)] rfl ?_
    refine WO.pn 1 rfl ?_
    refine WO.fin ?_
    refine DN.seq ?_
    refine WC.ret ?_
    refine DN.retThen ?_
    have f322 := hE.stp (S3.tr (S7.tr (S15.tr (S22.tr (S178.tr (S185.tr (S188.tr (S192.tr (S290.tr (S295.tr (S307.tr S318))))))))))) rfl rfl
    refine DN.res (l := [.tmp 4]) Try.results13 (res_tmp rfl rfl) rfl ?_
    obtain rfl := Option.some.inj h
    exact ⟨K317, rfl, f322⟩
   | false =>
    intro h; replace h := cF h
    refine WC.cf rfl ?_
    refine WC.skip ?_
    refine DN.seq ?_
    refine WC.seq ?_
    refine WC.rs [(0, 2)] rfl ?_
    refine WO.pn 1 rfl ?_
    refine WO.fin ?_
    refine DN.seq ?_
    refine WC.seq ?_
    refine WC.rs [(0, 1), (1, 2), (2, 1), (3, 2)] rfl ?_
    have f323 := f297.stp (S307.tr S318) rfl rfl
    refine WO.k1 trivial rfl rfl rfl rfl (rn_la (cs := [.slice a24_0 x24.Next.length u24_0, .slice a24_1 x24.Out.length u24_1]) Try.isAgg84 Try.sizeOf84 rfl rfl rfl (haE f323.cells)) ?_
    refine WO.pn 1 rfl ?_
    obtain ⟨x40, hx40, h⟩ := Option.bind_eq_some_iff.mp h
    have f324 := f312.stp S318 rfl rfl
    have f325 := f313.stp S318 rfl rfl
    refine WO.call rfl rfl rfl rfl rfl rfl Try.call53 (l_markMachine_ok (κ := fun b => mp [(11, 2), (12, 3)] 0 (K317 b)) (p0 := x24) (f324.map (mp [(11, 2), (12, 3)] 0) rfl rfl) (f325.map (mp [(11, 2), (12, 3)] 0) rfl rfl) hx40) ?_
    rintro _ w326 ⟨k327, rfl, e328, f329, hn330, f331, hn332⟩
    obtain ⟨K333, S334, m335⟩ := Ent.mixed (l := [(11, 2), (12, 3)]) (κ := K317) e328 25 rfl
    refine ⟨trivial, ?_⟩
    have f337 := f329.mx (no_own (no_int _) _) m335 rfl (rfl : 25 + 2 = 27)
    have f338 := f331.mx (no_own (no_int _) _) m335 rfl (rfl : 25 + 3 = 28)
    refine WO.pn 1 rfl ?_
    refine WO.fin ?_
    refine DN.seq ?_
    refine WC.seq ?_
    refine WC.seq ?_
    refine WC.rs [(0, 2), (1, 2), (2, 2), (3, 1), (4, 1), (5, 1), (6, 2), (7, 2)] rfl ?_
    refine WO.pn 3 rfl ?_
    obtain ⟨p48, h, hK339⟩ := Option.bind_eq_some_iff.mp h
    refine WO.meet [(3, 1), (4, 1), (5, 1), (6, 2), (7, 2)] [] (fun L w' => L = [(2, .pointer (some ⟨b2, 0, none⟩)), (3, .pointer (some ⟨b3, 0, none⟩)), (6, .pointer (some ⟨b6, 0, none⟩)), (8, .pointer (some ⟨b8, 0, none⟩)), (48, .bool p48)] ∧ ∃ κ', Stp [] K333 w326 κ' w') trivial ?_ ?_
    ·
     revert h
     cases ht340 : decide (x40.1 < 0) with
     | true =>
      intro h; replace h := cT h
      refine WO.ls rfl rfl rfl rfl ?_
      refine WO.ls rfl rfl rfl rfl ?_
      refine WO.ls rfl rfl rfl rfl ?_
      refine WO.pn 2 rfl ?_
      obtain rfl := Option.some.inj h
      exact WO.met _ trivial ⟨rfl, _, (Stp.refl _ _).wk rfl⟩ fun a ha => (ha.more (ha.more (ha.more (ha.more (ha.more ha.nil rfl) rfl) rfl) rfl) rfl)
     | false =>
      intro h; replace h := cF h
      have f341 := f196.stp (S290.tr (S295.tr (S307.tr (S318.tr S334)))) rfl rfl
      refine WO.k1 trivial rfl rfl rfl rfl (rn_la (cs := [.slice lar193_0 x28.Next.length lur193_0, .slice lar193_1 x28.Out.length lur193_1]) Try.isAgg84 Try.sizeOf84 rfl rfl rfl (haE f341.cells)) ?_
      have f342 := f283.stp (S290.tr (S295.tr (S307.tr (S318.tr S334)))) rfl rfl
      refine WO.k1 trivial rfl rfl rfl rfl (rn_la (cs := [.slice lar23_0 x22.Next.length lur23_0, .slice lar23_1 x22.Out.length lur23_1]) Try.isAgg84 Try.sizeOf84 rfl rfl rfl (haE f342.cells)) ?_
      obtain ⟨x46, hx46, h⟩ := Option.bind_eq_some_iff.mp h
      have f343 := f194.stp (S290.tr (S295.tr (S307.tr (S318.tr S334)))) rfl rfl
      have f344 := f195.stp (S290.tr (S295.tr (S307.tr (S318.tr S334)))) rfl rfl
      have f345 := f284.stp (S290.tr (S295.tr (S307.tr (S318.tr S334)))) rfl rfl
      have f346 := f285.stp (S290.tr (S295.tr (S307.tr (S318.tr S334)))) rfl rfl
      refine WO.call rfl rfl rfl rfl rfl rfl Try.call52 (l_eqMachine_ok (κ := fun b => mp [] 0 (K333 b)) (p0 := x28) (p1 := x22) (Sl.map f343.rdc (mp [] 0) rfl rfl) (Sl.map f344.rdc (mp [] 0) rfl rfl) (Sl.map f345.rdc (mp [] 0) rfl rfl) (Sl.map f346.rdc (mp [] 0) rfl rfl) hx46) ?_
      rintro _ w347 ⟨k348, rfl, e349⟩
      obtain ⟨K350, S351, m352⟩ := Ent.mixed (l := []) (κ := K333) e349 29 rfl
      refine ⟨trivial, ?_⟩
      refine WO.pn 2 rfl ?_
      obtain rfl := Option.some.inj h
      exact WO.met _ trivial ⟨rfl, _, S351.wk rfl⟩ fun a ha => (ha.more (ha.more (ha.more (ha.more (ha.more ha.nil rfl) rfl) rfl) rfl) rfl)
    rintro _ w354 _ ⟨rfl, K355, S356⟩
    have h := hK339
    refine WO.fin ?_
    refine DN.seq ?_
    revert h
    cases ht357 : p48 with
    | true =>
     intro h; replace h := cT h
     refine WC.ct rfl ?_
     refine WC.seq ?_
     refine WC.rs [(0, 2)] rfl ?_
     refine WO.pn 1 rfl ?_
     refine WO.fin ?_
     refine DN.seq ?_
     refine WC.ret ?_
     refine DN.retThen ?_
     have f358 := hE.stp (S3.tr (S7.tr (S15.tr (S22.tr (S178.tr (S185.tr (S188.tr (S192.tr (S290.tr (S295.tr (S307.tr (S318.tr (S334.tr S356))))))))))))) rfl rfl
     refine DN.res (l := [.tmp 4]) Try.results13 (res_tmp rfl rfl) rfl ?_
     obtain rfl := Option.some.inj h
     exact ⟨K355, rfl, f358⟩
    | false =>
     intro h; replace h := cF h
     refine WC.cf rfl ?_
     refine WC.skip ?_
     refine DN.seq ?_
     refine WC.seq ?_
     refine WC.rs [(0, 2)] rfl ?_
     refine WO.pn 1 rfl ?_
     refine WO.fin ?_
     refine DN.seq ?_
     refine WC.seq ?_
     refine WC.rs [(0, 1), (1, 2), (2, 1), (3, 2)] rfl ?_
     have f359 := f196.stp (S290.tr (S295.tr (S307.tr (S318.tr (S334.tr S356))))) rfl rfl
     refine WO.k1 trivial rfl rfl rfl rfl (rn_la (cs := [.slice lar193_0 x28.Next.length lur193_0, .slice lar193_1 x28.Out.length lur193_1]) Try.isAgg84 Try.sizeOf84 rfl rfl rfl (haE f359.cells)) ?_
     refine WO.pn 1 rfl ?_
     obtain ⟨x51, hx51, h⟩ := Option.bind_eq_some_iff.mp h
     have f360 := f194.stp (S290.tr (S295.tr (S307.tr (S318.tr (S334.tr S356))))) rfl rfl
     have f361 := f195.stp (S290.tr (S295.tr (S307.tr (S318.tr (S334.tr S356))))) rfl rfl
     refine WO.call rfl rfl rfl rfl rfl rfl Try.call53 (l_markMachine_ok (κ := fun b => mp [(14, 2), (15, 3)] 0 (K355 b)) (p0 := x28) (f360.map (mp [(14, 2), (15, 3)] 0) rfl rfl) (f361.map (mp [(14, 2), (15, 3)] 0) rfl rfl) hx51) ?_
     rintro _ w362 ⟨k363, rfl, e364, f365, hn366, f367, hn368⟩
     obtain ⟨K369, S370, m371⟩ := Ent.mixed (l := [(14, 2), (15, 3)]) (κ := K355) e364 29 rfl
     refine ⟨trivial, ?_⟩
     have f373 := f365.mx (no_own (no_int _) _) m371 rfl (rfl : 29 + 2 = 31)
     have f374 := f367.mx (no_own (no_int _) _) m371 rfl (rfl : 29 + 3 = 32)
     refine WO.pn 1 rfl ?_
     refine WO.fin ?_
     refine DN.seq ?_
     refine WC.seq ?_
     refine WC.rs [(0, 2)] rfl ?_
     refine WO.pn 1 rfl ?_
     refine WO.fin ?_
     refine DN.seq ?_
     refine WC.seq ?_
     refine WC.rs [(0, 1), (1, 2), (2, 1), (3, 2)] rfl ?_
     have f375 := f359.stp S370 rfl rfl
     refine WO.k1 trivial rfl rfl rfl rfl (rn_la (cs := [.slice lar193_0 x28.Next.length lur193_0, .slice lar193_1 x28.Out.length lur193_1]) Try.isAgg84 Try.sizeOf84 rfl rfl rfl (haE f375.cells)) ?_
     refine WO.pn 1 rfl ?_
     obtain ⟨x54, hx54, h⟩ := Option.bind_eq_some_iff.mp h
     refine WO.call rfl rfl rfl rfl rfl rfl Try.call65 (Ret.cast (by simp only [(hn366), (hn368)]) (l_heldMachine_ok (κ := fun b => mp [] 0 (K369 b)) (p0 := (⟨x51.2.1, x51.2.2⟩ : Machine)) (Sl.map f373.rdc (mp [] 0) rfl rfl) (Sl.map f374.rdc (mp [] 0) rfl rfl) hx54)) ?_
     rintro _ w376 ⟨k377, rfl, e378⟩
     obtain ⟨K379, S380, m381⟩ := Ent.mixed (l := []) (κ := K369) e378 33 rfl
     refine ⟨trivial, ?_⟩
     refine WO.pn 1 rfl ?_
     refine WO.fin ?_
     refine DN.seq ?_
     refine WC.seq ?_
     refine WC.seq ?_
     refine WC.rs [(0, 2), (1, 2)] rfl ?_
     refine WO.pn 2 rfl ?_
     refine WO.fin ?_
     refine DN.seq ?_
     revert h
     cases ht383 : decide (x54 < 0) with
     | true =>
      intro h; replace h := cT h
      refine WC.ct rfl ?_
      refine WC.seq ?_
      refine WC.rs [(0, 2)] rfl ?_
      refine WO.pn 1 rfl ?_
      refine WO.fin ?_
      refine DN.seq ?_
      refine WC.ret ?_
      refine DN.retThen ?_
      have f384 := hE.stp (S3.tr (S7.tr (S15.tr (S22.tr (S178.tr (S185.tr (S188.tr (S192.tr (S290.tr (S295.tr (S307.tr (S318.tr (S334.tr (S356.tr (S370.tr S380))))))))))))))) rfl rfl
      refine DN.res (l := [.tmp 4]) Try.results13 (res_tmp rfl rfl) rfl ?_
      obtain rfl := Option.some.inj h
      exact ⟨K379, rfl, f384⟩
     | false =>
      intro h; replace h := cF h
      refine WC.cf rfl ?_
      refine WC.skip ?_
      refine DN.seq ?_
      refine WC.seq ?_
      refine WC.seq ?_
      refine WC.rs [(0, 2), (1, 2), (2, 2)] rfl ?_
      refine WO.pn 3 rfl ?_
      refine WO.fin ?_
      refine DN.seq ?_
      revert h
      cases ht385 : (x54 != x51.1) with
      | true =>
       intro h; replace h := cT h
       refine WC.ct rfl ?_
       refine WC.seq ?_
       refine WC.rs [(0, 2)] rfl ?_
       refine WO.pn 1 rfl ?_
       refine WO.fin ?_
       refine DN.seq ?_
       refine WC.ret ?_
       refine DN.retThen ?_
       have f386 := hE.stp (S3.tr (S7.tr (S15.tr (S22.tr (S178.tr (S185.tr (S188.tr (S192.tr (S290.tr (S295.tr (S307.tr (S318.tr (S334.tr (S356.tr (S370.tr S380))))))))))))))) rfl rfl
       refine DN.res (l := [.tmp 4]) Try.results13 (res_tmp rfl rfl) rfl ?_
       obtain rfl := Option.some.inj h
       exact ⟨K379, rfl, f386⟩
      | false =>
       intro h; replace h := cF h
       refine WC.cf rfl ?_
       refine WC.skip ?_
       refine DN.seq ?_
       refine WC.seq ?_
       obtain ⟨x61, hx61, h⟩ := Option.bind_eq_some_iff.mp h
       obtain ⟨x63, hx63, h⟩ := Option.bind_eq_some_iff.mp h
       obtain ⟨x64, hx64, h⟩ := Option.bind_eq_some_iff.mp h
       refine WC.meet (fun L w' => ∃ (κ' : Col) (b12 : Nat) (lar390_0 : Option Addr) (lur390_0 : Nat) (lar390_1 : Option Addr) (lur390_1 : Nat), L = [(6, .pointer (some ⟨b6, 0, none⟩)), (8, .pointer (some ⟨b8, 0, none⟩)), (10, .int .i64 x51.1), (12, .pointer (some ⟨b12, 0, none⟩))] ∧ Stp [35, 37, 41, 43, 44, 45] K379 w376 κ' w' ∧ Oc (Ep.own (Ep.int .i64) 2) 24 κ' w' 35 lar390_0 lur390_0 x64.Next ∧ Oc (Ep.own (Ep.int .i64) 2) 24 κ' w' 36 lar390_1 lur390_1 x64.Out ∧ Bc κ' w' 37 b12 84 [.slice lar390_0 x64.Next.length lur390_0, .slice lar390_1 x64.Out.length lur390_1]) ?_ ?_
       ·
        refine WC.rxt (κ := K379) 34 none (by kernel_rfl) fun w394 S395 => ?_
        refine WA.seg (fuel := 5) [(0, 0), (2, 0)] (by kernel_rfl) (by kernel_rfl) rfl ?_
        have f396 := f4.stp (S7.tr (S15.tr (S22.tr (S178.tr (S185.tr (S188.tr (S192.tr (S290.tr (S295.tr (S307.tr (S318.tr (S334.tr (S356.tr (S370.tr (S380.tr S395))))))))))))))) rfl rfl
        refine WO.k0 rfl rfl rfl rfl (rn_la (cs := [.int .i64 p0.In, .int .i64 p0.Out]) Try.isAgg23 Try.sizeOf23 rfl rfl rfl (haC f396.cells rfl)) ?_
        have f397 := f298.stp (S307.tr (S318.tr (S334.tr (S356.tr (S370.tr (S380.tr S395)))))) rfl rfl
        refine WO.k0 rfl rfl rfl rfl (rn_la (cs := [.slice a1_0 p1.Next.length u1_0, .slice a1_1 p1.Out.length u1_1]) Try.isAgg77 Try.sizeOf77 rfl rfl rfl (haC f397.cells rfl)) ?_
        refine WO.wa ?_
        refine WA.fork2 (fuel := 4) 1 5 (by kernel_rfl) rfl ?_ ?_
        ·
         refine WO.call rfl rfl rfl rfl rfl rfl Try.call17 (l_toSig_ok (κ := fun b => mp [] 0 (K379 b)) (p0 := p0) hx61) ?_
         rintro _ w398 ⟨k399, rfl, e400⟩
         obtain ⟨K401, S402, m403⟩ := Ent.mixed (l := []) (κ := K379) e400 35 rfl
         refine ⟨(S402.cl rfl), ?_⟩
         refine WO.wa ?_
         refine WA.fork2 (fuel := 3) 3 5 (by kernel_rfl) rfl ?_ ?_
         ·
          have f405 := f299.stp (S307.tr (S318.tr (S334.tr (S356.tr (S370.tr (S380.tr (S395.tr S402))))))) rfl rfl
          have f406 := f300.stp (S307.tr (S318.tr (S334.tr (S356.tr (S370.tr (S380.tr (S395.tr S402))))))) rfl rfl
          refine WO.call rfl rfl rfl rfl rfl rfl Try.call48 (l_toMachine_ok (κ := fun b => mp [] 0 (K401 b)) (p0 := p1) (Sl.map f405 (mp [] 0) rfl rfl) (Sl.map f406 (mp [] 0) rfl rfl) hx63) ?_
          rintro _ w407 ⟨k408, a63_0, u63_0, a63_1, u63_1, rfl, e409, f410, f411⟩
          obtain ⟨K412, S413, m414⟩ := Ent.mixed (l := []) (κ := K401) e409 37 rfl
          refine ⟨((S402.tr S413).cl rfl), ?_⟩
          have f416 := f410.mx (no_own (no_int _) _) m414 rfl (rfl : 37 + 2 = 39)
          have f417 := f411.mx (no_own (no_int _) _) m414 rfl (rfl : 37 + 3 = 40)
          refine WO.wa ?_
          refine WA.fork2 (fuel := 2) 4 5 (by kernel_rfl) rfl ?_ ?_
          ·
           refine WO.call rfl rfl rfl rfl rfl rfl Try.call64 (i_LeastOf_ok (κ := fun b => mp [] 0 (K412 b)) (p0 := x61) (p1 := x63) (Sl.map f416.rdc (mp [] 0) rfl rfl) (Sl.map f417.rdc (mp [] 0) rfl rfl) hx64) ?_
           rintro _ w418 ⟨k419, a64_0, u64_0, a64_1, u64_1, rfl, e420, f421, f422⟩
           obtain ⟨K423, S424, m425⟩ := Ent.mixed (l := []) (κ := K412) e420 41 rfl
           refine ⟨((S402.tr (S413.tr S424)).cl rfl), ?_⟩
           have f427 := f421.mx (no_own (no_int _) _) m425 rfl (rfl : 41 + 2 = 43)
           have f428 := f422.mx (no_own (no_int _) _) m425 rfl (rfl : 41 + 3 = 44)
           refine WO.wa ?_
           refine WA.seg (fuel := 0) [(5, 1), (6, 1)] (by kernel_rfl) (by kernel_rfl) rfl ?_
           refine WO.alloc (κ := K423) 45 rfl rfl rfl rfl rfl Try.zeroValue84 rfl fun b12 w429 K430 S431 f432 => ⟨((S402.tr (S413.tr (S424.tr S431))).cl rfl), ?_⟩
           refine WO.stB0 (κ := K430) 45 (vc := [.slice a64_0 x64.Next.length u64_0, .slice a64_1 x64.Out.length u64_1]) rfl rfl rfl rfl rfl rfl rfl Try.sizeOf84 rfl rfl f432 rfl fun w433 S434 f435 => ⟨((S402.tr (S413.tr (S424.tr (S431.tr S434)))).cl rfl), ?_⟩
           refine WO.wa ?_
           refine WA.last [] (by kernel_rfl) (by kernel_rfl) rfl ?_
           refine WO.fin ?_
           have f436 := f427.stp (S431.tr S434) rfl rfl
           have f437 := f428.stp (S431.tr S434) rfl rfl
           exact DN.meet _ ⟨(fun b => ren [(43, 35), (44, 36), (45, 37)] (K430 b)), b12, a64_0, u64_0, a64_1, u64_1, rfl, (Stp.ren ((S395.tr (S402.tr (S413.tr (S424.tr (S431.tr S434))))).wk rfl) [(43, 35), (44, 36), (45, 37)] rfl), (f436.map (ren [(43, 35), (44, 36), (45, 37)]) rfl rfl), (f437.map (ren [(43, 35), (44, 36), (45, 37)]) rfl rfl), (f435.map (ren [(43, 35), (44, 36), (45, 37)]) rfl rfl)⟩ fun a ha => (ha.more (ha.more (ha.more (ha.more ha.nil rfl) rfl) rfl) rfl)
          ·
           refine WO.alloc (κ := K412) 41 rfl rfl rfl rfl rfl Try.zeroValue84 rfl fun b12 w438 K439 S440 f441 => ⟨((S402.tr (S413.tr S440)).cl rfl), ?_⟩
           refine WO.wa ?_
           refine WA.seg (fuel := 0) [(4, 1), (6, 1)] (by kernel_rfl) (by kernel_rfl) rfl ?_
           have f442 := f416.stp S440 rfl rfl
           have f443 := f417.stp S440 rfl rfl
           refine WO.call rfl rfl rfl rfl rfl rfl Try.call64 (i_LeastOf_ok (κ := fun b => mp [] 0 (K439 b)) (p0 := x61) (p1 := x63) (Sl.map f442.rdc (mp [] 0) rfl rfl) (Sl.map f443.rdc (mp [] 0) rfl rfl) hx64) ?_
           rintro _ w444 ⟨k445, a64_0, u64_0, a64_1, u64_1, rfl, e446, f447, f448⟩
           obtain ⟨K449, S450, m451⟩ := Ent.mixed (l := []) (κ := K439) e446 42 rfl
           refine ⟨((S402.tr (S413.tr (S440.tr S450))).cl rfl), ?_⟩
           have f453 := f447.mx (no_own (no_int _) _) m451 rfl (rfl : 42 + 2 = 44)
           have f454 := f448.mx (no_own (no_int _) _) m451 rfl (rfl : 42 + 3 = 45)
           have f455 := f441.stp S450 rfl rfl
           refine WO.stB0 (κ := K449) 41 (vc := [.slice a64_0 x64.Next.length u64_0, .slice a64_1 x64.Out.length u64_1]) rfl rfl rfl rfl rfl rfl rfl Try.sizeOf84 rfl rfl f455 rfl fun w456 S457 f458 => ⟨((S402.tr (S413.tr (S440.tr (S450.tr S457)))).cl rfl), ?_⟩
           refine WO.wa ?_
           refine WA.last [] (by kernel_rfl) (by kernel_rfl) rfl ?_
           refine WO.fin ?_
           have f459 := f453.stp S457 rfl rfl
           have f460 := f454.stp S457 rfl rfl
           exact DN.meet _ ⟨(fun b => ren [(44, 35), (45, 36), (41, 37)] (K449 b)), b12, a64_0, u64_0, a64_1, u64_1, rfl, (Stp.ren ((S395.tr (S402.tr (S413.tr (S440.tr (S450.tr S457))))).wk rfl) [(44, 35), (45, 36), (41, 37)] rfl), (f459.map (ren [(44, 35), (45, 36), (41, 37)]) rfl rfl), (f460.map (ren [(44, 35), (45, 36), (41, 37)]) rfl rfl), (f458.map (ren [(44, 35), (45, 36), (41, 37)]) rfl rfl)⟩ fun a ha => (ha.more (ha.more (ha.more (ha.more ha.nil rfl) rfl) rfl) rfl)
         ·
          refine WO.alloc (κ := K401) 37 rfl rfl rfl rfl rfl Try.zeroValue84 rfl fun b12 w461 K462 S463 f464 => ⟨((S402.tr S463).cl rfl), ?_⟩
          refine WO.wa ?_
          refine WA.seg (fuel := 0) [(3, 1), (4, 1), (6, 1)] (by kernel_rfl) (by kernel_rfl) rfl ?_
          have f465 := f299.stp (S307.tr (S318.tr (S334.tr (S356.tr (S370.tr (S380.tr (S395.tr (S402.tr S463)))))))) rfl rfl
          have f466 := f300.stp (S307.tr (S318.tr (S334.tr (S356.tr (S370.tr (S380.tr (S395.tr (S402.tr S463)))))))) rfl rfl
          refine WO.call rfl rfl rfl rfl rfl rfl Try.call48 (l_toMachine_ok (κ := fun b => mp [] 0 (K462 b)) (p0 := p1) (Sl.map f465 (mp [] 0) rfl rfl) (Sl.map f466 (mp [] 0) rfl rfl) hx63) ?_
          rintro _ w467 ⟨k468, a63_0, u63_0, a63_1, u63_1, rfl, e469, f470, f471⟩
          obtain ⟨K472, S473, m474⟩ := Ent.mixed (l := []) (κ := K462) e469 38 rfl
          refine ⟨((S402.tr (S463.tr S473)).cl rfl), ?_⟩
          have f476 := f470.mx (no_own (no_int _) _) m474 rfl (rfl : 38 + 2 = 40)
          have f477 := f471.mx (no_own (no_int _) _) m474 rfl (rfl : 38 + 3 = 41)
          refine WO.call rfl rfl rfl rfl rfl rfl Try.call64 (i_LeastOf_ok (κ := fun b => mp [] 0 (K472 b)) (p0 := x61) (p1 := x63) (Sl.map f476.rdc (mp [] 0) rfl rfl) (Sl.map f477.rdc (mp [] 0) rfl rfl) hx64) ?_
          rintro _ w478 ⟨k479, a64_0, u64_0, a64_1, u64_1, rfl, e480, f481, f482⟩
          obtain ⟨K483, S484, m485⟩ := Ent.mixed (l := []) (κ := K472) e480 42 rfl
          refine ⟨((S402.tr (S463.tr (S473.tr S484))).cl rfl), ?_⟩
          have f487 := f481.mx (no_own (no_int _) _) m485 rfl (rfl : 42 + 2 = 44)
          have f488 := f482.mx (no_own (no_int _) _) m485 rfl (rfl : 42 + 3 = 45)
          have f489 := f464.stp (S473.tr S484) rfl rfl
          refine WO.stB0 (κ := K483) 37 (vc := [.slice a64_0 x64.Next.length u64_0, .slice a64_1 x64.Out.length u64_1]) rfl rfl rfl rfl rfl rfl rfl Try.sizeOf84 rfl rfl f489 rfl fun w490 S491 f492 => ⟨((S402.tr (S463.tr (S473.tr (S484.tr S491)))).cl rfl), ?_⟩
          refine WO.wa ?_
          refine WA.last [] (by kernel_rfl) (by kernel_rfl) rfl ?_
          refine WO.fin ?_
          have f493 := f487.stp S491 rfl rfl
          have f494 := f488.stp S491 rfl rfl
          exact DN.meet _ ⟨(fun b => ren [(44, 35), (45, 36)] (K483 b)), b12, a64_0, u64_0, a64_1, u64_1, rfl, (Stp.ren ((S395.tr (S402.tr (S463.tr (S473.tr (S484.tr S491))))).wk rfl) [(44, 35), (45, 36)] rfl), (f493.map (ren [(44, 35), (45, 36)]) rfl rfl), (f494.map (ren [(44, 35), (45, 36)]) rfl rfl), (f492.map (ren [(44, 35), (45, 36)]) rfl rfl)⟩ fun a ha => (ha.more (ha.more (ha.more (ha.more ha.nil rfl) rfl) rfl) rfl)
        ·
         refine WO.alloc (κ := K379) 35 rfl rfl rfl rfl rfl Try.zeroValue84 rfl fun b12 w495 K496 S497 f498 => ⟨(S497.cl rfl), ?_⟩
         refine WO.wa ?_
         refine WA.seg (fuel := 0) [(1, 1), (3, 1), (4, 1), (6, 1)] (by kernel_rfl) (by kernel_rfl) rfl ?_
         refine WO.call rfl rfl rfl rfl rfl rfl Try.call17 (l_toSig_ok (κ := fun b => mp [] 0 (K496 b)) (p0 := p0) hx61) ?_
         rintro _ w499 ⟨k500, rfl, e501⟩
         obtain ⟨K502, S503, m504⟩ := Ent.mixed (l := []) (κ := K496) e501 36 rfl
         refine ⟨((S497.tr S503).cl rfl), ?_⟩
         have f506 := f299.stp (S307.tr (S318.tr (S334.tr (S356.tr (S370.tr (S380.tr (S395.tr (S497.tr S503)))))))) rfl rfl
         have f507 := f300.stp (S307.tr (S318.tr (S334.tr (S356.tr (S370.tr (S380.tr (S395.tr (S497.tr S503)))))))) rfl rfl
         refine WO.call rfl rfl rfl rfl rfl rfl Try.call48 (l_toMachine_ok (κ := fun b => mp [] 0 (K502 b)) (p0 := p1) (Sl.map f506 (mp [] 0) rfl rfl) (Sl.map f507 (mp [] 0) rfl rfl) hx63) ?_
         rintro _ w508 ⟨k509, a63_0, u63_0, a63_1, u63_1, rfl, e510, f511, f512⟩
         obtain ⟨K513, S514, m515⟩ := Ent.mixed (l := []) (κ := K502) e510 38 rfl
         refine ⟨((S497.tr (S503.tr S514)).cl rfl), ?_⟩
         have f517 := f511.mx (no_own (no_int _) _) m515 rfl (rfl : 38 + 2 = 40)
         have f518 := f512.mx (no_own (no_int _) _) m515 rfl (rfl : 38 + 3 = 41)
         refine WO.call rfl rfl rfl rfl rfl rfl Try.call64 (i_LeastOf_ok (κ := fun b => mp [] 0 (K513 b)) (p0 := x61) (p1 := x63) (Sl.map f517.rdc (mp [] 0) rfl rfl) (Sl.map f518.rdc (mp [] 0) rfl rfl) hx64) ?_
         rintro _ w519 ⟨k520, a64_0, u64_0, a64_1, u64_1, rfl, e521, f522, f523⟩
         obtain ⟨K524, S525, m526⟩ := Ent.mixed (l := []) (κ := K513) e521 42 rfl
         refine ⟨((S497.tr (S503.tr (S514.tr S525))).cl rfl), ?_⟩
         have f528 := f522.mx (no_own (no_int _) _) m526 rfl (rfl : 42 + 2 = 44)
         have f529 := f523.mx (no_own (no_int _) _) m526 rfl (rfl : 42 + 3 = 45)
         have f530 := f498.stp (S503.tr (S514.tr S525)) rfl rfl
         refine WO.stB0 (κ := K524) 35 (vc := [.slice a64_0 x64.Next.length u64_0, .slice a64_1 x64.Out.length u64_1]) rfl rfl rfl rfl rfl rfl rfl Try.sizeOf84 rfl rfl f530 rfl fun w531 S532 f533 => ⟨((S497.tr (S503.tr (S514.tr (S525.tr S532)))).cl rfl), ?_⟩
         refine WO.wa ?_
         refine WA.last [] (by kernel_rfl) (by kernel_rfl) rfl ?_
         refine WO.fin ?_
         have f534 := f528.stp S532 rfl rfl
         have f535 := f529.stp S532 rfl rfl
         exact DN.meet _ ⟨(fun b => ren [(44, 35), (45, 36), (35, 37)] (K524 b)), b12, a64_0, u64_0, a64_1, u64_1, rfl, (Stp.ren ((S395.tr (S497.tr (S503.tr (S514.tr (S525.tr S532))))).wk rfl) [(44, 35), (45, 36), (35, 37)] rfl), (f534.map (ren [(44, 35), (45, 36), (35, 37)]) rfl rfl), (f535.map (ren [(44, 35), (45, 36), (35, 37)]) rfl rfl), (f533.map (ren [(44, 35), (45, 36), (35, 37)]) rfl rfl)⟩ fun a ha => (ha.more (ha.more (ha.more (ha.more ha.nil rfl) rfl) rfl) rfl)
       rintro _ w387 ⟨K388, b12, lar390_0, lur390_0, lar390_1, lur390_1, rfl, S389, f391, f392, f393⟩
       refine DN.seq ?_
       refine WC.seq ?_
       refine WC.seq ?_
       refine WC.rs [(0, 1), (1, 1), (2, 1), (3, 2)] rfl ?_
       refine WO.k1 trivial rfl rfl rfl rfl (rn_la (cs := [.slice lar390_0 x64.Next.length lur390_0, .slice lar390_1 x64.Out.length lur390_1]) Try.isAgg84 Try.sizeOf84 rfl rfl rfl (haE f393.cells)) ?_
       have f536 := f283.stp (S290.tr (S295.tr (S307.tr (S318.tr (S334.tr (S356.tr (S370.tr (S380.tr S389)))))))) rfl rfl
       refine WO.k1 trivial rfl rfl rfl rfl (rn_la (cs := [.slice lar23_0 x22.Next.length lur23_0, .slice lar23_1 x22.Out.length lur23_1]) Try.isAgg84 Try.sizeOf84 rfl rfl rfl (haE f536.cells)) ?_
       obtain ⟨x67, hx67, h⟩ := Option.bind_eq_some_iff.mp h
       have f537 := f284.stp (S290.tr (S295.tr (S307.tr (S318.tr (S334.tr (S356.tr (S370.tr (S380.tr S389)))))))) rfl rfl
       have f538 := f285.stp (S290.tr (S295.tr (S307.tr (S318.tr (S334.tr (S356.tr (S370.tr (S380.tr S389)))))))) rfl rfl
       refine WO.call rfl rfl rfl rfl rfl rfl Try.call52 (l_eqMachine_ok (κ := fun b => mp [] 0 (K388 b)) (p0 := x64) (p1 := x22) (Sl.map f391.rdc (mp [] 0) rfl rfl) (Sl.map f392.rdc (mp [] 0) rfl rfl) (Sl.map f537.rdc (mp [] 0) rfl rfl) (Sl.map f538.rdc (mp [] 0) rfl rfl) hx67) ?_
       rintro _ w539 ⟨k540, rfl, e541⟩
       obtain ⟨K542, S543, m544⟩ := Ent.mixed (l := []) (κ := K388) e541 38 rfl
       refine ⟨trivial, ?_⟩
       refine WO.pn 1 rfl ?_
       refine WO.fin ?_
       refine DN.seq ?_
       revert h
       cases ht546 : (!x67) with
       | true =>
        intro h; replace h := cT h
        refine WC.ct rfl ?_
        refine WC.seq ?_
        refine WC.rs [(0, 2)] rfl ?_
        refine WO.pn 1 rfl ?_
        refine WO.fin ?_
        refine DN.seq ?_
        refine WC.ret ?_
        refine DN.retThen ?_
        have f547 := hE.stp (S3.tr (S7.tr (S15.tr (S22.tr (S178.tr (S185.tr (S188.tr (S192.tr (S290.tr (S295.tr (S307.tr (S318.tr (S334.tr (S356.tr (S370.tr (S380.tr (S389.tr S543))))))))))))))))) rfl rfl
        refine DN.res (l := [.tmp 4]) Try.results13 (res_tmp rfl rfl) rfl ?_
        obtain rfl := Option.some.inj h
        exact ⟨K542, rfl, f547⟩
       | false =>
        intro h; replace h := cF h
        refine WC.cf rfl ?_
        refine WC.skip ?_
        refine DN.seq ?_
        refine WC.seq ?_
        refine WC.rs [(0, 2)] rfl ?_
        refine WO.pn 1 rfl ?_
        refine WO.fin ?_
        refine DN.seq ?_
        refine WC.seq ?_
        refine WC.rs [(0, 1), (1, 2), (2, 1), (3, 2)] rfl ?_
        have f548 := f375.stp (S380.tr (S389.tr S543)) rfl rfl
        refine WO.k1 trivial rfl rfl rfl rfl (rn_la (cs := [.slice lar193_0 x28.Next.length lur193_0, .slice lar193_1 x28.Out.length lur193_1]) Try.isAgg84 Try.sizeOf84 rfl rfl rfl (haE f548.cells)) ?_
        refine WO.pn 1 rfl ?_
        obtain ⟨x71, hx71, h⟩ := Option.bind_eq_some_iff.mp h
        have f549 := f373.stp (S380.tr (S389.tr S543)) rfl rfl
        have f550 := f374.stp (S380.tr (S389.tr S543)) rfl rfl
        refine WO.call rfl rfl rfl rfl rfl rfl Try.call65 (Ret.cast (by simp only [(hn366), (hn368)]) (l_heldMachine_ok (κ := fun b => mp [] 0 (K542 b)) (p0 := (⟨x51.2.1, x51.2.2⟩ : Machine)) (Sl.map f549.rdc (mp [] 0) rfl rfl) (Sl.map f550.rdc (mp [] 0) rfl rfl) hx71)) ?_
        rintro _ w551 ⟨k552, rfl, e553⟩
        obtain ⟨K554, S555, m556⟩ := Ent.mixed (l := []) (κ := K542) e553 40 rfl
        refine ⟨trivial, ?_⟩
        refine WO.pn 1 rfl ?_
        refine WO.fin ?_
        refine DN.seq ?_
        refine WC.seq ?_
        refine WC.seq ?_
        refine WC.rs [(0, 2), (1, 2)] rfl ?_
        refine WO.pn 2 rfl ?_
        refine WO.fin ?_
        refine DN.seq ?_
        revert h
        cases ht558 : decide (x71 < 0) with
        | true =>
         intro h; replace h := cT h
         refine WC.ct rfl ?_
         refine WC.seq ?_
         refine WC.rs [(0, 2)] rfl ?_
         refine WO.pn 1 rfl ?_
         refine WO.fin ?_
         refine DN.seq ?_
         refine WC.ret ?_
         refine DN.retThen ?_
         have f559 := hE.stp (S3.tr (S7.tr (S15.tr (S22.tr (S178.tr (S185.tr (S188.tr (S192.tr (S290.tr (S295.tr (S307.tr (S318.tr (S334.tr (S356.tr (S370.tr (S380.tr (S389.tr (S543.tr S555)))))))))))))))))) rfl rfl
         refine DN.res (l := [.tmp 4]) Try.results13 (res_tmp rfl rfl) rfl ?_
         obtain rfl := Option.some.inj h
         exact ⟨K554, rfl, f559⟩
        | false =>
         intro h; replace h := cF h
         refine WC.cf rfl ?_
         refine WC.skip ?_
         refine DN.seq ?_
         refine WC.seq ?_
         refine WC.seq ?_
         refine WC.rs [(0, 2), (1, 2), (2, 2)] rfl ?_
         refine WO.pn 3 rfl ?_
         refine WO.fin ?_
         refine DN.seq ?_
         revert h
         cases ht560 : (x71 != x51.1) with
         | true =>
          intro h; replace h := cT h
          refine WC.ct rfl ?_
          refine WC.seq ?_
          refine WC.rs [(0, 2)] rfl ?_
          refine WO.pn 1 rfl ?_
          refine WO.fin ?_
          refine DN.seq ?_
          refine WC.ret ?_
          refine DN.retThen ?_
          have f561 := hE.stp (S3.tr (S7.tr (S15.tr (S22.tr (S178.tr (S185.tr (S188.tr (S192.tr (S290.tr (S295.tr (S307.tr (S318.tr (S334.tr (S356.tr (S370.tr (S380.tr (S389.tr (S543.tr S555)))))))))))))))))) rfl rfl
          refine DN.res (l := [.tmp 4]) Try.results13 (res_tmp rfl rfl) rfl ?_
          obtain rfl := Option.some.inj h
          exact ⟨K554, rfl, f561⟩
         | false =>
          intro h; replace h := cF h
          refine WC.cf rfl ?_
          refine WC.skip ?_
          refine DN.seq ?_
          refine WC.seq ?_
          refine WC.rs [(0, 2)] rfl ?_
          refine WO.pn 1 rfl ?_
          refine WO.fin ?_
          refine DN.seq ?_
          refine WC.ret ?_
          have f562 := hE.stp (S3.tr (S7.tr (S15.tr (S22.tr (S178.tr (S185.tr (S188.tr (S192.tr (S290.tr (S295.tr (S307.tr (S318.tr (S334.tr (S356.tr (S370.tr (S380.tr (S389.tr (S543.tr S555)))))))))))))))))) rfl rfl
          refine DN.res (l := [.tmp 4]) Try.results13 (res_tmp rfl rfl) rfl ?_
          obtain rfl := Option.some.inj h
          exact ⟨K554, rfl, f562⟩

end Go.Proofs.Ytgniipbjjkodaaa
