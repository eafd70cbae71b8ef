/- The functions on data, and the walks, part 2. By program. -/
import Derived.Test.YtpmnpdphailagaaFnsA1
set_option linter.unusedVariables false
set_option linter.unusedSimpArgs false
namespace Go.Proofs.Ytpmnpdphailagaa
open Go Go.Wk Go.Proofs
set_option maxRecDepth 100000
set_option maxHeartbeats 1000000

/- loop.example/g00869/impl.DepthOf -/
def i_DepthOf_b0 (p0 : Circuit) (x17 : Int) (v25 : Int) (s1 : (List Int)) : Option (Int ⊕ (((List Int)) ⊕ ((List Int)))) :=
  Option.bind (idx p0.Gates v25) fun x28 =>
  Option.bind (idx s1 (IntKind.i64.wrap (Int.tdiv x28.A 2))) fun x38 =>
  Option.bind (idx s1 (IntKind.i64.wrap (Int.tdiv x28.B 2))) fun x44 =>
  Option.bind (idx s1 (IntKind.i64.wrap ((IntKind.i64.wrap (x17 - (p0.Gates.length : Int))) + v25))) fun x48 =>
  Option.bind (setI s1 (IntKind.i64.wrap ((IntKind.i64.wrap (x17 - (p0.Gates.length : Int))) + v25)) (IntKind.i64.wrap (1 + (if x38 < x44 then x44 else x38)))) fun y0 =>
  some (.inr (.inr (y0 : (List Int))))
def i_DepthOf_b2 (s3 : (List Int)) (x56 : (List Int)) (v58 : Int) (s4 : Int) : Option (Int ⊕ ((Int) ⊕ (Int))) :=
  Option.bind (idx x56 v58) fun x60 =>
  Option.bind (idx s3 (IntKind.i64.wrap (Int.tdiv x60 2))) fun x66 =>
  some (.inr (.inr ((if s4 < x66 then x66 else s4) : Int)))
def i_DepthOf (p0 : Circuit) : Option (Int) :=
  Option.bind (i_isCircuit p0) fun x11 =>
  bif (!x11) then
    some ((-1) : Int)
  else
    Option.bind (i_signalsOf p0) fun x14 =>
    Option.bind (mkS 8 x14 (0 : Int)) fun x15 =>
    Option.bind (i_signalsOf p0) fun x17 =>
    Option.bind (cntM (i_DepthOf_b0 p0 x17) p0.Gates.length 0 (x15 : (List Int))) fun q2 =>
    aft (fun r => some r) (fun s3 =>
      Option.bind (appS 8 ([] : List Int) p0.Next) fun x53 =>
      Option.bind (appS 8 x53 p0.Outs) fun x56 =>
      Option.bind (cntM (i_DepthOf_b2 s3 x56) x56.length 0 (0 : Int)) fun q5 =>
      aft (fun r => some r) (fun s6 =>
        some (s6 : Int)) q5) q2

theorem i_DepthOf_ok {p0 : Circuit} {a0_2 : Option Addr} {c0_2 : Nat} {a0_3 : Option Addr} {c0_3 : Nat} {a0_4 : Option Addr} {c0_4 : Nat} {w : World} (hs0_2 : Sl (Rp.int .i64) (Fz [] w) w a0_2 c0_2 p0.Next) (hs0_3 : Sl Gate.rp (Fz [] w) w a0_3 c0_3 p0.Gates) (hs0_4 : Sl (Rp.int .i64) (Fz [] w) w a0_4 c0_4 p0.Outs) {r : Int} (h : i_DepthOf p0 = some r) : Ret Try.prog 21 [.agg #[.int .i64 p0.Inputs, .int .i64 p0.Latches, .slice a0_2 p0.Next.length c0_2, .slice a0_3 p0.Gates.length c0_3, .slice a0_4 p0.Outs.length c0_4]] w (fun v w' => v = .int .i64 r ∧ Ext w w') := by
  unfold i_DepthOf at h
  refine Ret.enter Try.func21 rfl Try.ntmps21 rfl ?_
  dsimp only [envOf]
  refine WC.seq ?_
  refine WC.regS [(0, 1), (1, 2)] rfl ?_
  have hle1 : ∀ m, m ∈ [] → m ≤ w.heap.size := (le_nil _)
  refine WO.box rfl rfl rfl rfl rfl rfl rfl ?_
  intro b1 w1 he2 hbe1 hb1
  refine ⟨trivial, ?_⟩
  have hst3 := St.ext (M := []) (Sub.refl _ _) he2
  have hs0_2 := hs0_2.stp hst3
  have hs0_3 := hs0_3.stp hst3
  have hs0_4 := hs0_4.stp hst3
  have hE4 := he2
  have hb1 : Bf [] w1 b1 43 [.int .i64 p0.Inputs, .int .i64 p0.Latches, .slice a0_2 p0.Next.length c0_2, .slice a0_3 p0.Gates.length c0_3, .slice a0_4 p0.Outs.length c0_4] := ⟨hb1, hb1.lt, fun hm => by have := hle1 _ hm; omega⟩
  refine WO.sp rfl rfl rfl rfl (rn_assign rfl rfl) ?_
  refine WO.fin ?_
  refine DN.seq ?_
  refine WC.seq ?_
  refine WC.seq ?_
  refine WC.regS [(0, 1), (1, 1), (2, 2)] rfl ?_
  refine WO.sq trivial rfl rfl rfl rfl (rn_loadBA hb1 Try.isAgg43 Try.sizeOf43 rfl rfl rfl) ?_
  obtain ⟨x11, hx11, h⟩ := Option.bind_eq_some_iff.mp h
  refine WO.call rfl rfl rfl rfl rfl rfl Try.call48 (i_isCircuit_ok (hs0_2.toE (Ext.refl _)) (hs0_3.toE (Ext.refl _)) (hs0_4.toE (Ext.refl _)) hx11) ?_
  rintro _ w5 ⟨rfl, he6⟩
  refine ⟨trivial, ?_⟩
  have hst7 := St.ext (M := []) (Sub.refl _ _) he6
  have hs0_2 := hs0_2.stp hst7
  have hs0_3 := hs0_3.stp hst7
  have hs0_4 := hs0_4.stp hst7
  have hb1 := hb1.stp hst7
  have hE8 := hE4.trans he6
  refine WO.sp rfl rfl rfl rfl (rn_not rfl rfl) ?_
  refine WO.fin ?_
  refine DN.seq ?_
  revert h
  cases ht9 : (!x11) with
  | true =>
    intro h
    simp only [cond_true, cond_false, Option.bind_some, Option.bind_assoc, lpK_ret, lpK_brk, lpK_nxt, aft_inl, aft_inr] at h
    refine WC.ct rfl ?_
    refine WC.seq ?_
    refine WC.regS [(0, 2)] rfl ?_
    refine WO.sp rfl rfl rfl rfl (rn_assign rfl rfl) ?_
    refine WO.fin ?_
    refine DN.seq ?_
    refine WC.ret ?_
    refine DN.retThen ?_
    refine DN.ret1 Try.results21 rfl ?_
    obtain rfl := Option.some.inj h
    exact ⟨rfl, hE8⟩
  | false =>
    intro h
    simp only [cond_true, cond_false, Option.bind_some, Option.bind_assoc, lpK_ret, lpK_brk, lpK_nxt, aft_inl, aft_inr] at h
    refine WC.cf rfl ?_
    refine WC.skip ?_
    refine DN.seq ?_
    refine WC.seq ?_
    refine WC.regS [(0, 1), (1, 1), (2, 1), (3, 2)] rfl ?_
    refine WO.sq trivial rfl rfl rfl rfl (rn_loadBA hb1 Try.isAgg43 Try.sizeOf43 rfl rfl rfl) ?_
    obtain ⟨x14, hx14, h⟩ := Option.bind_eq_some_iff.mp h
    refine WO.call rfl rfl rfl rfl rfl rfl Try.call51 (i_signalsOf_ok (hs0_2.toE (Ext.refl _)) (hs0_3.toE (Ext.refl _)) (hs0_4.toE (Ext.refl _)) hx14) ?_
    rintro _ w10 ⟨rfl, he11⟩
    refine ⟨trivial, ?_⟩
    have hst12 := St.ext (M := []) (Sub.refl _ _) he11
    have hs0_2 := hs0_2.stp hst12
    have hs0_3 := hs0_3.stp hst12
    have hs0_4 := hs0_4.stp hst12
    have hb1 := hb1.stp hst12
    have hE13 := hE8.trans he11
    obtain ⟨x15, hx15, h⟩ := Option.bind_eq_some_iff.mp h
    refine WO.make (E := (Rp.int .i64)) (M := []) rfl rfl rfl rfl rfl rfl Try.underlying24 Tryinfo2 rfl rfl rfl rfl (by decide) (fun _ _ => rfl) hx15 ?_
    intro a15 c15 w14 he15 hn15 ho15
    refine ⟨trivial, ?_⟩
    have hF15 : nb a15 = 0 ∨ w.heap.size < nb a15 := f_new hE13 hn15
    have hst16 := St.ext (M := []) (Sub.new hn15 (Sub.refl _ _)) he15
    have hs0_2 := hs0_2.stp hst16
    have hs0_3 := hs0_3.stp hst16
    have hs0_4 := hs0_4.stp hst16
    have hb1 := hb1.stp hst16
    have hE17 := hE13.trans he15
    refine WO.sp rfl rfl rfl rfl (rn_assign rfl rfl) ?_
    refine WO.fin ?_
    refine DN.seq ?_
    refine WC.seq ?_
    refine WC.regX none [(2, 2), (0, 0), (3, 0), (4, 2), (1, 1), (5, 2), (6, 2)] [] (by kernel_rfl) (by kernel_rfl) fun w18 he19 hh20 => ?_
    have hst21 := St.ext (M := (nb a15 :: [])) (Sub.refl _ _) he19
    have hs0_2 := hs0_2.stp hst21
    have hs0_3 := hs0_3.stp hst21
    have hs0_4 := hs0_4.stp hst21
    have hb1 := hb1.stp hst21
    have ho15 := ho15.ext (Sub.refl _ _) he19
    have hE22 := hE17.trans he19
    refine WO.sp rfl rfl rfl rfl (rn_fieldAddr Try.runUnderlying43 rfl Try.sizeOf41 rfl rfl) ?_
    refine WO.dq rfl rfl rfl rfl (rn_loadBA hb1 Try.isAgg43 Try.sizeOf43 rfl rfl rfl) ?_
    refine WO.dq rfl rfl rfl rfl (rn_loadB hb1 Try.isAgg41 rfl rfl rfl) ?_
    refine WO.sp rfl rfl rfl rfl (rn_len Try.runUnderlying41 rfl rfl) ?_
    obtain ⟨x17, hx17, h⟩ := Option.bind_eq_some_iff.mp h
    refine WO.call rfl rfl rfl rfl rfl rfl Try.call51 (i_signalsOf_ok (hs0_2.toE (Ext.refl _)) (hs0_3.toE (Ext.refl _)) (hs0_4.toE (Ext.refl _)) hx17) ?_
    rintro _ w23 ⟨rfl, he24⟩
    have hx25 := he24
    refine ⟨hx25.cw, ?_⟩
    have hst26 := St.ext (M := (nb a15 :: [])) (Sub.refl _ _) he24
    have hz27 := hst26
    have hs0_2 := hs0_2.stp hst26
    have hs0_3 := hs0_3.stp hst26
    have hs0_4 := hs0_4.stp hst26
    have hb1 := hb1.stp hst26
    have ho15 := ho15.ext (Sub.refl _ _) he24
    have hE28 := hE22.trans he24
    refine WO.sp rfl rfl rfl rfl (rn_sub rfl rfl rfl) ?_
    refine WO.sp rfl rfl rfl rfl (rn_assign rfl rfl) ?_
    refine WO.nx ?_
    refine WO.fin ?_
    refine DN.seq ?_
    refine WC.seq ?_
    refine WC.seq ?_
    refine WC.regS [(0, 2), (1, 1), (2, 2), (3, 2)] rfl ?_
    refine WO.sp rfl rfl rfl rfl (rn_fieldAddr Try.runUnderlying43 rfl Try.sizeOf41 rfl rfl) ?_
    refine WO.sq trivial rfl rfl rfl rfl (rn_loadB hb1 Try.isAgg41 rfl rfl rfl) ?_
    refine WO.sp rfl rfl rfl rfl (rn_len Try.runUnderlying41 rfl rfl) ?_
    refine WO.sp rfl rfl rfl rfl (rn_move rfl rfl) ?_
    refine WO.fin ?_
    refine DN.seq ?_
    refine WC.block ?_
    obtain ⟨q29, hq29, hk29⟩ := Option.bind_eq_some_iff.mp h
    clear h
    refine WC.loop (fun k L w' => ∃ (v3 : List Int), ∃ (la3 : Option Addr), ∃ (lc3 : Nat), ∃ (v25 : Int), L = [(1, .pointer (some ⟨b1, 0, none⟩)), (3, .slice la3 v3.length lc3), (4, .int .i64 (IntKind.i64.wrap (x17 - (p0.Gates.length : Int)))), (23, .slice a0_3 p0.Gates.length c0_3), (24, .int .i64 (p0.Gates.length : Int)), (25, .int .i64 v25)] ∧ Ext w w' ∧ Sl (Rp.int .i64) (Fz (nb la3 :: []) w') w' a0_2 c0_2 p0.Next ∧ Sl Gate.rp (Fz (nb la3 :: []) w') w' a0_3 c0_3 p0.Gates ∧ Sl (Rp.int .i64) (Fz (nb la3 :: []) w') w' a0_4 c0_4 p0.Outs ∧ Bf (nb la3 :: []) w' b1 43 [.int .i64 p0.Inputs, .int .i64 p0.Latches, .slice a0_2 p0.Next.length c0_2, .slice a0_3 p0.Gates.length c0_3, .slice a0_4 p0.Outs.length c0_4] ∧ Ow (Rp.int .i64) 2 (Fz (nb la3 :: []) w') w' la3 lc3 v3 ∧ (nb la3 = 0 ∨ w.heap.size < nb la3) ∧ 0 ≤ v25 ∧ Int.toNat ((p0.Gates.length : Int) - v25) = k ∧ cntM (i_DepthOf_b0 p0 x17) k v25 (v3 : (List Int)) = some q29) ⟨_, _, ⟨x15, a15, c15, 0, rfl, hE28, hs0_2, hs0_3, hs0_4, hb1, ho15, hF15, (by decide), (by simp), hq29⟩, fun a ha => (ha.more (ha.more (ha.more (ha.more (ha.more (ha.more ha.nil rfl) rfl) rfl) rfl) rfl) rfl)⟩ ?_
    rintro k _ w30 ⟨v3, la3, lc3, v25, rfl, hE31, hs0_2, hs0_3, hs0_4, hb1, lo3, lF3, hj29, hJ29, h⟩
    rcases k with _ | k
    ·
      simp only [cntM] at h
      have hc29 : decide (v25 < (p0.Gates.length : Int)) = false := decide_eq_false (by omega)
      refine WC.seq ?_
      refine WC.regS [(0, 2)] rfl ?_
      refine WO.sp rfl rfl rfl rfl (rn_lss rfl rfl rfl) ?_
      refine WO.fin ?_
      refine DN.seq ?_
      refine WC.seq ?_
      refine WC.cf' rfl hc29 ?_
      refine WC.exit ?_
      refine DN.exitThen ?_
      refine DN.exitThen ?_
      obtain rfl := Option.some.inj h
      have h := hk29
      simp only [cond_true, cond_false, Option.bind_some, Option.bind_assoc, lpK_ret, lpK_brk, lpK_nxt, aft_inl, aft_inr] at h
      refine DN.hit ?_
      refine DN.seq ?_
      refine WC.seq ?_
      refine WC.regS [(0, 2)] rfl ?_
      refine WO.sp rfl rfl rfl rfl (rn_assign rfl rfl) ?_
      refine WO.fin ?_
      refine DN.seq ?_
      refine WC.seq ?_
      refine WC.seq ?_
      refine WC.regX none [(1, 2), (4, 2), (8, 2), (2, 0), (5, 0), (0, 1), (3, 1), (6, 1), (7, 2)] [] (by kernel_rfl) (by kernel_rfl) fun w32 he33 hh34 => ?_
      have hst35 := St.ext (M := (nb la3 :: [])) (Sub.refl _ _) he33
      have hs0_2 := hs0_2.stp hst35
      have hs0_3 := hs0_3.stp hst35
      have hs0_4 := hs0_4.stp hst35
      have hb1 := hb1.stp hst35
      have lo3 := lo3.ext (Sub.refl _ _) he33
      have hE36 := hE31.trans he33
      refine WO.sp rfl rfl rfl rfl (rn_fieldAddr Try.runUnderlying43 rfl Try.sizeOf24 rfl rfl) ?_
      refine WO.sp rfl rfl rfl rfl (rn_fieldAddr Try.runUnderlying43 rfl Try.sizeOf24 rfl rfl) ?_
      refine WO.sp rfl rfl rfl rfl (rn_move rfl rfl) ?_
      refine WO.dq rfl rfl rfl rfl (rn_loadB hb1 Try.isAgg24 rfl rfl rfl) ?_
      refine WO.dq rfl rfl rfl rfl (rn_loadB hb1 Try.isAgg24 rfl rfl rfl) ?_
      refine WO.bld0 (E := (Rp.int .i64)) (M := (nb la3 :: [])) rfl rfl rfl rfl rfl Try.underlying24 Tryinfo2 rfl rfl ?_
      intro a50 c50 w37 he38 hn50 ho50
      have hx39 := he38
      refine ⟨hx39.cw, ?_⟩
      have hd_l3_50 : nb la3 = 0 ∨ nb la3 ≠ nb a50 := d_new lo3.nb_le hn50
      have hF50 : nb a50 = 0 ∨ w.heap.size < nb a50 := f_new hE36 hn50
      have hst40 := St.ext (M := (nb la3 :: [])) (Sub.new hn50 (Sub.refl _ _)) he38
      have hz41 := hst40
      have hs0_2 := hs0_2.stp hst40
      have hs0_3 := hs0_3.stp hst40
      have hs0_4 := hs0_4.stp hst40
      have hb1 := hb1.stp hst40
      have lo3 := lo3.ext (Sub.new hn50 (Sub.refl _ _)) he38
      have hE42 := hE36.trans he38
      obtain ⟨x53, hx53, h⟩ := Option.bind_eq_some_iff.mp h
      refine WO.app (E := (Rp.int .i64)) (M := (nb a50 :: (nb la3 :: []))) rfl rfl rfl rfl rfl rfl rfl rfl rfl Try.underlying24 Tryinfo2 rfl rfl rfl rfl (by decide) ho50 (.inr (.head _)) (Sl.src hs0_2) hx53 ?_
      intro a53 c53 w43 hn53 ht44 hO53
      have hx45 : Ext w32 w43 := ht44.ext hx39 (by have := (hx39).size; first | omega | (simp only [nb] at *; omega))
      refine ⟨hx45.cw, ?_⟩
      have hF53 : nb a53 = 0 ∨ w.heap.size < nb a53 := f_turn hE42 hn53 hF50
      have hd_l3_53 : nb la3 = 0 ∨ nb la3 ≠ nb a53 := d_turn lo3.nb_le hn53 hd_l3_50
      have hst46 := Tch.st (M := (nb a50 :: (nb la3 :: []))) ht44 (.inr (.head _)) (Sub.turn hn53 (Sub.same _ (Sub.refl _ _)))
      have hz47 := hz41.trans hst46
      have hs0_2 := hs0_2.stp hst46
      have hs0_3 := hs0_3.stp hst46
      have hs0_4 := hs0_4.stp hst46
      have hb1 := hb1.stp hst46
      have lo3 := lo3.tch ht44 (.inr (.head _)) (Sub.turn hn53 (Sub.same _ (Sub.refl _ _))) hd_l3_50
      have ho53 := hO53 _ (Sub.turn hn53 (Sub.same _ (Sub.refl _ _)))
      have hE48 := ht44.ext hE42 hF50
      obtain ⟨x56, hx56, h⟩ := Option.bind_eq_some_iff.mp h
      refine WO.app (E := (Rp.int .i64)) (M := (nb a53 :: (nb la3 :: []))) rfl rfl rfl rfl rfl rfl rfl rfl rfl Try.underlying24 Tryinfo2 rfl rfl rfl rfl (by decide) ho53 (.inr (.head _)) (Sl.src hs0_4) hx56 ?_
      intro a56 c56 w49 hn56 ht50 hO56
      have hx51 : Ext w32 w49 := ht50.ext hx45 (by have := (hx39).size; have := (hx45).size; first | omega | (simp only [nb] at *; omega))
      refine ⟨hx51.cw, ?_⟩
      have hF56 : nb a56 = 0 ∨ w.heap.size < nb a56 := f_turn hE48 hn56 hF53
      have hd_l3_56 : nb la3 = 0 ∨ nb la3 ≠ nb a56 := d_turn lo3.nb_le hn56 hd_l3_53
      have hst52 := Tch.st (M := (nb a53 :: (nb la3 :: []))) ht50 (.inr (.head _)) (Sub.turn hn56 (Sub.same _ (Sub.refl _ _)))
      have hz53 := hz47.trans hst52
      have hs0_2 := hs0_2.stp hst52
      have hs0_3 := hs0_3.stp hst52
      have hs0_4 := hs0_4.stp hst52
      have hb1 := hb1.stp hst52
      have lo3 := lo3.tch ht50 (.inr (.head _)) (Sub.turn hn56 (Sub.same _ (Sub.refl _ _))) hd_l3_53
      have ho56 := hO56 _ (Sub.turn hn56 (Sub.same _ (Sub.refl _ _)))
      have hE54 := ht50.ext hE48 hF53
      refine WO.sp rfl rfl rfl rfl (rn_len Try.runUnderlying24 rfl rfl) ?_
      refine WO.nx ?_
      refine WO.fin ?_
      refine DN.seq ?_
      refine WC.block ?_
      obtain ⟨q55, hq55, hk55⟩ := Option.bind_eq_some_iff.mp h
      clear h
      refine WC.loop (fun k L w' => ∃ (v7 : Int), ∃ (v58 : Int), L = [(3, .slice la3 v3.length lc3), (7, .int .i64 v7), (56, .slice a56 x56.length c56), (57, .int .i64 (x56.length : Int)), (58, .int .i64 v58)] ∧ Ext w w' ∧ Sl (Rp.int .i64) (Fz (nb a56 :: (nb la3 :: [])) w') w' a0_2 c0_2 p0.Next ∧ Sl Gate.rp (Fz (nb a56 :: (nb la3 :: [])) w') w' a0_3 c0_3 p0.Gates ∧ Sl (Rp.int .i64) (Fz (nb a56 :: (nb la3 :: [])) w') w' a0_4 c0_4 p0.Outs ∧ Bf (nb a56 :: (nb la3 :: [])) w' b1 43 [.int .i64 p0.Inputs, .int .i64 p0.Latches, .slice a0_2 p0.Next.length c0_2, .slice a0_3 p0.Gates.length c0_3, .slice a0_4 p0.Outs.length c0_4] ∧ Ow (Rp.int .i64) 2 (Fz (nb a56 :: (nb la3 :: [])) w') w' a56 c56 x56 ∧ Ow (Rp.int .i64) 2 (Fz (nb a56 :: (nb la3 :: [])) w') w' la3 lc3 v3 ∧ 0 ≤ v58 ∧ Int.toNat ((x56.length : Int) - v58) = k ∧ cntM (i_DepthOf_b2 (v3 : (List Int)) x56) k v58 (v7 : Int) = some q55) ⟨_, _, ⟨0, 0, rfl, hE54, hs0_2, hs0_3, hs0_4, hb1, ho56, lo3, (by decide), (by simp), hq55⟩, fun a ha => (ha.more (ha.more (ha.more (ha.more (ha.more ha.nil rfl) rfl) rfl) rfl) rfl)⟩ ?_
      rintro k _ w56 ⟨v7, v58, rfl, hE57, hs0_2, hs0_3, hs0_4, hb1, ho56, lo3, hj55, hJ55, h⟩
      rcases k with _ | k
      ·
        simp only [cntM] at h
        have hc55 : decide (v58 < (x56.length : Int)) = false := decide_eq_false (by omega)
        refine WC.seq ?_
        refine WC.regS [(0, 2)] rfl ?_
        refine WO.sp rfl rfl rfl rfl (rn_lss rfl rfl rfl) ?_
        refine WO.fin ?_
        refine DN.seq ?_
        refine WC.seq ?_
        refine WC.cf' rfl hc55 ?_
        refine WC.exit ?_
        refine DN.exitThen ?_
        refine DN.exitThen ?_
        obtain rfl := Option.some.inj h
        have h := hk55
        simp only [cond_true, cond_false, Option.bind_some, Option.bind_assoc, lpK_ret, lpK_brk, lpK_nxt, aft_inl, aft_inr] at h
        refine DN.hit ?_
        have hsb58 : Sb (nb a56 :: (nb la3 :: [])) [] := (Sb.drop (Sb.drop (Sb.refl _)))
        have hs0_2 := hs0_2.stp hsb58.st
        have hs0_3 := hs0_3.stp hsb58.st
        have hs0_4 := hs0_4.stp hsb58.st
        have hb1 := hb1.stp hsb58.st
        refine DN.seq ?_
        refine WC.seq ?_
        refine WC.regS [(0, 2), (1, 2)] rfl ?_
        refine WO.sp rfl rfl rfl rfl (rn_move rfl rfl) ?_
        refine WO.sp rfl rfl rfl rfl (rn_assign rfl rfl) ?_
        refine WO.fin ?_
        refine DN.seq ?_
        refine WC.ret ?_
        refine DN.ret1 Try.results21 rfl ?_
        obtain rfl := Option.some.inj h
        exact ⟨rfl, hE57⟩
      ·
        simp only [cntM, i_DepthOf_b2, cond_true, cond_false, Option.bind_some, Option.bind_assoc, lpK_ret, lpK_brk, lpK_nxt, aft_inl, aft_inr] at h
        have hc55 : decide (v58 < (x56.length : Int)) = true := decide_eq_true (by omega)
        refine WC.seq ?_
        refine WC.regS [(0, 2)] rfl ?_
        refine WO.sp rfl rfl rfl rfl (rn_lss rfl rfl rfl) ?_
        refine WO.fin ?_
        refine DN.seq ?_
        refine WC.seq ?_
        refine WC.ct' rfl hc55 ?_
        refine WC.skip ?_
        refine DN.seq ?_
        refine WC.seq ?_
        refine WC.block ?_
        refine WC.seq ?_
        refine WC.regS [(0, 2), (1, 1), (2, 2)] rfl ?_
        obtain ⟨x60, hx60, h⟩ := Option.bind_eq_some_iff.mp h
        refine WO.sp rfl rfl rfl rfl (rn_index ho56.read hx60 Try.runUnderlying24 Try.sizeOf2 rfl rfl rfl rfl) ?_
        refine WO.sq trivial rfl rfl rfl rfl (rn_load Try.isAgg2 rfl rfl ((ho56.read).getInt hx60)) ?_
        refine WO.sp rfl rfl rfl rfl (rn_assign rfl rfl) ?_
        refine WO.fin ?_
        refine DN.seq ?_
        refine WC.regS [(0, 2), (1, 2), (2, 2), (3, 2), (4, 2), (5, 1), (6, 2), (7, 2)] rfl ?_
        refine WO.sp rfl rfl rfl rfl (rn_move rfl rfl) ?_
        refine WO.sp rfl rfl rfl rfl (rn_move rfl rfl) ?_
        refine WO.sp rfl rfl rfl rfl (rn_move rfl rfl) ?_
        refine WO.sp rfl rfl rfl rfl (rn_quo rfl rfl rfl (by decide)) ?_
        obtain ⟨x66, hx66, h⟩ := Option.bind_eq_some_iff.mp h
        refine WO.sp rfl rfl rfl rfl (rn_index lo3.read hx66 Try.runUnderlying24 Try.sizeOf2 rfl rfl rfl rfl) ?_
        refine WO.sq trivial rfl rfl rfl rfl (rn_load Try.isAgg2 rfl rfl ((lo3.read).getInt hx66)) ?_
        refine WO.sp rfl rfl rfl rfl (rn_max rfl rfl rfl) ?_
        refine WO.sp rfl rfl rfl rfl (rn_assign rfl rfl) ?_
        refine WO.fin ?_
        refine DN.block ?_
        refine DN.seq ?_
        refine WC.regS [(0, 2), (1, 2)] rfl ?_
        refine WO.sp rfl rfl rfl rfl (rn_add rfl rfl rfl) ?_
        refine WO.sp rfl rfl rfl rfl (rn_move rfl rfl) ?_
        refine WO.fin ?_
        have hw55 : IntKind.wrap .i64 (v58 + 1) = v58 + 1 := wr1 hj55 (of_decide_eq_true hc55) ho56.len_le
        rw [hw55]
        have hc55 := of_decide_eq_true hc55
        refine DN.round fun a ha => ?_
        exact ⟨k, _, Nat.lt_succ_self _, ⟨(if v7 < x66 then x66 else v7), v58 + 1, rfl, hE57, hs0_2, hs0_3, hs0_4, hb1, ho56, lo3, by omega, by omega, h⟩, (ha.more (ha.more (ha.more (ha.more (ha.more ha.nil rfl) rfl) rfl) rfl) rfl)⟩
    ·
      simp only [cntM, i_DepthOf_b0, cond_true, cond_false, Option.bind_some, Option.bind_assoc, lpK_ret, lpK_brk, lpK_nxt, aft_inl, aft_inr] at h
      have hc29 : decide (v25 < (p0.Gates.length : Int)) = true := decide_eq_true (by omega)
      refine WC.seq ?_
      refine WC.regS [(0, 2)] rfl ?_
      refine WO.sp rfl rfl rfl rfl (rn_lss rfl rfl rfl) ?_
      refine WO.fin ?_
      refine DN.seq ?_
      refine WC.seq ?_
      refine WC.ct' rfl hc29 ?_
      refine WC.skip ?_
      refine DN.seq ?_
      refine WC.seq ?_
      refine WC.block ?_
      refine WC.seq ?_
      refine WC.regS [(0, 2), (1, 2), (2, 1), (3, 1), (4, 2), (5, 1)] rfl ?_
      refine WO.sp rfl rfl rfl rfl (rn_move rfl rfl) ?_
      obtain ⟨x28, hx28, h⟩ := Option.bind_eq_some_iff.mp h
      refine WO.sp rfl rfl rfl rfl (rn_index hs0_3 hx28 Try.runUnderlying41 Try.sizeOf68 rfl rfl rfl rfl) ?_
      obtain ⟨csx28, hrx28, hlx28⟩ := (hs0_3).get hx28
      obtain rfl := Gate.un hrx28
      refine WO.sq trivial rfl rfl rfl rfl (rn_loadAgg Try.isAgg68 Try.sizeOf68 rfl rfl hlx28 rfl) ?_
      refine WO.alloc rfl rfl rfl rfl rfl Try.zeroValue68 rfl ?_
      intro b6 w59 he60 hbe6 hb6
      refine ⟨trivial, ?_⟩
      have hn6 : w30.heap.size < b6 + 1 := by omega
      have hd_l3_b6 : nb la3 = 0 ∨ nb la3 ≠ (b6 + 1) := d_new lo3.nb_le hn6
      have hF6 : (b6 + 1) = 0 ∨ w.heap.size < (b6 + 1) := f_new hE31 hn6
      have hst61 := St.ext (M := (nb la3 :: [])) (Sub.new hn6 (Sub.refl _ _)) he60
      have hs0_2 := hs0_2.stp hst61
      have hs0_3 := hs0_3.stp hst61
      have hs0_4 := hs0_4.stp hst61
      have hb1 := hb1.stp hst61
      have lo3 := lo3.ext (Sub.new hn6 (Sub.refl _ _)) he60
      have hE62 := hE31.trans he60
      refine WO.sp rfl rfl rfl rfl (rn_assign rfl rfl) ?_
      refine WO.stB0 (vc := [.int .i64 x28.A, .int .i64 x28.B]) rfl rfl rfl rfl rfl rfl rfl Try.sizeOf68 rfl (by intro u hu; simp only [List.mem_cons, List.not_mem_nil, or_false] at hu; rcases hu with rfl | rfl <;> rfl) hb6 rfl ?_
      intro w63 ht64 hb6
      refine ⟨trivial, ?_⟩
      have hst65 := Tch.st (M := ((b6 + 1) :: (nb la3 :: []))) ht64 (.inr (.head _)) (Sub.refl _ _)
      have hs0_2 := hs0_2.stp hst65
      have hs0_3 := hs0_3.stp hst65
      have hs0_4 := hs0_4.stp hst65
      have hb1 := hb1.stp hst65
      have lo3 := lo3.tch ht64 (.inr (.head _)) (Sub.refl _ _) hd_l3_b6
      have hE66 := ht64.ext hE62 hF6
      refine WO.fin ?_
      refine DN.seq ?_
      refine WC.regX (some 19) [(0, 2), (1, 2), (2, 2), (3, 2), (4, 2), (5, 2), (10, 2), (11, 2), (6, 0), (7, 2), (8, 2), (9, 0), (12, 0), (13, 2), (14, 2), (15, 0), (16, 2), (17, 2), (18, 2)] [(19, 1)] (by kernel_rfl) (by kernel_rfl) fun w67 he68 hh69 => ?_
      have hst70 := St.ext (M := ((b6 + 1) :: (nb la3 :: []))) (Sub.refl _ _) he68
      have hs0_2 := hs0_2.stp hst70
      have hs0_3 := hs0_3.stp hst70
      have hs0_4 := hs0_4.stp hst70
      have hb1 := hb1.stp hst70
      have hb6 := hb6.ext he68
      have lo3 := lo3.ext (Sub.refl _ _) he68
      have hE71 := hE66.trans he68
      refine WO.sp rfl rfl rfl rfl (rn_move rfl rfl) ?_
      refine WO.sp rfl rfl rfl rfl (rn_move rfl rfl) ?_
      refine WO.sp rfl rfl rfl rfl (rn_move rfl rfl) ?_
      refine WO.sp rfl rfl rfl rfl (rn_add rfl rfl rfl) ?_
      refine WO.sp rfl rfl rfl rfl (rn_move rfl rfl) ?_
      refine WO.sp rfl rfl rfl rfl (rn_fieldAddr Try.runUnderlying68 rfl Try.sizeOf2 rfl rfl) ?_
      refine WO.sp rfl rfl rfl rfl (rn_move rfl rfl) ?_
      refine WO.sp rfl rfl rfl rfl (rn_fieldAddr Try.runUnderlying68 rfl Try.sizeOf2 rfl rfl) ?_
      refine WO.dq rfl rfl rfl rfl (rn_loadB (Bf.of hb6) Try.isAgg2 rfl rfl rfl) ?_
      refine WO.sp rfl rfl rfl rfl (rn_quo rfl rfl rfl (by decide)) ?_
      obtain ⟨x38, hx38, h⟩ := Option.bind_eq_some_iff.mp h
      refine WO.sp rfl rfl rfl rfl (rn_index lo3.read hx38 Try.runUnderlying24 Try.sizeOf2 rfl rfl rfl rfl) ?_
      refine WO.dq rfl rfl rfl rfl (rn_load Try.isAgg2 rfl rfl ((lo3.read).getInt hx38)) ?_
      refine WO.dq rfl rfl rfl rfl (rn_loadB (Bf.of hb6) Try.isAgg2 rfl rfl rfl) ?_
      refine WO.sp rfl rfl rfl rfl (rn_quo rfl rfl rfl (by decide)) ?_
      obtain ⟨x44, hx44, h⟩ := Option.bind_eq_some_iff.mp h
      refine WO.sp rfl rfl rfl rfl (rn_index lo3.read hx44 Try.runUnderlying24 Try.sizeOf2 rfl rfl rfl rfl) ?_
      refine WO.dq rfl rfl rfl rfl (rn_load Try.isAgg2 rfl rfl ((lo3.read).getInt hx44)) ?_
      refine WO.sp rfl rfl rfl rfl (rn_max rfl rfl rfl) ?_
      refine WO.sp rfl rfl rfl rfl (rn_add rfl rfl rfl) ?_
      obtain ⟨x48, hx48, h⟩ := Option.bind_eq_some_iff.mp h
      refine WO.sp rfl rfl rfl rfl (rn_index lo3.read hx48 Try.runUnderlying24 Try.sizeOf2 rfl rfl rfl rfl) ?_
      refine WO.nx ?_
      obtain ⟨y0, hy0, h⟩ := Option.bind_eq_some_iff.mp h
      have hlny0 := (setI_ok hy0).2.2.2
      refine WO.stI (E := (Rp.int .i64)) (M := ((b6 + 1) :: (nb la3 :: []))) rfl rfl rfl rfl rfl rfl rfl rfl Try.sizeOf2 rfl rfl lo3 (.inr (.tail _ (.head _))) hy0 ?_
      intro w72 ht73 lo3
      refine ⟨trivial, ?_⟩
      have hst74 := Tch.st (M := ((b6 + 1) :: (nb la3 :: []))) ht73 (.inr (.tail _ (.head _))) (Sub.refl _ _)
      have hs0_2 := hs0_2.stp hst74
      have hs0_3 := hs0_3.stp hst74
      have hs0_4 := hs0_4.stp hst74
      have hb1 := hb1.stp hst74
      have hb6 := hb6.tch ht73 (d_ne (d_sym hd_l3_b6))
      have hE75 := ht73.ext hE71 lF3
      try rw [← hlny0]
      refine WO.fin ?_
      refine DN.block ?_
      have hsb76 : Sb ((b6 + 1) :: (nb la3 :: [])) (nb la3 :: []) := (Sb.head (.tail _ (.head _)) (Sb.drop (Sb.drop (Sb.refl _))))
      have hs0_2 := hs0_2.stp hsb76.st
      have hs0_3 := hs0_3.stp hsb76.st
      have hs0_4 := hs0_4.stp hsb76.st
      have hb1 := hb1.stp hsb76.st
      have lo3 := lo3.sb hsb76
      refine DN.seq ?_
      refine WC.regS [(0, 2), (1, 2)] rfl ?_
      refine WO.sp rfl rfl rfl rfl (rn_add rfl rfl rfl) ?_
      refine WO.sp rfl rfl rfl rfl (rn_move rfl rfl) ?_
      refine WO.fin ?_
      have hw29 : IntKind.wrap .i64 (v25 + 1) = v25 + 1 := wr1 hj29 (of_decide_eq_true hc29) hs0_3.len_le
      rw [hw29]
      have hc29 := of_decide_eq_true hc29
      refine DN.round fun a ha => ?_
      exact ⟨k, _, Nat.lt_succ_self _, ⟨y0, la3, lc3, v25 + 1, rfl, hE75, hs0_2, hs0_3, hs0_4, hb1, lo3, lF3, by omega, by omega, h⟩, (ha.more (ha.more (ha.more (ha.more (ha.more (ha.more ha.nil rfl) rfl) rfl) rfl) rfl) rfl)⟩

/- loop.example/g00869/laws.FnExactDepthOf -/
def l_FnExactDepthOf (p0 : Circuit) : Option (Bool) :=
  Option.bind (l_szCircuit p0 1048576) fun x9 =>
  bif decide (x9 < 0) then
    some (true : Bool)
  else
    Option.bind (l_toCircuit p0) fun x13 =>
    Option.bind (s_DepthOf x13) fun x14 =>
    Option.bind (l_toCircuit p0) fun x16 =>
    Option.bind (i_DepthOf x16) fun x18 =>
    bif (x18 != x14) then
      some (false : Bool)
    else
      Option.bind (l_toCircuit p0) fun x24 =>
      Option.bind (l_eqCircuit x16 x24) fun x25 =>
      bif (!x25) then
        some (false : Bool)
      else
        some (true : Bool)

theorem l_FnExactDepthOf_ok {p0 : Circuit} {a0_2 : Option Addr} {c0_2 : Nat} {a0_3 : Option Addr} {c0_3 : Nat} {a0_4 : Option Addr} {c0_4 : Nat} {w : World} (hs0_2 : Sl (Rp.int .i64) (Fz [] w) w a0_2 c0_2 p0.Next) (hs0_3 : Sl Gate.rp (Fz [] w) w a0_3 c0_3 p0.Gates) (hs0_4 : Sl (Rp.int .i64) (Fz [] w) w a0_4 c0_4 p0.Outs) {r : Bool} (h : l_FnExactDepthOf p0 = some r) : Ret Try.prog 5 [.agg #[.int .i64 p0.Inputs, .int .i64 p0.Latches, .slice a0_2 p0.Next.length c0_2, .slice a0_3 p0.Gates.length c0_3, .slice a0_4 p0.Outs.length c0_4]] w (fun v w' => v = .bool r ∧ Ext w w') := by
  unfold l_FnExactDepthOf at h
  refine Ret.enter Try.func5 rfl Try.ntmps5 rfl ?_
  dsimp only [envOf]
  refine WC.seq ?_
  refine WC.regS [(0, 1), (1, 2)] rfl ?_
  have hle1 : ∀ m, m ∈ [] → m ≤ w.heap.size := (le_nil _)
  refine WO.box rfl rfl rfl rfl rfl rfl rfl ?_
  intro b1 w1 he2 hbe1 hb1
  refine ⟨trivial, ?_⟩
  have hst3 := St.ext (M := []) (Sub.refl _ _) he2
  have hs0_2 := hs0_2.stp hst3
  have hs0_3 := hs0_3.stp hst3
  have hs0_4 := hs0_4.stp hst3
  have hE4 := he2
  have hb1 : Bf [] w1 b1 38 [.int .i64 p0.Inputs, .int .i64 p0.Latches, .slice a0_2 p0.Next.length c0_2, .slice a0_3 p0.Gates.length c0_3, .slice a0_4 p0.Outs.length c0_4] := ⟨hb1, hb1.lt, fun hm => by have := hle1 _ hm; omega⟩
  refine WO.sp rfl rfl rfl rfl (rn_assign rfl rfl) ?_
  refine WO.fin ?_
  refine DN.seq ?_
  refine WC.seq ?_
  refine WC.regS [(0, 2)] rfl ?_
  refine WO.sp rfl rfl rfl rfl (rn_assign rfl rfl) ?_
  refine WO.fin ?_
  refine DN.seq ?_
  refine WC.seq ?_
  refine WC.regS [(0, 1), (1, 2), (2, 1), (3, 2)] rfl ?_
  refine WO.sq trivial rfl rfl rfl rfl (rn_loadBA hb1 Try.isAgg38 Try.sizeOf38 rfl rfl rfl) ?_
  refine WO.sp rfl rfl rfl rfl (rn_move rfl rfl) ?_
  obtain ⟨x9, hx9, h⟩ := Option.bind_eq_some_iff.mp h
  refine WO.call rfl rfl rfl rfl rfl rfl Try.call15 (l_szCircuit_ok (hs0_2.toE (Ext.refl _)) (hs0_3.toE (Ext.refl _)) (hs0_4.toE (Ext.refl _)) hx9) ?_
  rintro _ w5 ⟨rfl, he6⟩
  refine ⟨trivial, ?_⟩
  have hst7 := St.ext (M := []) (Sub.refl _ _) he6
  have hs0_2 := hs0_2.stp hst7
  have hs0_3 := hs0_3.stp hst7
  have hs0_4 := hs0_4.stp hst7
  have hb1 := hb1.stp hst7
  have hE8 := hE4.trans he6
  refine WO.sp rfl rfl rfl rfl (rn_assign rfl rfl) ?_
  refine WO.fin ?_
  refine DN.seq ?_
  refine WC.seq ?_
  refine WC.seq ?_
  refine WC.regS [(0, 2), (1, 2)] rfl ?_
  refine WO.sp rfl rfl rfl rfl (rn_move rfl rfl) ?_
  refine WO.sp rfl rfl rfl rfl (rn_lss rfl rfl rfl) ?_
  refine WO.fin ?_
  refine DN.seq ?_
  revert h
  cases ht9 : decide (x9 < 0) with
  | true =>
    intro h
    simp only [cond_true, cond_false, Option.bind_some, Option.bind_assoc, lpK_ret, lpK_brk, lpK_nxt, aft_inl, aft_inr] at h
    refine WC.ct rfl ?_
    refine WC.seq ?_
    refine WC.regS [(0, 2)] rfl ?_
    refine WO.sp rfl rfl rfl rfl (rn_assign rfl rfl) ?_
    refine WO.fin ?_
    refine DN.seq ?_
    refine WC.ret ?_
    refine DN.retThen ?_
    refine DN.ret1 Try.results5 rfl ?_
    obtain rfl := Option.some.inj h
    exact ⟨rfl, hE8⟩
  | false =>
    intro h
    simp only [cond_true, cond_false, Option.bind_some, Option.bind_assoc, lpK_ret, lpK_brk, lpK_nxt, aft_inl, aft_inr] at h
    refine WC.cf rfl ?_
    refine WC.skip ?_
    refine DN.seq ?_
    refine WC.seq ?_
    refine WC.regS [(0, 1), (1, 1), (2, 1), (3, 2)] rfl ?_
    refine WO.sq trivial rfl rfl rfl rfl (rn_loadBA hb1 Try.isAgg38 Try.sizeOf38 rfl rfl rfl) ?_
    obtain ⟨x13, hx13, h⟩ := Option.bind_eq_some_iff.mp h
    refine WO.call rfl rfl rfl rfl rfl rfl Try.call17 (l_toCircuit_ok (M := []) (hs0_2.toM (Ext.refl _)) (hs0_3.toM (Ext.refl _)) (hs0_4.toM (Ext.refl _)) (le_nil _) hx13) ?_
    rintro _ w10 ⟨ax13_1, cx13_1, ax13_2, cx13_2, ax13_3, cx13_3, rfl, he11, hfx13_1, hfx13_2, hfx13_3, hddx13_1x13_2, hddx13_1x13_3, hddx13_2x13_3, hox13_1, hox13_2, hox13_3⟩
    refine ⟨trivial, ?_⟩
    have hFx13_1 : nb ax13_1 = 0 ∨ w.heap.size < nb ax13_1 := f_newO hE8 hfx13_1
    have hFx13_2 : nb ax13_2 = 0 ∨ w.heap.size < nb ax13_2 := f_newO hE8 hfx13_2
    have hFx13_3 : nb ax13_3 = 0 ∨ w.heap.size < nb ax13_3 := f_newO hE8 hfx13_3
    have hd_x131_x132 := hddx13_1x13_2
    have hd_x131_x133 := hddx13_1x13_3
    have hd_x132_x133 := hddx13_2x13_3
    have hst12 := St.ext (M := []) (Sub.newO hfx13_1 (Sub.newO hfx13_2 (Sub.newO hfx13_3 (Sub.refl _ _)))) he11
    have hs0_2 := hs0_2.stp hst12
    have hs0_3 := hs0_3.stp hst12
    have hs0_4 := hs0_4.stp hst12
    have hb1 := hb1.stp hst12
    have hE13 := hE8.trans he11
    obtain ⟨x14, hx14, h⟩ := Option.bind_eq_some_iff.mp h
    refine WO.call rfl rfl rfl rfl rfl rfl Try.call20 (s_DepthOf_ok (hox13_1.read.toE (Ext.refl _)) (hox13_2.read.toE (Ext.refl _)) (hox13_3.read.toE (Ext.refl _)) hx14) ?_
    rintro _ w14 ⟨rfl, he15⟩
    refine ⟨trivial, ?_⟩
    have hst16 := St.ext (M := (nb ax13_1 :: (nb ax13_2 :: (nb ax13_3 :: [])))) (Sub.refl _ _) he15
    have hs0_2 := hs0_2.stp hst16
    have hs0_3 := hs0_3.stp hst16
    have hs0_4 := hs0_4.stp hst16
    have hb1 := hb1.stp hst16
    have hox13_1 := hox13_1.ext (Sub.refl _ _) he15
    have hox13_2 := hox13_2.ext (Sub.refl _ _) he15
    have hox13_3 := hox13_3.ext (Sub.refl _ _) he15
    have hE17 := hE13.trans he15
    refine WO.sp rfl rfl rfl rfl (rn_assign rfl rfl) ?_
    refine WO.fin ?_
    have hsb18 : Sb (nb ax13_1 :: (nb ax13_2 :: (nb ax13_3 :: []))) [] := (Sb.drop (Sb.drop (Sb.drop (Sb.refl _))))
    have hs0_2 := hs0_2.stp hsb18.st
    have hs0_3 := hs0_3.stp hsb18.st
    have hs0_4 := hs0_4.stp hsb18.st
    have hb1 := hb1.stp hsb18.st
    refine DN.seq ?_
    refine WC.seq ?_
    refine WC.regS [(0, 1), (1, 1), (2, 1), (3, 1)] rfl ?_
    refine WO.sq trivial rfl rfl rfl rfl (rn_loadBA hb1 Try.isAgg38 Try.sizeOf38 rfl rfl rfl) ?_
    obtain ⟨x16, hx16, h⟩ := Option.bind_eq_some_iff.mp h
    refine WO.call rfl rfl rfl rfl rfl rfl Try.call17 (l_toCircuit_ok (M := []) (hs0_2.toM (Ext.refl _)) (hs0_3.toM (Ext.refl _)) (hs0_4.toM (Ext.refl _)) (le_nil _) hx16) ?_
    rintro _ w19 ⟨ax16_1, cx16_1, ax16_2, cx16_2, ax16_3, cx16_3, rfl, he20, hfx16_1, hfx16_2, hfx16_3, hddx16_1x16_2, hddx16_1x16_3, hddx16_2x16_3, hox16_1, hox16_2, hox16_3⟩
    refine ⟨trivial, ?_⟩
    have hFx16_1 : nb ax16_1 = 0 ∨ w.heap.size < nb ax16_1 := f_newO hE17 hfx16_1
    have hFx16_2 : nb ax16_2 = 0 ∨ w.heap.size < nb ax16_2 := f_newO hE17 hfx16_2
    have hFx16_3 : nb ax16_3 = 0 ∨ w.heap.size < nb ax16_3 := f_newO hE17 hfx16_3
    have hd_x161_x162 := hddx16_1x16_2
    have hd_x161_x163 := hddx16_1x16_3
    have hd_x162_x163 := hddx16_2x16_3
    have hst21 := St.ext (M := []) (Sub.newO hfx16_1 (Sub.newO hfx16_2 (Sub.newO hfx16_3 (Sub.refl _ _)))) he20
    have hs0_2 := hs0_2.stp hst21
    have hs0_3 := hs0_3.stp hst21
    have hs0_4 := hs0_4.stp hst21
    have hb1 := hb1.stp hst21
    have hE22 := hE17.trans he20
    refine WO.alloc rfl rfl rfl rfl rfl Try.zeroValue43 rfl ?_
    intro b5 w23 he24 hbe5 hb5
    refine ⟨trivial, ?_⟩
    have hn5 : w19.heap.size < b5 + 1 := by omega
    have hd_x161_b5 : nb ax16_1 = 0 ∨ nb ax16_1 ≠ (b5 + 1) := d_new hox16_1.nb_le hn5
    have hd_x162_b5 : nb ax16_2 = 0 ∨ nb ax16_2 ≠ (b5 + 1) := d_new hox16_2.nb_le hn5
    have hd_x163_b5 : nb ax16_3 = 0 ∨ nb ax16_3 ≠ (b5 + 1) := d_new hox16_3.nb_le hn5
    have hF5 : (b5 + 1) = 0 ∨ w.heap.size < (b5 + 1) := f_new hE22 hn5
    have hst25 := St.ext (M := (nb ax16_1 :: (nb ax16_2 :: (nb ax16_3 :: [])))) (Sub.new hn5 (Sub.refl _ _)) he24
    have hs0_2 := hs0_2.stp hst25
    have hs0_3 := hs0_3.stp hst25
    have hs0_4 := hs0_4.stp hst25
    have hb1 := hb1.stp hst25
    have hox16_1 := hox16_1.ext (Sub.new hn5 (Sub.refl _ _)) he24
    have hox16_2 := hox16_2.ext (Sub.new hn5 (Sub.refl _ _)) he24
    have hox16_3 := hox16_3.ext (Sub.new hn5 (Sub.refl _ _)) he24
    have hE26 := hE22.trans he24
    refine WO.stB0 (vc := [.int .i64 x16.Inputs, .int .i64 x16.Latches, .slice ax16_1 x16.Next.length cx16_1, .slice ax16_2 x16.Gates.length cx16_2, .slice ax16_3 x16.Outs.length cx16_3]) rfl rfl rfl rfl rfl rfl rfl Try.sizeOf43 rfl (by intro u hu; simp only [List.mem_cons, List.not_mem_nil, or_false] at hu; rcases hu with rfl | rfl | rfl | rfl | rfl <;> rfl) hb5 rfl ?_
    intro w27 ht28 hb5
    refine ⟨trivial, ?_⟩
    have hst29 := Tch.st (M := ((b5 + 1) :: (nb ax16_1 :: (nb ax16_2 :: (nb ax16_3 :: []))))) ht28 (.inr (.head _)) (Sub.refl _ _)
    have hs0_2 := hs0_2.stp hst29
    have hs0_3 := hs0_3.stp hst29
    have hs0_4 := hs0_4.stp hst29
    have hb1 := hb1.stp hst29
    have hox16_1 := hox16_1.tch ht28 (.inr (.head _)) (Sub.refl _ _) hd_x161_b5
    have hox16_2 := hox16_2.tch ht28 (.inr (.head _)) (Sub.refl _ _) hd_x162_b5
    have hox16_3 := hox16_3.tch ht28 (.inr (.head _)) (Sub.refl _ _) hd_x163_b5
    have hE30 := ht28.ext hE26 hF5
    refine WO.fin ?_
    refine DN.seq ?_
    refine WC.seq ?_
    refine WC.regS [(0, 1), (1, 1), (2, 2)] rfl ?_
    refine WO.sq trivial rfl rfl rfl rfl (rn_loadBA (Bf.of hb5) Try.isAgg43 Try.sizeOf43 rfl rfl rfl) ?_
    obtain ⟨x18, hx18, h⟩ := Option.bind_eq_some_iff.mp h
    refine WO.call rfl rfl rfl rfl rfl rfl Try.call21 (i_DepthOf_ok (hox16_1.read.toE (Ext.refl _)) (hox16_2.read.toE (Ext.refl _)) (hox16_3.read.toE (Ext.refl _)) hx18) ?_
    rintro _ w31 ⟨rfl, he32⟩
    refine ⟨trivial, ?_⟩
    have hst33 := St.ext (M := ((b5 + 1) :: (nb ax16_1 :: (nb ax16_2 :: (nb ax16_3 :: []))))) (Sub.refl _ _) he32
    have hs0_2 := hs0_2.stp hst33
    have hs0_3 := hs0_3.stp hst33
    have hs0_4 := hs0_4.stp hst33
    have hb1 := hb1.stp hst33
    have hb5 := hb5.ext he32
    have hox16_1 := hox16_1.ext (Sub.refl _ _) he32
    have hox16_2 := hox16_2.ext (Sub.refl _ _) he32
    have hox16_3 := hox16_3.ext (Sub.refl _ _) he32
    have hE34 := hE30.trans he32
    refine WO.sp rfl rfl rfl rfl (rn_assign rfl rfl) ?_
    refine WO.fin ?_
    refine DN.seq ?_
    refine WC.seq ?_
    refine WC.seq ?_
    refine WC.regS [(0, 2), (1, 2), (2, 2)] rfl ?_
    refine WO.sp rfl rfl rfl rfl (rn_move rfl rfl) ?_
    refine WO.sp rfl rfl rfl rfl (rn_move rfl rfl) ?_
    refine WO.sp rfl rfl rfl rfl (rn_neq rfl rfl rfl) ?_
    refine WO.fin ?_
    refine DN.seq ?_
    revert h
    cases ht35 : (x18 != x14) with
    | true =>
      intro h
      simp only [cond_true, cond_false, Option.bind_some, Option.bind_assoc, lpK_ret, lpK_brk, lpK_nxt, aft_inl, aft_inr] at h
      refine WC.ct rfl ?_
      refine WC.seq ?_
      refine WC.regS [(0, 2)] rfl ?_
      refine WO.sp rfl rfl rfl rfl (rn_assign rfl rfl) ?_
      refine WO.fin ?_
      refine DN.seq ?_
      refine WC.ret ?_
      refine DN.retThen ?_
      refine DN.ret1 Try.results5 rfl ?_
      obtain rfl := Option.some.inj h
      exact ⟨rfl, hE34⟩
    | false =>
      intro h
      simp only [cond_true, cond_false, Option.bind_some, Option.bind_assoc, lpK_ret, lpK_brk, lpK_nxt, aft_inl, aft_inr] at h
      refine WC.cf rfl ?_
      refine WC.skip ?_
      refine DN.seq ?_
      refine WC.seq ?_
      refine WC.seq ?_
      refine WC.regX none [(0, 0), (1, 0), (2, 1), (3, 1), (4, 2)] [] (by kernel_rfl) (by kernel_rfl) fun w36 he37 hh38 => ?_
      have hst39 := St.ext (M := ((b5 + 1) :: (nb ax16_1 :: (nb ax16_2 :: (nb ax16_3 :: []))))) (Sub.refl _ _) he37
      have hs0_2 := hs0_2.stp hst39
      have hs0_3 := hs0_3.stp hst39
      have hs0_4 := hs0_4.stp hst39
      have hb1 := hb1.stp hst39
      have hb5 := hb5.ext he37
      have hox16_1 := hox16_1.ext (Sub.refl _ _) he37
      have hox16_2 := hox16_2.ext (Sub.refl _ _) he37
      have hox16_3 := hox16_3.ext (Sub.refl _ _) he37
      have hE40 := hE34.trans he37
      refine WO.dq rfl rfl rfl rfl (rn_loadBA (Bf.of hb5) Try.isAgg43 Try.sizeOf43 rfl rfl rfl) ?_
      refine WO.dq rfl rfl rfl rfl (rn_loadBA hb1 Try.isAgg38 Try.sizeOf38 rfl rfl rfl) ?_
      obtain ⟨x24, hx24, h⟩ := Option.bind_eq_some_iff.mp h
      refine WO.call rfl rfl rfl rfl rfl rfl Try.call17 (l_toCircuit_ok (M := ((b5 + 1) :: (nb ax16_1 :: (nb ax16_2 :: (nb ax16_3 :: []))))) (hs0_2.toM (Ext.refl _)) (hs0_3.toM (Ext.refl _)) (hs0_4.toM (Ext.refl _)) (le_cons (Nat.succ_le_of_lt hb5.lt) (le_cons hox16_1.nb_le (le_cons hox16_2.nb_le (le_cons hox16_3.nb_le (le_nil _))))) hx24) ?_
      rintro _ w41 ⟨ax24_1, cx24_1, ax24_2, cx24_2, ax24_3, cx24_3, rfl, he42, hfx24_1, hfx24_2, hfx24_3, hddx24_1x24_2, hddx24_1x24_3, hddx24_2x24_3, hox24_1, hox24_2, hox24_3⟩
      have hx43 := he42
      refine ⟨hx43.cw, ?_⟩
      have hFx24_1 : nb ax24_1 = 0 ∨ w.heap.size < nb ax24_1 := f_newO hE40 hfx24_1
      have hd_b5_x241 : (b5 + 1) = 0 ∨ (b5 + 1) ≠ nb ax24_1 := d_newO (Nat.succ_le_of_lt hb5.lt) hfx24_1
      have hd_x161_x241 : nb ax16_1 = 0 ∨ nb ax16_1 ≠ nb ax24_1 := d_newO hox16_1.nb_le hfx24_1
      have hd_x162_x241 : nb ax16_2 = 0 ∨ nb ax16_2 ≠ nb ax24_1 := d_newO hox16_2.nb_le hfx24_1
      have hd_x163_x241 : nb ax16_3 = 0 ∨ nb ax16_3 ≠ nb ax24_1 := d_newO hox16_3.nb_le hfx24_1
      have hFx24_2 : nb ax24_2 = 0 ∨ w.heap.size < nb ax24_2 := f_newO hE40 hfx24_2
      have hd_b5_x242 : (b5 + 1) = 0 ∨ (b5 + 1) ≠ nb ax24_2 := d_newO (Nat.succ_le_of_lt hb5.lt) hfx24_2
      have hd_x161_x242 : nb ax16_1 = 0 ∨ nb ax16_1 ≠ nb ax24_2 := d_newO hox16_1.nb_le hfx24_2
      have hd_x162_x242 : nb ax16_2 = 0 ∨ nb ax16_2 ≠ nb ax24_2 := d_newO hox16_2.nb_le hfx24_2
      have hd_x163_x242 : nb ax16_3 = 0 ∨ nb ax16_3 ≠ nb ax24_2 := d_newO hox16_3.nb_le hfx24_2
      have hFx24_3 : nb ax24_3 = 0 ∨ w.heap.size < nb ax24_3 := f_newO hE40 hfx24_3
      have hd_b5_x243 : (b5 + 1) = 0 ∨ (b5 + 1) ≠ nb ax24_3 := d_newO (Nat.succ_le_of_lt hb5.lt) hfx24_3
      have hd_x161_x243 : nb ax16_1 = 0 ∨ nb ax16_1 ≠ nb ax24_3 := d_newO hox16_1.nb_le hfx24_3
      have hd_x162_x243 : nb ax16_2 = 0 ∨ nb ax16_2 ≠ nb ax24_3 := d_newO hox16_2.nb_le hfx24_3
      have hd_x163_x243 : nb ax16_3 = 0 ∨ nb ax16_3 ≠ nb ax24_3 := d_newO hox16_3.nb_le hfx24_3
      have hd_x241_x242 := hddx24_1x24_2
      have hd_x241_x243 := hddx24_1x24_3
      have hd_x242_x243 := hddx24_2x24_3
      have hst44 := St.ext (M := ((b5 + 1) :: (nb ax16_1 :: (nb ax16_2 :: (nb ax16_3 :: []))))) (Sub.newO hfx24_1 (Sub.newO hfx24_2 (Sub.newO hfx24_3 (Sub.refl _ _)))) he42
      have hz45 := hst44
      have hs0_2 := hs0_2.stp hst44
      have hs0_3 := hs0_3.stp hst44
      have hs0_4 := hs0_4.stp hst44
      have hb1 := hb1.stp hst44
      have hb5 := hb5.ext he42
      have hox16_1 := hox16_1.ext (Sub.newO hfx24_1 (Sub.newO hfx24_2 (Sub.newO hfx24_3 (Sub.refl _ _)))) he42
      have hox16_2 := hox16_2.ext (Sub.newO hfx24_1 (Sub.newO hfx24_2 (Sub.newO hfx24_3 (Sub.refl _ _)))) he42
      have hox16_3 := hox16_3.ext (Sub.newO hfx24_1 (Sub.newO hfx24_2 (Sub.newO hfx24_3 (Sub.refl _ _)))) he42
      have hE46 := hE40.trans he42
      obtain ⟨x25, hx25, h⟩ := Option.bind_eq_some_iff.mp h
      refine WO.call rfl rfl rfl rfl rfl rfl Try.call19 (l_eqCircuit_ok (hox16_1.read.toE (Ext.refl _)) (hox16_2.read.toE (Ext.refl _)) (hox16_3.read.toE (Ext.refl _)) (hox24_1.read.toE (Ext.refl _)) (hox24_2.read.toE (Ext.refl _)) (hox24_3.read.toE (Ext.refl _)) hx25) ?_
      rintro _ w47 ⟨rfl, he48⟩
      have hx49 := hx43.trans he48
      refine ⟨hx49.cw, ?_⟩
      have hst50 := St.ext (M := (nb ax24_1 :: (nb ax24_2 :: (nb ax24_3 :: ((b5 + 1) :: (nb ax16_1 :: (nb ax16_2 :: (nb ax16_3 :: [])))))))) (Sub.refl _ _) he48
      have hz51 := hz45.trans hst50
      have hs0_2 := hs0_2.stp hst50
      have hs0_3 := hs0_3.stp hst50
      have hs0_4 := hs0_4.stp hst50
      have hb1 := hb1.stp hst50
      have hox24_1 := hox24_1.ext (Sub.refl _ _) he48
      have hox24_2 := hox24_2.ext (Sub.refl _ _) he48
      have hox24_3 := hox24_3.ext (Sub.refl _ _) he48
      have hb5 := hb5.ext he48
      have hox16_1 := hox16_1.ext (Sub.refl _ _) he48
      have hox16_2 := hox16_2.ext (Sub.refl _ _) he48
      have hox16_3 := hox16_3.ext (Sub.refl _ _) he48
      have hE52 := hE46.trans he48
      refine WO.sp rfl rfl rfl rfl (rn_not rfl rfl) ?_
      refine WO.nx ?_
      refine WO.fin ?_
      have hsb53 : Sb (nb ax24_1 :: (nb ax24_2 :: (nb ax24_3 :: ((b5 + 1) :: (nb ax16_1 :: (nb ax16_2 :: (nb ax16_3 :: []))))))) [] := (Sb.drop (Sb.drop (Sb.drop (Sb.drop (Sb.drop (Sb.drop (Sb.drop (Sb.refl _))))))))
      have hs0_2 := hs0_2.stp hsb53.st
      have hs0_3 := hs0_3.stp hsb53.st
      have hs0_4 := hs0_4.stp hsb53.st
      have hb1 := hb1.stp hsb53.st
      refine DN.seq ?_
      revert h
      cases ht54 : (!x25) with
      | true =>
        intro h
        simp only [cond_true, cond_false, Option.bind_some, Option.bind_assoc, lpK_ret, lpK_brk, lpK_nxt, aft_inl, aft_inr] at h
        refine WC.ct rfl ?_
        refine WC.seq ?_
        refine WC.regS [(0, 2)] rfl ?_
        refine WO.sp rfl rfl rfl rfl (rn_assign rfl rfl) ?_
        refine WO.fin ?_
        refine DN.seq ?_
        refine WC.ret ?_
        refine DN.retThen ?_
        refine DN.ret1 Try.results5 rfl ?_
        obtain rfl := Option.some.inj h
        exact ⟨rfl, hE52⟩
      | false =>
        intro h
        simp only [cond_true, cond_false, Option.bind_some, Option.bind_assoc, lpK_ret, lpK_brk, lpK_nxt, aft_inl, aft_inr] at h
        refine WC.cf rfl ?_
        refine WC.skip ?_
        refine DN.seq ?_
        refine WC.seq ?_
        refine WC.regS [(0, 2)] rfl ?_
        refine WO.sp rfl rfl rfl rfl (rn_assign rfl rfl) ?_
        refine WO.fin ?_
        refine DN.seq ?_
        refine WC.ret ?_
        refine DN.ret1 Try.results5 rfl ?_
        obtain rfl := Option.some.inj h
        exact ⟨rfl, hE52⟩

end Go.Proofs.Ytpmnpdphailagaa
