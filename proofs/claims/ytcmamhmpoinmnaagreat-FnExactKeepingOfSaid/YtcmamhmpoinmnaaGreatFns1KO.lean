/- The walks, part 1. By program. -/
import Derived.Test.YtcmamhmpoinmnaaGreatFnsMKO
import Derived.Test.YtcmamhmpoinmnaaGreatAlKO
set_option linter.unusedVariables false
set_option linter.unusedSimpArgs false
namespace Go.Proofs.YtcmamhmpoinmnaaGreat
open Go Go.Wk Go.Proofs
set_option maxRecDepth 100000
set_option maxHeartbeats 1000000
theorem s_l1In_ok {w : World} {κ : Col} {p0 : Int} {p1 : Int} {p2 : Int}  {r : Bool} (h : s_l1In p0 p1 p2 = some r) : Ret Tryz.prog 77 [vi p0, vi p1, vi p2] w (fun v w' => ∃ (κ' : Col), v = .bool r ∧ Ent κ w κ' w') := by
 unfold s_l1In at h
 refine Ret.enter F77 R N77 R ?_
 dsimp only [envOf]
 have hE := Ent.refl κ w
 refine Je [2] R (Jb 1 R (Je [2, 2, 2, 2, 2, 2, 2, 2, 2] R (Jn 4 R (Ob h fun p14 h hK1 => Ju1 [(4, 2), (5, 2), (6, 2), (7, 2)] [(8, 2)] (fun L w' => L = [(6, .bool false), (14, .bool p14)] ∧ ∃ κ', Stp [] κ w κ' w') tv ?_ ?_))))
 revert h
 cases ht2 : decide (p1 ≤ p0)
 refine JF fun h => Jn 4 R ?_
 cases h
 exact Jv1 _ tv ⟨R, _, (Jx2 _ _).wk R⟩ (KM R)
 refine JT fun h => Jn 4 R ?_
 cases h
 exact Jv1 _ tv ⟨R, _, (Jx2 _ _).wk R⟩ (KM R)
 rintro _ w3 _ ⟨rfl, K4, S5⟩
 have h := hK1
 refine Jb 1 R (Ju (Ja2 (l := [.tmp 6]) V77 (Jp2 R R) R ?_))
 cases h
 exact ⟨K4, R, (hE.stp S5 R R)⟩
theorem s_l30Numbered_ok {w : World} {κ : Col} {p0 : Int} {p1 : Int}  {r : Machine} (h : s_l30Numbered p0 p1 = some r) : Ret Tryz.prog 78 [vi p0, vi p1] w (fun v w' => ∃ (κ' : Col) (ra0 : Option Addr) (ru0 : Nat) (ra1 : Option Addr) (ru1 : Nat), v = .agg #[.slice ra0 r.Next.length ru0, .slice ra1 r.Out.length ru1] ∧ Ent κ w κ' w' ∧ Oc (Ep.own E6 2) 40 κ' w' 2 ra0 ru0 r.Next ∧ Oc (Ep.own E6 2) 40 κ' w' 3 ra1 ru1 r.Out) := by
 unfold s_l30Numbered at h
 refine Ret.enter F78 R N78 R ?_
 dsimp only [envOf]
 have hE := Ent.refl κ w
 refine Je [1] R (Jg1 (κ := κ) 2 R R R R R X33 R fun b4 w1 K2 S3 f4 => ⟨tv, Jd (Je [2, 1, 1] R (Jf R (rn_build (parts := []) (cells := [.slice none 0 0, .slice none 0 0]) R R (by kernel_rfl)) (Jg1 (κ := K2) 3 R R R R R X33 R fun b5 w5 K6 S7 f8 => ⟨tv, Jj1 (κ := K6) 3 (vc := [.slice none 0 0, .slice none 0 0]) R R R R R R R Z33 R R f8 R fun w9 S10 f11 => ⟨tv, Jd (Jq (Je [2] R (Jb 1 R (Ob h fun _ hr12 h => ?_))))⟩⟩)))⟩)
 have hN12 := rng_ok hr12
 refine Ob h fun q2 hq14 hK13 => ?_
 clear h
 refine Jx1 (fun L w' => ∃ κ', ∃ s3 : (List (List Int)) × (List (List Int)), ∃ ac ad ab aa, L = [(0, vi p0), (1, vi p1), (4, .pointer (some ⟨b4, 0, none⟩)), (5, .pointer (some ⟨b5, 0, none⟩))] ∧ Stp [3, 4, 5, 6, 7, 8, 9] K6 w9 κ' w' ∧ Oc (Ep.own E6 2) 40 κ' w' 4 ac ad s3.1 ∧ Oc (Ep.own E6 2) 40 κ' w' 5 ab aa s3.2 ∧ Bc κ' w' 3 b5 33 [.slice ac s3.1.length ad, .slice ab s3.2.length aa] ∧ q2 = Sum.inr s3) ?_ ?_
 refine Jv (Jy1 (fun k L w' => ∃ κ' v6, ∃ s1 : (List (List Int)) × (List (List Int)), ∃ ah ai ae af, L = [(0, vi p0), (1, vi p1), (4, .pointer (some ⟨b4, 0, none⟩)), (5, .pointer (some ⟨b5, 0, none⟩)), (6, vi v6)] ∧ Stp [3, 4, 5, 6, 7, 8, 9] K6 w9 κ' w' ∧ Oc (Ep.own E6 2) 40 κ' w' 4 ah ai s1.1 ∧ Oc (Ep.own E6 2) 40 κ' w' 5 ae af s1.2 ∧ Bc κ' w' 3 b5 33 [.slice ah s1.1.length ai, .slice ae s1.2.length af] ∧ 0 ≤ v6 ∧ Int.toNat (p0 - v6) = k ∧ cntM s_l30Numbered_b0 k v6 s1 = some q2) ⟨_, _, ⟨K6, 0, ((([] : List (List Int)) : (List (List Int))), (([] : List (List Int)) : (List (List Int)))), none, 0, none, 0, R, (Jx2 _ _).wk R, Ow.nil, Ow.nil, f11, (by decide), (by simp), hq14⟩, (KM R)⟩ ?_)
 rintro k _ w21 ⟨K22, v6, s1, ah, ai, ae, af, rfl, S23, f24, f25, f26, hj12, hJ12, h⟩
 rcases k with _ | k
 have hk27 := h; obtain ⟨o12, h⟩ := ex_eq (Sum.inr (Sum.inl s1) : Machine ⊕ (((List (List Int)) × (List (List Int))) ⊕ ((List (List Int)) × (List (List Int)))))
 have hc12 : decide (v6 < p0) = false := Jo2 (by omega)
 refine Jq (Je [2, 2, 2] R (Jb 3 R (Jw2 R hc12 (Jc1 (Jt (Jt ?_))))))
 cases h
 have h := hk27
 refine Jb1 ?_
 cases h
 exact Jw1 _ ⟨K22, ((s1.1 : (List (List Int))), (s1.2 : (List (List Int)))), ah, ai, ae, af, R, S23.wk R, f24, f25, f26, R⟩ (KM R)
 obtain ⟨o12, h, hk27⟩ := BI h; unfold s_l30Numbered_b0 at h
 have hc12 : decide (v6 < p0) = true := Jn2 (by omega)
 refine Jq (Je [2, 2, 2] R (Jb 3 R (Jv2 R hc12 (Js (Jp (Jq (Jv (Je [2, 1, 1, 1, 1, 2, 1] R (Jf R (Jb2 U33 R Z24 R R) (Jl tv R R R R (Jc2 I24 R R (hvE (f26.ld 0 R R))) (Jn1 (κ := K22) (E := E6) 6 [] (parts := [(0, .const (vi 0)), (1, .const (vi 0))]) (cells := [vi 0, vi 0]) (xs := ([0, 0] : List Int)) R R R R R R Y40 Tryzinfo2 R R R R R R R R R R ⟨[vi 0], [vi 0], Zl K22 w21 [], Zl K22 w21 [], R, Zl.sp (l1 := []) (l2 := []) R, Zl.sr (l1 := []) (l2 := []), R, ⟨[vi 0], [], Zl K22 w21 [], Zl K22 w21 [], R, Zl.sp (l1 := []) (l2 := []) R, Zl.sr (l1 := []) (l2 := []), R, R⟩⟩ fun aq an w28 K29 S30 f31 => ⟨tv, Jn1 (κ := K29) (E := (Ep.own E6 2)) 7 [6] (parts := [(0, .tmp 16)]) (cells := [.slice aq ([0, 0] : List Int).length an]) (xs := ([([0, 0] : List Int)] : List (List Int))) R R R R R R Y24 Tryzinfo40 R R R R R R R R R R ⟨[.slice aq ([0, 0] : List Int).length an], [], Zl K29 w28 [6], Zl K29 w28 [], R, Zl.sp (l1 := [6]) (l2 := []) R, Zl.sr (l1 := [6]) (l2 := []), ⟨_, _, R, f31⟩, R⟩ fun ar aw w32 K33 S34 f35 => ⟨tv, Ob h fun x18 hx18 h => Jm1 (κ := K33) (E := (Ep.own E6 2)) 4 [7] R R R R R R R R R Y24 Tryzinfo40 R R R R (f24.stp (S30.tr S34) R R) f35.src (sy_one R) hx18 R fun ak aj w37 K38 S39 f40 => ⟨tv, Jf R (Jb2 U33 R Z24 R R) (Ji1 (κ := K38) 3 (off := 0) (vc := [.slice ak x18.length aj]) (cs' := [.slice ak x18.length aj, .slice ae s1.2.length af]) R R R R R R R Z24 R R (f26.stp (S30.tr (S34.tr S39)) R R) R R fun w42 S43 f44 => ⟨tv, Jd (Ja [2, 1, 1, 1, 1, 2, 1] R (Jf R (Jb2 U33 R Z24 R R) (Jl tv R R R R (Jc2 I24 R R (hvE (f44.ld 1 R R))) (Jn1 (κ := K38) (E := E6) 8 [] (parts := [(0, .const (vi 0)), (1, .const (vi 0))]) (cells := [vi 0, vi 0]) (xs := ([0, 0] : List Int)) R R R R R R Y40 Tryzinfo2 R R R R R R R R R R ⟨[vi 0], [vi 0], Zl K38 w42 [], Zl K38 w42 [], R, Zl.sp (l1 := []) (l2 := []) R, Zl.sr (l1 := []) (l2 := []), R, ⟨[vi 0], [], Zl K38 w42 [], Zl K38 w42 [], R, Zl.sp (l1 := []) (l2 := []) R, Zl.sr (l1 := []) (l2 := []), R, R⟩⟩ fun ao ap w45 K46 S47 f48 => ⟨tv, Jn1 (κ := K46) (E := (Ep.own E6 2)) 9 [8] (parts := [(0, .tmp 22)]) (cells := [.slice ao ([0, 0] : List Int).length ap]) (xs := ([([0, 0] : List Int)] : List (List Int))) R R R R R R Y24 Tryzinfo40 R R R R R R R R R R ⟨[.slice ao ([0, 0] : List Int).length ap], [], Zl K46 w45 [8], Zl K46 w45 [], R, Zl.sp (l1 := [8]) (l2 := []) R, Zl.sr (l1 := [8]) (l2 := []), ⟨_, _, R, f48⟩, R⟩ fun au av w49 K50 S51 f52 => ⟨tv, Ob h fun x24 hx24 h => ?_⟩⟩))))⟩)⟩⟩⟩)))))))))))
 refine Jm1 (κ := K50) (E := (Ep.own E6 2)) 5 [9] R R R R R R R R R Y24 Tryzinfo40 R R R R (f25.stp (S30.tr (S34.tr (S39.tr (S43.tr (S47.tr S51))))) R R) f52.src (sy_one R) hx24 R fun am al w54 K55 S56 f57 => ⟨tv, Jf R (Jb2 U33 R Z24 R R) (Ji1 (κ := K55) 3 (off := 1) (vc := [.slice am x24.length al]) (cs' := [.slice ak x18.length aj, .slice am x24.length al]) R R R R R R R Z24 R R (f44.stp (S47.tr (S51.tr S56)) R R) R R fun w59 S60 f61 => ⟨tv, Jo (Jz (Jp (Ja [2, 2, 2] R (Jc 3 R ?_))))⟩)⟩
 have hw12 : IntKind.wrap .i64 (v6 + 1) = v6 + 1 := wr1 hj12 (Jm2 hc12) hN12
 rw [hw12]
 have hc12 := Jm2 hc12
 cases h
 exact Jz1 fun a ha => ⟨k, _, Ja3 _, ⟨K55, v6 + 1, ((x18 : (List (List Int))), (x24 : (List (List Int)))), ak, aj, am, al, R, (S23.tr (S30.tr (S34.tr (S39.tr (S43.tr (S47.tr (S51.tr (S56.tr S60)))))))).wk R, (f40.stp (S43.tr (S47.tr (S51.tr (S56.tr S60)))) R R), (f57.stp S60 R R), f61, by omega, by omega, hk27⟩, (ha.mm R)⟩
 rintro _ w15 ⟨K16, s3, ac, ad, ab, aa, rfl, S17, f18, f19, f20, rfl⟩
 have h := hK13
 dsimp only [aft] at h
 refine Jp (Jq (Je [2, 2, 2] R (Jb 3 R (Ob h fun q5 hq66 hK65 => ?_))))
 clear h
 refine Jx1 (fun L w' => ∃ κ', ∃ s6 : Int × Int × (List (List Int)) × (List (List Int)), L = [(4, .pointer (some ⟨b4, 0, none⟩)), (5, .pointer (some ⟨b5, 0, none⟩))] ∧ Stp [4, 5, 6, 7, 8, 9] K16 w15 κ' w' ∧ Oc (Ep.own E6 2) 40 κ' w' 4 ac ad s6.2.2.1 ∧ s3.1.length = s6.2.2.1.length ∧ Oc (Ep.own E6 2) 40 κ' w' 5 ab aa s6.2.2.2 ∧ s3.2.length = s6.2.2.2.length ∧ q5 = Sum.inr s6) ?_ ?_
 refine Jv (Jy1 (fun k L w' => ∃ κ', ∃ s4 : Int × Int × (List (List Int)) × (List (List Int)), L = [(0, vi p0), (1, vi s4.1), (4, .pointer (some ⟨b4, 0, none⟩)), (5, .pointer (some ⟨b5, 0, none⟩)), (7, vi s4.2.1)] ∧ Stp [4, 5, 6, 7, 8, 9] K16 w15 κ' w' ∧ Oc (Ep.own E6 2) 40 κ' w' 4 ac ad s4.2.2.1 ∧ s3.1.length = s4.2.2.1.length ∧ Oc (Ep.own E6 2) 40 κ' w' 5 ab aa s4.2.2.2 ∧ s3.2.length = s4.2.2.2.length ∧ whileM (s_l30Numbered_b2 p0) k s4 = some q5) ⟨_, _, ⟨K16, ((p1 : Int), ((IntKind.i64.wrap (p0 - 1)) : Int), (s3.1 : (List (List Int))), (s3.2 : (List (List Int)))), R, (Jx2 _ _).wk R, f18, R, f19, R, hq66⟩, (KM R)⟩ ?_)
 rintro k _ w74 ⟨K75, s4, rfl, S76, f77, hn78, f79, hn80, h⟩
 rcases k with _ | k
 cases h
 obtain ⟨o64, h, hk81⟩ := BI h; unfold s_l30Numbered_b2 at h
 refine Jq (Je [2, 2] R (Jb 2 R ?_))
 revert h
 cases ht82 : decide (0 ≤ s4.2.1)
 refine JF fun h => Jy R (Jc1 (Jt (Jt ?_)))
 cases h
 have h := hk81
 refine Jb1 ?_
 cases h
 exact Jw1 _ ⟨K75, ((s4.1 : Int), (s4.2.1 : Int), (s4.2.2.1 : (List (List Int))), (s4.2.2.2 : (List (List Int)))), R, S76.wk R, f77, hn78, f79, hn80, R⟩ (KM R)
 refine JT fun h => Jx R (Js (Jp (Jq (Jv (Je [2, 1, 2, 2, 1, 2, 2, 2, 1] R (Jf R (Jb2 U33 R Z24 R R) ?_))))))
 have f83 := f20.stp S76 R R
 refine Jl tv R R R R (Jc2 I24 R R (hvE (f83.ld 1 R R))) (Jn 1 R (Ob h fun x35 hx35 h => Jf R (Jf2 f79.rdc hx35 U24 Z40 R R hn80 R) ?_))
 obtain ⟨ax35, ux35, f84, hl85⟩ := f79.rdc.gSl hx35
 refine Jl tv R R R R (Jc2 I40 R R (hvE hl85)) (Jn 1 R (Jf R (rn_rem R R R (by decide)) (Ob h fun x39 hx39 h => Jf R (Jf2 f84 hx39 U40 Z2 R R R R) ?_)))
 obtain ⟨K86, S87, f88, f89⟩ := f79.borrow hx35 (hl85 _ (Ag.refl _ _ _)) 6 R R
 refine Ob h fun y34 hy34 h => Jk1 (κ := K86) (E := E6) 6 [] R R R R R R R R Z2 R R R R f88 hy34 fun w90 K91 S92 f93 => ⟨tv, ?_⟩
 have hn94 : x35.length = y34.length := (Jt2 hy34).2.2.2.symm
 refine Ob h fun yb34 hyb34 h => ?_
 obtain ⟨K96, S97, f98⟩ := Ow.unborrow (f89.stp S92 R R) f93 hn94 R R hyb34
 have hn99 : s3.2.length = yb34.length := hn80.trans (Jt2 hyb34).2.2.2.symm
 refine Jd (Je [2, 1, 2, 2, 1, 2, 2, 2, 2, 1] R (Jf R (Jb2 U33 R Z24 R R) ?_))
 have f100 := f83.stp (S87.tr (S92.tr S97)) R R
 refine Jl tv R R R R (Jc2 I24 R R (hvE (f100.ld 1 R R))) (Jn 1 R (Ob h fun x43 hx43 h => Jf R (Jf2 f98.rdc hx43 U24 Z40 R R hn99 R) ?_))
 obtain ⟨ax43, ux43, f101, hl102⟩ := f98.rdc.gSl hx43
 refine Jl tv R R R R (Jc2 I40 R R (hvE hl102)) (Jn 1 R (Jf R (rn_quo R R R (by decide)) (Jf R (rn_rem R R R (by decide)) (Ob h fun x48 hx48 h => Jf R (Jf2 f101 hx48 U40 Z2 R R R R) ?_))))
 obtain ⟨K103, S104, f105, f106⟩ := f98.borrow hx43 (hl102 _ (Ag.refl _ _ _)) 7 R R
 refine Ob h fun y35 hy35 h => Jk1 (κ := K103) (E := E6) 7 [] R R R R R R R R Z2 R R R R f105 hy35 fun w107 K108 S109 f110 => ⟨tv, ?_⟩
 have hn111 : x43.length = y35.length := (Jt2 hy35).2.2.2.symm
 refine Ob h fun yb35 hyb35 h => ?_
 obtain ⟨K113, S114, f115⟩ := Ow.unborrow (f106.stp S109 R R) f110 hn111 R R hyb35
 have hn116 : s3.2.length = yb35.length := hn99.trans (Jt2 hyb35).2.2.2.symm
 refine Jd (Je [2, 2, 2] R (Jn 1 R (Jf R (rn_quo R R R (by decide)) (Jb 1 R (Jq (Js1 (κ := K113) [0, 3, 4] (some 9) [(0, 2), (2, 2), (5, 2), (6, 2), (7, 2), (1, 0), (3, 2), (4, 0), (8, 2)] [(9, 1)] (by kernel_rfl) (by kernel_rfl) fun w118 S117 => Jf R (Jb2 U33 R Z24 R R) (Jn 3 R (Ob h fun _z58 hz58 h => Jf R (rn_rem R R R (nz_ok hz58)) ?_))))))))
 have f119 := f100.stp (S104.tr (S109.tr (S114.tr S117))) R R
 refine Jg R (Jc2 I24 R R (hvC (f119.ld 0 R R) R)) (Ob h fun x54 hx54 h => Jf R (Jf2 f77.rdc hx54 U24 Z40 R R hn78 R) ?_)
 have f120 := f77.stp (S87.tr (S92.tr (S97.tr (S104.tr (S109.tr (S114.tr S117)))))) R R
 obtain ⟨ax54, ux54, f121, hl122⟩ := f120.rdc.gSl hx54
 refine Jg R (Jc2 I40 R R (hvC hl122 R)) (Ob h fun x59 hx59 h => Jf R (Jf2 f121 hx59 U40 Z2 R R R R) (Jt1 ?_))
 obtain ⟨K123, S124, f125, f126⟩ := f120.borrow hx54 (hl122 _ (Ag.refl _ _ _)) 8 R R
 refine Ob h fun y36 hy36 h => Jk1 (κ := K123) (E := E6) 8 [] R R R R R R R R Z2 R R R R f125 hy36 fun w127 K128 S129 f130 => ⟨tv, ?_⟩
 have hn131 : x54.length = y36.length := (Jt2 hy36).2.2.2.symm
 refine Ob h fun yb36 hyb36 h => ?_
 obtain ⟨K133, S134, f135⟩ := Ow.unborrow (f126.stp S129 R R) f130 hn131 R R hyb36
 have hn136 : s3.1.length = yb36.length := hn78.trans (Jt2 hyb36).2.2.2.symm
 refine Jd (Jq (Js1 (κ := K133) [0, 3, 4] (some 11) [(0, 2), (2, 2), (5, 2), (6, 2), (7, 2), (8, 2), (9, 2), (1, 0), (3, 2), (4, 0), (10, 2)] [(11, 1)] (by kernel_rfl) (by kernel_rfl) fun w138 S137 => Jf R (Jb2 U33 R Z24 R R) (Jn 3 R (Ob h fun _z67 hz67 h => Jf R (rn_quo R R R (nz_ok hz67)) (Jn 1 R (Ob h fun _z69 hz69 h => Jf R (rn_rem R R R (nz_ok hz69)) (Jg R (Jc2 I24 R R (hvC ((f119.stp (S124.tr (S129.tr (S134.tr S137))) R R).ld 0 R R) R)) (Ob h fun x63 hx63 h => Jf R (Jf2 f135.rdc hx63 U24 Z40 R R hn136 R) ?_))))))))
 have f140 := f135.stp S137 R R
 obtain ⟨ax63, ux63, f141, hl142⟩ := f140.rdc.gSl hx63
 refine Jg R (Jc2 I40 R R (hvC hl142 R)) (Ob h fun x70 hx70 h => Jf R (Jf2 f141 hx70 U40 Z2 R R R R) (Jt1 ?_))
 obtain ⟨K143, S144, f145, f146⟩ := f140.borrow hx63 (hl142 _ (Ag.refl _ _ _)) 9 R R
 refine Ob h fun y37 hy37 h => Jk1 (κ := K143) (E := E6) 9 [] R R R R R R R R Z2 R R R R f145 hy37 fun w147 K148 S149 f150 => ⟨tv, ?_⟩
 have hn151 : x63.length = y37.length := (Jt2 hy37).2.2.2.symm
 refine Ob h fun yb37 hyb37 h => ?_
 obtain ⟨K153, S154, f155⟩ := Ow.unborrow (f146.stp S149 R R) f150 hn151 R R hyb37
 have hn156 : s3.1.length = yb37.length := hn136.trans (Jt2 hyb37).2.2.2.symm
 refine Jd (Ja [2, 2, 2, 2, 2, 2] R (Jn 2 R (Ob h fun _z73 hz73 h => Jf R (rn_quo R R R (nz_ok hz73)) (Jn 1 R (Ob h fun _z75 hz75 h => Jf R (rn_quo R R R (nz_ok hz75)) (Jc 1 R (Jz (Jp (Ja [2, 2, 2] R (Jc 3 R ?_))))))))))
 cases h
 exact Jz1 fun a ha => ⟨k, _, Ja3 _, ⟨K153, (((IntKind.i64.wrap (Int.tdiv (IntKind.i64.wrap (Int.tdiv (IntKind.i64.wrap (Int.tdiv s4.1 4)) p0)) p0)) : Int), ((IntKind.i64.wrap (s4.2.1 - 1)) : Int), (yb37 : (List (List Int))), (yb35 : (List (List Int)))), R, (S76.tr (S87.tr (S92.tr (S97.tr (S104.tr (S109.tr (S114.tr (S117.tr (S124.tr (S129.tr (S134.tr (S137.tr (S144.tr (S149.tr S154)))))))))))))).wk R, f155, hn156, (f115.stp (S117.tr (S124.tr (S129.tr (S134.tr (S137.tr (S144.tr (S149.tr S154))))))) R R), hn116, hk81⟩, (ha.mm R)⟩
 rintro _ w67 ⟨K68, s6, rfl, S69, f70, hn71, f72, hn73, rfl⟩
 have h := hK65
 dsimp only [aft] at h
 refine Jp (Je [1, 1] R (Jl tv R R R R (Jd2 (cs := [.slice ac s3.1.length ad, .slice ab s3.2.length aa]) I33 Z33 R R R (haE (f20.stp S69 R R).cells)) (Jj1 (κ := K68) 2 (vc := [.slice ac s3.1.length ad, .slice ab s3.2.length aa]) R R R R R R R Z33 R R (f4.stp (S7.tr (S10.tr (S17.tr S69))) R R) R fun w160 S161 f162 => ⟨tv, Jd (Ju (Ja2 (l := [.cell 4 33]) V78 (res_cellA R f162 I33 Z33 R R) R ?_))⟩)))
 cases h
 exact ⟨(fun b => ren [(4, 2), (5, 3)] (K68 b)), ac, ad, ab, aa, (by simp only [hn71, hn73]), ((hE.stp (S3.tr (S7.tr (S10.tr (S17.tr (S69.tr S161))))) R R).map (ren [(4, 2), (5, 3)]) R R), ((f70.stp S161 R R).map (ren [(4, 2), (5, 3)]) R R), ((f72.stp S161 R R).map (ren [(4, 2), (5, 3)]) R R)⟩
theorem s_l1Has_ok {w : World} {κ : Col} {a0 u0} {p0 : (List Int)} {p1 : Int} (g0 : Rd (Rp.int .i64) κ w 0 a0 u0 p0) {r : Bool} (h : s_l1Has p0 p1 = some r) : Ret Tryz.prog 117 [.slice a0 p0.length u0, vi p1] w (fun v w' => ∃ (κ' : Col), v = .bool r ∧ Ent κ w κ' w') := by
 unfold s_l1Has at h
 refine Ret.enter F117 R N117 R ?_
 dsimp only [envOf]
 have hE := Ent.refl κ w
 refine Je [2] R (Jb 1 R (Jq (Je [2] R (Jb 1 R ?_))))
 have hN1 : (p0.length : Int) ≤ 9223372036854775807 := g0.len_le
 refine Ob h fun q2 hq3 hK2 => ?_
 clear h
 refine Jx1 (fun L w' => ∃ κ', L = [] ∧ Stp [] κ w κ' w' ∧ q2 = Sum.inr ()) ?_ ?_
 refine Jv (Jy1 (fun k L w' => ∃ κ' v5, L = [(0, .slice a0 p0.length u0), (1, vi p1), (5, vi v5)] ∧ Stp [] κ w κ' w' ∧ 0 ≤ v5 ∧ Int.toNat ((p0.length : Int) - v5) = k ∧ cntM (s_l1Has_b0 p0 p1) k v5 () = some q2) ⟨_, _, ⟨κ, 0, R, (Jx2 _ _).wk R, (by decide), (by simp), hq3⟩, (KM R)⟩ ?_)
 rintro k _ w7 ⟨K8, v5, rfl, S9, hj1, hJ1, h⟩
 rcases k with _ | k
 have hk10 := h; obtain ⟨o1, h⟩ := ex_eq (Sum.inr (Sum.inl ()) : Bool ⊕ ((Unit) ⊕ (Unit)))
 have hc1 : decide (v5 < (p0.length : Int)) = false := Jo2 (by omega)
 refine Jq (Je [2, 2, 2, 2] R (Jn 2 R (Jf R (Je2 U40 R R) (Jb 1 R (Jw2 R hc1 (Jc1 (Jt (Jt ?_))))))))
 cases h
 have h := hk10
 refine Jb1 ?_
 cases h
 exact Jw1 _ ⟨K8, R, S9.wk R, R⟩ KN
 obtain ⟨o1, h, hk10⟩ := BI h; unfold s_l1Has_b0 at h
 have hc1 : decide (v5 < (p0.length : Int)) = true := Jn2 (by omega)
 refine Jq (Je [2, 2, 2, 2] R (Jn 2 R (Jf R (Je2 U40 R R) (Jb 1 R (Jv2 R hc1 (Js (Jp (Jq (Jv (Je [2, 2, 2, 1, 2, 2] R (Jn 2 R (Ob h fun x14 hx14 h => Jf R (Jf2 g0 hx14 U40 Z2 R R R R) (Jl tv R R R R (Jc2 I2 R R (hvE ((g0.stp S9 R R).gInt hx14))) (Jb 2 R ?_))))))))))))))
 revert h
 cases ht12 : (x14 == p1)
 refine JF fun h => Jy R (Js (Jz (Jp (Ja [2, 2, 2] R (Jc 3 R ?_)))))
 have hw1 : IntKind.wrap .i64 (v5 + 1) = v5 + 1 := wr1 hj1 (Jm2 hc1) hN1
 rw [hw1]
 have hc1 := Jm2 hc1
 cases h
 exact Jz1 fun a ha => ⟨k, _, Ja3 _, ⟨K8, v5 + 1, R, S9.wk R, by omega, by omega, hk10⟩, (ha.mm R)⟩
 refine JT fun h => Jx R (Je [2] R (Jb 1 R (Ju (Ja1 (Jw (Jw ?_))))))
 cases h
 obtain rfl := Option.some.inj hk10
 have h := hK2
 dsimp only [aft] at h
 refine Ja1 (Jq2 (Jw (Ja2 (l := [.tmp 4]) V117 (Jp2 R R) R ?_)))
 cases h
 exact ⟨K8, R, (hE.stp S9 R R)⟩
 rintro _ w4 ⟨K5, rfl, S6, rfl⟩
 have h := hK2
 dsimp only [aft] at h
 refine Jp (Je [2] R (Jb 1 R (Ju (Ja2 (l := [.tmp 4]) V117 (Jp2 R R) R ?_))))
 cases h
 exact ⟨K5, R, (hE.stp S6 R R)⟩
theorem s_l30Find_ok {w : World} {κ : Col} {ak al ae ai aa ab ac ad} {p0 : l30Graph} {p1 : Int} {p2 : Int} {b0} (g0_0 : Oc E6 2 κ w 2 ak al p0.of) (g0_1 : Oc E6 2 κ w 3 ae ai p0.by0) (g0_2 : Rd (Rp.sl (Rp.int .i64)) κ w 0 aa ab p0.next) (g0_3 : Rd (Rp.sl (Rp.int .i64)) κ w 0 ac ad p0.letters) (gb0 : Bc κ w 4 b0 158 [.slice ak p0.of.length al, .slice ae p0.by0.length ai, .slice aa p0.next.length ab, .slice ac p0.letters.length ad]) {r : Int × (List Int) × (List Int)} (h : s_l30Find p0 p1 p2 = some r) : Ret Tryz.prog 164 [.pointer (some ⟨b0, 0, none⟩), vi p1, vi p2] w (fun v w' => ∃ (κ' : Col) (ma0 : Option Addr) (mu0 : Nat) (ma1 : Option Addr) (mu1 : Nat), v = vi r.1 ∧ Ent κ w κ' w' ∧ Oc E6 2 κ' w' 2 ma0 mu0 r.2.1 ∧ Oc E6 2 κ' w' 3 ma1 mu1 r.2.2 ∧ Bc κ' w' 4 b0 158 [.slice ma0 r.2.1.length mu0, .slice ma1 r.2.2.length mu1, .slice aa p0.next.length ab, .slice ac p0.letters.length ad]) := by
 unfold s_l30Find at h
 refine Ret.enter F164 R N164 R ?_
 dsimp only [envOf]
 have hE := Ent.refl κ w
 refine Je [2] R (Jb 1 R (Jq (Je [2] R (Jb 1 R ?_))))
 have hN1 : (p0.of.length : Int) ≤ 9223372036854775807 := g0_0.len_le
 refine Ob h fun q2 hq3 hK2 => ?_
 clear h
 refine Jx1 (fun L w' => ∃ κ', L = [(0, .pointer (some ⟨b0, 0, none⟩)), (1, vi p1), (2, vi p2)] ∧ Stp [] κ w κ' w' ∧ q2 = Sum.inr ()) ?_ ?_
 refine Jv (Jy1 (fun k L w' => ∃ κ' v7, L = [(0, .pointer (some ⟨b0, 0, none⟩)), (1, vi p1), (2, vi p2), (7, vi v7)] ∧ Stp [] κ w κ' w' ∧ 0 ≤ v7 ∧ Int.toNat ((p0.of.length : Int) - v7) = k ∧ cntM (s_l30Find_b0 p0 p1 p2) k v7 () = some q2) ⟨_, _, ⟨κ, 0, R, (Jx2 _ _).wk R, (by decide), (by simp), hq3⟩, (KM R)⟩ ?_)
 rintro k _ w7 ⟨K8, v7, rfl, S9, hj1, hJ1, h⟩
 rcases k with _ | k
 have hk10 := h; obtain ⟨o1, h⟩ := ex_eq (Sum.inr (Sum.inl ()) : (Int × (List Int) × (List Int)) ⊕ ((Unit) ⊕ (Unit)))
 have hc1 : decide (v7 < (p0.of.length : Int)) = false := Jo2 (by omega)
 refine Jq (Je [2, 2, 2, 2, 1, 2, 2] R (Jn 2 R (Jf R (rn_nilCheck R R) (Jf R (Jb2 U158 R Z40 R R) (Jl tv R R R R (Jc2 I40 R R (hvE ((gb0.stp S9 R R).ld 0 R R))) (Jf R (Je2 U40 R R) (Jb 1 R (Jw2 R hc1 (Jc1 (Jt (Jt ?_)))))))))))
 cases h
 have h := hk10
 refine Jb1 ?_
 cases h
 exact Jw1 _ ⟨K8, R, S9.wk R, R⟩ (KM R)
 obtain ⟨o1, h, hk10⟩ := BI h; unfold s_l30Find_b0 at h
 have hc1 : decide (v7 < (p0.of.length : Int)) = true := Jn2 (by omega)
 refine Jq (Je [2, 2, 2, 2, 1, 2, 2] R (Jn 2 R (Jf R (rn_nilCheck R R) (Jf R (Jb2 U158 R Z40 R R) ?_))))
 have f12 := gb0.stp S9 R R
 refine Jl tv R R R R (Jc2 I40 R R (hvE (f12.ld 0 R R))) (Jf R (Je2 U40 R R) (Jb 1 R (Jv2 R hc1 (Js (Jp (Jq (Jv (Je [2, 2, 2, 1, 2, 2, 1, 2, 2, 2, 2, 2, 2, 1, 2, 2, 1, 2, 2, 2] R (Jn 1 R (Jf R (rn_nilCheck R R) (Jf R (Jb2 U158 R Z40 R R) (Jl tv R R R R (Jc2 I40 R R (hvE (f12.ld 0 R R))) (Jn 1 R (Ob h fun x22 hx22 h => Jf R (Jf2 g0_0.rdc hx22 U40 Z2 R R R R) ?_))))))))))))))
 have f13 := g0_0.stp S9 R R
 refine Jl tv R R R R (Jc2 I2 R R (hvE (f13.rdc.gInt hx22))) (Jn 3 R (Ob h fun p36 h hK14 => Ju1 [(10, 2), (11, 2), (12, 2), (13, 1), (14, 2), (15, 2), (16, 1), (17, 2), (18, 2), (19, 2)] [] (fun L w' => L = [(0, .pointer (some ⟨b0, 0, none⟩)), (1, vi p1), (2, vi p2), (7, vi v7), (36, .bool p36)] ∧ ∃ κ', Stp [] K8 w7 κ' w') tv ?_ ?_))
 revert h
 cases ht15 : (x22 == p1)
 refine JF fun h => Jn 3 R (Jd1 R R R R (Jn 2 R (Jd1 R R R R (Jn 3 R ?_))))
 cases h
 exact Jv1 _ tv ⟨R, _, (Jx2 _ _).wk R⟩ (KM R)
 refine JT fun h => Jn 1 R (Jf R (rn_nilCheck R R) (Jf R (Jb2 U158 R Z40 R R) (Jl tv R R R R (Jc2 I40 R R (hvE (f12.ld 1 R R))) (Jn 1 R (Ob h fun x32 hx32 h => Jf R (Jf2 g0_1.rdc hx32 U40 Z2 R R R R) (Jl tv R R R R (Jc2 I2 R R (hvE ((g0_1.stp S9 R R).rdc.gInt hx32))) (Jn 3 R ?_)))))))
 cases h
 exact Jv1 _ tv ⟨R, _, (Jx2 _ _).wk R⟩ (KM R)
 rintro _ w17 _ ⟨rfl, K18, S19⟩
 have h := hK14
 refine Jd ?_
 revert h
 cases ht20 : p36
 refine JF fun h => Jy R (Js (Jz (Jp (Ja [2, 2, 2] R (Jc 3 R ?_)))))
 have hw1 : IntKind.wrap .i64 (v7 + 1) = v7 + 1 := wr1 hj1 (Jm2 hc1) hN1
 rw [hw1]
 have hc1 := Jm2 hc1
 cases h
 exact Jz1 fun a ha => ⟨k, _, Ja3 _, ⟨K18, v7 + 1, R, (S9.tr S19).wk R, by omega, by omega, hk10⟩, (ha.mm R)⟩
 refine JT fun h => Jx R (Je [2, 2] R (Jb 2 R (Ju (Ja1 (Jw (Jw ?_))))))
 cases h
 obtain rfl := Option.some.inj hk10
 have h := hK2
 dsimp only [aft] at h
 refine Ja1 (Jq2 (Jw (Ja2 (l := [.tmp 6]) V164 (Jp2 R R) R ?_)))
 cases h
 exact ⟨K18, ak, al, ae, ai, R, (hE.stp (S9.tr S19) R R), (f13.stp S19 R R), (g0_1.stp (S9.tr S19) R R), (f12.stp S19 R R)⟩
 rintro _ w4 ⟨K5, rfl, S6, rfl⟩
 have h := hK2
 dsimp only [aft] at h
 refine Jp (Je [2, 2, 2, 2, 1, 2, 1, 1, 2, 2, 1] R (Jn 2 R (Jf R (rn_nilCheck R R) (Jf R (Jb2 U158 R Z40 R R) ?_))))
 have f25 := gb0.stp S6 R R
 refine Jl tv R R R R (Jc2 I40 R R (hvE (f25.ld 0 R R))) (Jn 1 R (Jn1 (κ := K5) (E := E6) 5 [] (parts := [(0, .tmp 43)]) (cells := [vi p1]) (xs := ([p1] : List Int)) R R R R R R Y40 Tryzinfo2 R R R R R R R R R R ⟨[vi p1], [], Zl K5 w4 [], Zl K5 w4 [], R, Zl.sp (l1 := []) (l2 := []) R, Zl.sr (l1 := []) (l2 := []), R, R⟩ fun ap aq w26 K27 S28 f29 => ⟨tv, Ob h fun x45 hx45 h => Jm1 (κ := K27) (E := E6) 2 [] R R R R R R R R R Y40 Tryzinfo2 R R R R (g0_0.stp (S6.tr S28) R R) (Sl.srcP (pu_int _) f29.rdc) sy_false hx45 R fun ah af w31 K32 S33 f34 => ⟨tv, Jf R (rn_nilCheck R R) (Jf R (Jb2 U158 R Z40 R R) (Ji1 (κ := K32) 4 (off := 0) (vc := [.slice ah x45.length af]) (cs' := [.slice ah x45.length af, .slice ae p0.by0.length ai, .slice aa p0.next.length ab, .slice ac p0.letters.length ad]) R R R R R R R Z40 R R (f25.stp (S28.tr S33) R R) R R fun w36 S37 f38 => ⟨tv, Jd (Je [2, 2, 2, 2, 1, 2, 1, 1, 2, 2, 1] R (Jn 2 R (Jf R (rn_nilCheck R R) (Jf R (Jb2 U158 R Z40 R R) (Jl tv R R R R (Jc2 I40 R R (hvE (f38.ld 1 R R))) (Jn 1 R (Jn1 (κ := K32) (E := E6) 6 [] (parts := [(0, .tmp 53)]) (cells := [vi p2]) (xs := ([p2] : List Int)) R R R R R R Y40 Tryzinfo2 R R R R R R R R R R ⟨[vi p2], [], Zl K32 w36 [], Zl K32 w36 [], R, Zl.sp (l1 := []) (l2 := []) R, Zl.sr (l1 := []) (l2 := []), R, R⟩ fun an ao w39 K40 S41 f42 => ⟨tv, Ob h fun x55 hx55 h => Jm1 (κ := K40) (E := E6) 3 [] R R R R R R R R R Y40 Tryzinfo2 R R R R (g0_1.stp (S6.tr (S28.tr (S33.tr (S37.tr S41)))) R R) (Sl.srcP (pu_int _) f42.rdc) sy_false hx55 R fun aj am w44 K45 S46 f47 => ⟨tv, Jf R (rn_nilCheck R R) (Jf R (Jb2 U158 R Z40 R R) (Ji1 (κ := K45) 4 (off := 1) (vc := [.slice aj x55.length am]) (cs' := [.slice ah x45.length af, .slice aj x55.length am, .slice aa p0.next.length ab, .slice ac p0.letters.length ad]) R R R R R R R Z40 R R (f38.stp (S41.tr S46) R R) R R fun w49 S50 f51 => ⟨tv, Jd (Je [2, 2, 2, 1, 2, 2, 2] R (Jn 1 R (Jf R (rn_nilCheck R R) (Jf R (Jb2 U158 R Z40 R R) (Jl tv R R R R (Jc2 I40 R R (hvE (f51.ld 0 R R))) (Jf R (Je2 U40 R R) (Jb 2 R (Ju (Ja2 (l := [.tmp 6]) V164 (Jp2 R R) R ?_)))))))))⟩))⟩⟩)))))))⟩))⟩⟩))
 cases h
 exact ⟨K45, ah, af, aj, am, R, (hE.stp (S6.tr (S28.tr (S33.tr (S37.tr (S41.tr (S46.tr S50)))))) R R), (f34.stp (S37.tr (S41.tr (S46.tr S50))) R R), (f47.stp S50 R R), f51⟩
theorem s_l30Returns_ok {w : World} {κ : Col} {a0 u0} {p0 : (List (List Int))} {a1 u1} {p1 : (List Int)} {p2 : Int} (g0 : Rd (Rp.sl (Rp.int .i64)) κ w 0 a0 u0 p0) (g1 : Rd (Rp.int .i64) κ w 0 a1 u1 p1) {r : Bool} (h : s_l30Returns p0 p1 p2 = some r) : Ret Tryz.prog 109 [.slice a0 p0.length u0, .slice a1 p1.length u1, vi p2] w (fun v w' => ∃ (κ' : Col), v = .bool r ∧ Ent κ w κ' w') := by
 unfold s_l30Returns at h
 refine Ret.enter F109 R N109 R ?_
 dsimp only [envOf]
 have hE := Ent.refl κ w
 refine Je [2] R (Jb 1 R (Jq (Je [2] R (Jb 1 R (Ob h fun q2 hq3 hK2 => ?_)))))
 clear h
 refine Jx1 (fun L w' => ∃ κ' s3, L = [] ∧ Stp [] κ w κ' w' ∧ q2 = Sum.inr s3) ?_ ?_
 refine Jv (Jy1 (fun k L w' => ∃ κ' s1, L = [(0, .slice a0 p0.length u0), (1, .slice a1 p1.length u1), (2, vi p2), (7, vi s1)] ∧ Stp [] κ w κ' w' ∧ whileM (s_l30Returns_b0 p0 p1 p2) k s1 = some q2) ⟨_, _, ⟨κ, (0 : Int), R, (Jx2 _ _).wk R, hq3⟩, (KM R)⟩ ?_)
 rintro k _ w7 ⟨K8, s1, rfl, S9, h⟩
 rcases k with _ | k
 cases h
 obtain ⟨o1, h, hk10⟩ := BI h; unfold s_l30Returns_b0 at h
 refine Jq (Je [2, 2, 2, 2, 1, 2, 2] R (Jn 3 R (Ob h fun x11 hx11 h => Jf R (Jf2 g0 hx11 U24 Z40 R R R R) ?_)))
 have f11 := g0.stp S9 R R
 obtain ⟨ax11, ux11, f12, hl13⟩ := f11.gSl hx11
 refine Jl tv R R R R (Jc2 I40 R R (hvE hl13)) (Jf R (Je2 U40 R R) (Jb 1 R ?_))
 revert h
 cases ht14 : decide (s1 < (x11.length : Int))
 refine JF fun h => Jy R (Jc1 (Jt (Jt ?_)))
 cases h
 have h := hk10
 refine Jb1 ?_
 cases h
 exact Jw1 _ ⟨K8, (s1 : Int), R, S9.wk R, R⟩ KN
 refine JT fun h => Jx R (Js (Jp (Jq (Jv (Je [2, 2, 2, 2, 1, 2, 2, 1, 2, 1, 2] R (Jn 3 R (Ob h fun x20 hx20 h => Jf R (Jf2 f11 hx20 U24 Z40 R R R R) ?_)))))))
 obtain ⟨ax20, ux20, f15, hl16⟩ := f11.gSl hx20
 refine Jl tv R R R R (Jc2 I40 R R (hvE hl16)) (Jn 1 R (Ob h fun x23 hx23 h => Jf R (Jf2 f15 hx23 U40 Z2 R R R R) (Jl tv R R R R (Jc2 I2 R R (hvE (f15.gInt hx23))) (Ob h fun x25 hx25 h => Jf R (Jf2 g1 hx25 U40 Z2 R R R R) (Jl tv R R R R (Jc2 I2 R R (hvE ((g1.stp S9 R R).gInt hx25))) (Jb 1 R ?_))))))
 revert h
 cases ht18 : decide (0 ≤ x25)
 refine JF fun h => Jy R (Js (Jz (Jp (Ja [2, 2, 2] R (Jc 3 R ?_)))))
 cases h
 exact Jz1 fun a ha => ⟨k, _, Ja3 _, ⟨K8, ((IntKind.i64.wrap (s1 + 1)) : Int), R, S9.wk R, hk10⟩, (ha.mm R)⟩
 refine JT fun h => Jx R (Je [2] R (Jb 1 R (Ju (Ja1 (Jw (Jw ?_))))))
 cases h
 obtain rfl := Option.some.inj hk10
 have h := hK2
 dsimp only [aft] at h
 refine Ja1 (Jq2 (Jw (Ja2 (l := [.tmp 6]) V109 (Jp2 R R) R ?_)))
 cases h
 exact ⟨K8, R, (hE.stp S9 R R)⟩
 rintro _ w4 ⟨K5, s3, rfl, S6, rfl⟩
 have h := hK2
 dsimp only [aft] at h
 refine Jp (Je [2] R (Jb 1 R (Ju (Ja2 (l := [.tmp 6]) V109 (Jp2 R R) R ?_))))
 cases h
 exact ⟨K5, R, (hE.stp S6 R R)⟩
theorem i_isSet_ok {w : World} {κ : Col} {a0 u0} {p0 : (List Int)} {p1 : Int} (g0 : Rd (Rp.int .i64) κ w 0 a0 u0 p0) {r : Bool} (h : i_isSet p0 p1 = some r) : Ret Tryz.prog 160 [.slice a0 p0.length u0, vi p1] w (fun v w' => ∃ (κ' : Col), v = .bool r ∧ Ent κ w κ' w') := by
 unfold i_isSet at h
 refine Ret.enter F160 R N160 R ?_
 dsimp only [envOf]
 have hE := Ent.refl κ w
 refine Je [2] R (Jb 1 R (Jq (Je [2, 2, 2] R (Jn 1 R (Jf R (Je2 U40 R R) (Jb 1 R ?_))))))
 have hN1 : (p0.length : Int) ≤ 9223372036854775807 := g0.len_le
 refine Ob h fun q2 hq3 hK2 => ?_
 clear h
 refine Jx1 (fun L w' => ∃ κ', L = [] ∧ Stp [] κ w κ' w' ∧ q2 = Sum.inr ()) ?_ ?_
 refine Jv (Jy1 (fun k L w' => ∃ κ' v9, L = [(0, .slice a0 p0.length u0), (1, vi p1), (7, .slice a0 p0.length u0), (8, vi (p0.length : Int)), (9, vi v9)] ∧ Stp [] κ w κ' w' ∧ 0 ≤ v9 ∧ Int.toNat ((p0.length : Int) - v9) = k ∧ cntM (i_isSet_b0 p0 p1) k v9 () = some q2) ⟨_, _, ⟨κ, 0, R, (Jx2 _ _).wk R, (by decide), (by simp), hq3⟩, (KM R)⟩ ?_)
 rintro k _ w7 ⟨K8, v9, rfl, S9, hj1, hJ1, h⟩
 rcases k with _ | k
 have hk10 := h; obtain ⟨o1, h⟩ := ex_eq (Sum.inr (Sum.inl ()) : Bool ⊕ ((Unit) ⊕ (Unit)))
 have hc1 : decide (v9 < (p0.length : Int)) = false := Jo2 (by omega)
 refine Je [2] R (Jb 1 R (Jq (Jw2 R hc1 (Jc1 (Jt (Jt ?_))))))
 cases h
 have h := hk10
 refine Jb1 ?_
 cases h
 exact Jw1 _ ⟨K8, R, S9.wk R, R⟩ KN
 obtain ⟨o1, h, hk10⟩ := BI h; unfold i_isSet_b0 at h
 have hc1 : decide (v9 < (p0.length : Int)) = true := Jn2 (by omega)
 refine Je [2] R (Jb 1 R (Jq (Jv2 R hc1 (Js (Jp (Jq (Jv (Je [2, 2, 1, 2, 2] R (Jn 1 R (Ob h fun x12 hx12 h => Jf R (Jf2 g0 hx12 U40 Z2 R R R R) ?_))))))))))
 have f11 := g0.stp S9 R R
 refine Jl tv R R R R (Jc2 I2 R R (hvE (f11.gInt hx12))) (Jb 2 R (Je [2, 2, 2, 2, 2, 2, 2, 2, 2, 2, 2, 2, 2, 2, 2, 2, 1, 2, 2, 2] R (Jn 3 R (Ob h fun p20 h hK12 => Ju1 [(3, 2), (4, 2), (5, 2), (6, 2)] [(7, 2), (8, 2), (9, 2), (10, 2), (11, 2), (12, 2), (13, 2), (14, 2), (15, 2), (16, 1), (17, 2), (18, 2), (19, 2)] (fun L w' => L = [(0, .slice a0 p0.length u0), (1, vi p1), (5, vi v9), (6, vi x12), (7, .slice a0 p0.length u0), (8, vi (p0.length : Int)), (9, vi v9), (20, .bool p20)] ∧ ∃ κ', Stp [] K8 w7 κ' w') tv ?_ ?_))))
 revert h
 cases ht13 : decide (x12 < 0)
 refine JF fun h => Jn 4 R ?_
 cases h
 exact Jv1 _ tv ⟨R, _, (Jx2 _ _).wk R⟩ (KM R)
 refine JT fun h => Jn 4 R ?_
 cases h
 exact Jv1 _ tv ⟨R, _, (Jx2 _ _).wk R⟩ (KM R)
 rintro _ w14 _ ⟨rfl, K15, S16⟩
 have h := hK12
 refine Jn 1 R (Ob h fun p33 h hK17 => Ju1 [(8, 2), (9, 2), (10, 2), (11, 2), (12, 2), (13, 2), (14, 2), (15, 2), (16, 1), (17, 2), (18, 2), (19, 2)] [] (fun L w' => L = [(0, .slice a0 p0.length u0), (1, vi p1), (7, .slice a0 p0.length u0), (8, vi (p0.length : Int)), (9, vi v9), (33, .bool p33)] ∧ ∃ κ', Stp [] K15 w14 κ' w') tv ?_ ?_)
 revert h
 cases ht18 : p20
 refine JF fun h => Jn 3 R (Ob h fun p32 h hK19 => Ju1 [(11, 2), (12, 2), (13, 2), (14, 2), (15, 2), (16, 1), (17, 2), (18, 2)] [(19, 2)] (fun L w' => L = [(0, .slice a0 p0.length u0), (1, vi p1), (7, .slice a0 p0.length u0), (8, vi (p0.length : Int)), (9, vi v9), (21, .bool false), (22, vi v9), (23, .bool (decide (0 < v9))), (24, .bool (decide (0 < v9))), (32, .bool p32)] ∧ ∃ κ', Stp [] K15 w14 κ' w') tv ?_ ?_)
 revert h
 cases ht20 : decide (0 < v9)
 refine JF fun h => Jn 5 R (Jd1 R R R R (Jn 2 R ?_))
 cases h
 exact Jv1 _ tv ⟨R, _, (Jx2 _ _).wk R⟩ (KM R)
 refine JT fun h => Jn 4 R (Ob h fun x29 hx29 h => Jf R (Jf2 f11 hx29 U40 Z2 R R R R) (Jl tv R R R R (Jc2 I2 R R (hvE ((f11.stp S16 R R).gInt hx29))) (Jn 2 R ?_)))
 cases h
 exact Jv1 _ tv ⟨R, _, (Jx2 _ _).wk R⟩ (KM R)
 rintro _ w22 _ ⟨rfl, K23, S24⟩
 have h := hK19
 refine Jn 1 R ?_
 cases h
 exact Jv1 _ tv ⟨R, _, S24.wk R⟩ (KM R)
 refine JT fun h => Jn 8 R (Jd1 R R R R (Jn 3 R ?_))
 cases h
 exact Jv1 _ tv ⟨R, _, (Jx2 _ _).wk R⟩ (KM R)
 rintro _ w25 _ ⟨rfl, K26, S27⟩
 have h := hK17
 refine Jd ?_
 revert h
 cases ht28 : p33
 refine JF fun h => Jy R (Js (Jz (Jp (Ja [2, 2] R (Jc 2 R ?_)))))
 have hw1 : IntKind.wrap .i64 (v9 + 1) = v9 + 1 := wr1 hj1 (Jm2 hc1) hN1
 rw [hw1]
 have hc1 := Jm2 hc1
 cases h
 exact Jz1 fun a ha => ⟨k, _, Ja3 _, ⟨K26, v9 + 1, R, (S9.tr (S16.tr S27)).wk R, by omega, by omega, hk10⟩, (ha.mm R)⟩
 refine JT fun h => Jx R (Je [2] R (Jb 1 R (Ju (Ja1 (Jw (Jw ?_))))))
 cases h
 obtain rfl := Option.some.inj hk10
 have h := hK2
 dsimp only [aft] at h
 refine Ja1 (Jq2 (Jw (Ja2 (l := [.tmp 4]) V160 (Jp2 R R) R ?_)))
 cases h
 exact ⟨K26, R, (hE.stp (S9.tr (S16.tr S27)) R R)⟩
 rintro _ w4 ⟨K5, rfl, S6, rfl⟩
 have h := hK2
 dsimp only [aft] at h
 refine Jp (Je [2] R (Jb 1 R (Ju (Ja2 (l := [.tmp 4]) V160 (Jp2 R R) R ?_))))
 cases h
 exact ⟨K5, R, (hE.stp S6 R R)⟩
theorem i_hasSecond_ok {w : World} {κ : Col} {p0 : Int}  {r : Bool} (h : i_hasSecond p0 = some r) : Ret Tryz.prog 161 [vi p0] w (fun v w' => ∃ (κ' : Col), v = .bool r ∧ Ent κ w κ' w') := by
 unfold i_hasSecond at h
 refine Ret.enter F161 R N161 R ?_
 dsimp only [envOf]
 have hE := Ent.refl κ w
 refine Je [2] R (Jb 1 R (Je [2, 2, 2, 2, 2, 2, 2, 2, 2, 2, 2] R (Jn 3 R (Ob h fun p8 h hK1 => Ju1 [(3, 2), (4, 2), (5, 2)] [(6, 2), (7, 2), (8, 2), (9, 2), (10, 2)] (fun L w' => L = [(0, vi p0), (2, .bool false), (8, .bool p8)] ∧ ∃ κ', Stp [] κ w κ' w') tv ?_ ?_))))
 revert h
 cases ht2 : (p0 == 2)
 refine JF fun h => Jn 3 R ?_
 cases h
 exact Jv1 _ tv ⟨R, _, (Jx2 _ _).wk R⟩ (KM R)
 refine JT fun h => Jn 3 R ?_
 cases h
 exact Jv1 _ tv ⟨R, _, (Jx2 _ _).wk R⟩ (KM R)
 rintro _ w3 _ ⟨rfl, K4, S5⟩
 have h := hK1
 refine Jn 1 R (Ob h fun p12 h hK6 => Ju1 [(7, 2), (8, 2), (9, 2)] [(10, 2)] (fun L w' => L = [(2, .bool false), (12, .bool p12)] ∧ ∃ κ', Stp [] K4 w3 κ' w') tv ?_ ?_)
 revert h
 cases ht7 : p8
 refine JF fun h => Jn 3 R ?_
 cases h
 exact Jv1 _ tv ⟨R, _, (Jx2 _ _).wk R⟩ (KM R)
 refine JT fun h => Jn 3 R ?_
 cases h
 exact Jv1 _ tv ⟨R, _, (Jx2 _ _).wk R⟩ (KM R)
 rintro _ w8 _ ⟨rfl, K9, S10⟩
 have h := hK6
 refine Jb 1 R (Ju (Ja2 (l := [.tmp 2]) V161 (Jp2 R R) R ?_))
 cases h
 exact ⟨K9, R, (hE.stp (S5.tr S10) R R)⟩
theorem i_loopsIn_2_ok {w : World} {κ : Col} {p0 : Int} {a1 u1} {c0 : (List Int)} {b1} (g1 : Oc E6 2 κ w 2 a1 u1 c0) (gb1 : Bc κ w 3 b1 40 [.slice a1 c0.length u1]) {r : (List Int)} (h : i_loopsIn_2 p0 c0 = some r) : Ret Tryz.prog 153 [vi p0, .pointer (some ⟨b1, 0, none⟩)] w (fun v w' => ∃ (κ' : Col) (ma0 : Option Addr) (mu0 : Nat), v = .tuple #[] ∧ Ent κ w κ' w' ∧ Oc E6 2 κ' w' 2 ma0 mu0 r ∧ Bc κ' w' 3 b1 40 [.slice ma0 r.length mu0]) := by
 unfold i_loopsIn_2 at h
 refine Ret.enter F153 R N153 R ?_
 dsimp only [envOf]
 have hE := Ent.refl κ w
 refine Ja [1, 2, 1, 1, 1] R (Jl tv R R R R (Jc2 I40 R R (hvE (gb1.ld 0 R R))) (Jn 1 R (Jn1 (κ := κ) (E := E6) 4 [] (parts := [(0, .tmp 4)]) (cells := [vi p0]) (xs := ([p0] : List Int)) R R R R R R Y40 Tryzinfo2 R R R R R R R R R R ⟨[vi p0], [], Zl κ w [], Zl κ w [], R, Zl.sp (l1 := []) (l2 := []) R, Zl.sr (l1 := []) (l2 := []), R, R⟩ fun a5 u5 w1 K2 S3 f4 => ⟨tv, Ob h fun x6 hx6 h => Jm1 (κ := K2) (E := E6) 2 [] R R R R R R R R R Y40 Tryzinfo2 R R R R (g1.stp S3 R R) (Sl.srcP (pu_int _) f4.rdc) sy_false hx6 R fun a6 u6 w6 K7 S8 f9 => ⟨tv, Jj1 (κ := K7) 3 (vc := [.slice a6 x6.length u6]) R R R R R R R Z40 R R (gb1.stp (S3.tr S8) R R) R fun w11 S12 f13 => ⟨tv, Jo (DN.end0 V153 ?_)⟩⟩⟩)))
 cases h
 exact ⟨K7, a6, u6, R, (hE.stp (S3.tr (S8.tr S12)) R R), (f9.stp S12 R R), f13⟩
theorem slices_Sort_I_int64_ok {w : World} {κ : Col} {a0 u0} {p0 : (List Int)} (g0 : Oc E6 2 κ w 2 a0 u0 p0) {r : (List Int)} (h : slices_Sort_I_int64 p0 = some r) : Ret Tryz.prog 138 [.slice a0 p0.length u0] w (fun v w' => ∃ (κ' : Col), v = .tuple #[] ∧ Ent κ w κ' w' ∧ Oc E6 2 κ' w' 2 a0 u0 r ∧ p0.length = r.length) := by
  unfold slices_Sort_I_int64 at h
  split at h
  · rename_i hh
    cases h
    exact sort_ok (fun blk off cap zs w hH hb hz => Tryz.slices_Sort_int blk off cap zs w hH hb hz) g0 hh.1 hh.2
  · split at h
    · rename_i hh
      cases h
      exact sort_nil Tryz.slices_Sort_int_none g0 hh
    · cases h
theorem slices_SortFunc_I_I_ok {w : World} {κ : Col} {a0 u0} {p0 : (List (List Int))} (g0 : Oc (Ep.fz (Rp.sl (Rp.int .i64))) 40 κ w 2 a0 u0 p0) {r : (List (List Int))} (h : slices_SortFunc_I_I p0 = some r) : Ret Tryz.prog 155 [.slice a0 p0.length u0, .func (.func 156) #[] #[]] w (fun v w' => ∃ (κ' : Col), v = .tuple #[] ∧ Ent κ w κ' w' ∧ Oc (Ep.fz (Rp.sl (Rp.int .i64))) 40 κ' w' 2 a0 u0 r ∧ p0.length = r.length) := by
  unfold slices_SortFunc_I_I at h
  split at h
  · rename_i hh
    cases h
    exact sortf_ok Tryz.slices_Compare (Tryz.slices_SortFunc_none (α := Nat)) (@fun α _ enc h1 cf hO blk off cap d w hc hh hb hs => Tryz.slices_SortFunc (α := α) enc h1 cf hO 156 #[] blk off cap d w Tryz.call156 hc hh hb hs) g0 hh.1 (fun l hl => by have := List.all_eq_true.1 hh.2 l hl; cases l <;> simp_all)
  · cases h
theorem l_eqInt64S_ok {w : World} {κ : Col} {a0 u0} {p0 : (List Int)} {a1 u1} {p1 : (List Int)} (g0 : Rd (Rp.int .i64) κ w 0 a0 u0 p0) (g1 : Rd (Rp.int .i64) κ w 0 a1 u1 p1) {r : Bool} (h : l_eqInt64S p0 p1 = some r) : Ret Tryz.prog 20 [.slice a0 p0.length u0, .slice a1 p1.length u1] w (fun v w' => ∃ (κ' : Col), v = .bool r ∧ Ent κ w κ' w') := by
 unfold l_eqInt64S at h
 refine Ret.enter F20 R N20 R ?_
 dsimp only [envOf]
 have hE := Ent.refl κ w
 refine Je [2] R (Jb 1 R (Jq (Je [2, 2, 2, 2, 2] R (Jn 1 R (Jf R (Je2 U40 R R) (Jn 1 R (Jf R (Je2 U40 R R) (Jb 1 R ?_))))))))
 revert h
 cases ht1 : ((p0.length : Int) != (p1.length : Int))
 refine JF fun h => Jy R (Js (Jp (Jq (Je [2] R (Jb 1 R ?_)))))
 have hN2 : (p0.length : Int) ≤ 9223372036854775807 := g0.len_le
 refine Ob h fun q2 hq4 hK3 => ?_
 clear h
 refine Jx1 (fun L w' => ∃ κ', L = [] ∧ Stp [] κ w κ' w' ∧ q2 = Sum.inr ()) ?_ ?_
 refine Jv (Jy1 (fun k L w' => ∃ κ' v5, L = [(0, .slice a0 p0.length u0), (1, .slice a1 p1.length u1), (5, vi v5)] ∧ Stp [] κ w κ' w' ∧ 0 ≤ v5 ∧ Int.toNat ((p0.length : Int) - v5) = k ∧ cntM (l_eqInt64S_b0 p0 p1) k v5 () = some q2) ⟨_, _, ⟨κ, 0, R, (Jx2 _ _).wk R, (by decide), (by simp), hq4⟩, (KM R)⟩ ?_)
 rintro k _ w8 ⟨K9, v5, rfl, S10, hj2, hJ2, h⟩
 rcases k with _ | k
 have hk11 := h; obtain ⟨o2, h⟩ := ex_eq (Sum.inr (Sum.inl ()) : Bool ⊕ ((Unit) ⊕ (Unit)))
 have hc2 : decide (v5 < (p0.length : Int)) = false := Jo2 (by omega)
 refine Jq (Je [2, 2, 2, 2] R (Jn 2 R (Jf R (Je2 U40 R R) (Jb 1 R (Jw2 R hc2 (Jc1 (Jt (Jt ?_))))))))
 cases h
 have h := hk11
 refine Jb1 ?_
 cases h
 exact Jw1 _ ⟨K9, R, S10.wk R, R⟩ KN
 obtain ⟨o2, h, hk11⟩ := BI h; unfold l_eqInt64S_b0 at h
 have hc2 : decide (v5 < (p0.length : Int)) = true := Jn2 (by omega)
 refine Jq (Je [2, 2, 2, 2] R (Jn 2 R (Jf R (Je2 U40 R R) (Jb 1 R (Jv2 R hc2 (Js (Jp (Jq (Jv (Jq (Js1 (κ := K9) [0] none [(0, 2), (1, 2), (2, 2), (4, 2), (5, 2), (6, 2), (3, 0), (7, 0), (8, 2)] [] (by kernel_rfl) (by kernel_rfl) fun w13 S12 => Jn 2 R (Ob h fun x19 hx19 h => Jf R (Jf2 g0 hx19 U40 Z2 R R R R) (Jn 2 R (Ob h fun x23 hx23 h => Jf R (Jf2 g1 hx23 U40 Z2 R R R R) (Jg R (Jc2 I2 R R (hvC ((g0.stp (S10.tr S12) R R).gInt hx19) R)) (Jg R (Jc2 I2 R R (hvC ((g1.stp (S10.tr S12) R R).gInt hx23) R)) (Jn 1 R (Jt1 (Jd ?_)))))))))))))))))))
 revert h
 cases ht16 : (x19 != x23)
 refine JF fun h => Jy R (Js (Jz (Jp (Ja [2, 2, 2] R (Jc 3 R ?_)))))
 have hw2 : IntKind.wrap .i64 (v5 + 1) = v5 + 1 := wr1 hj2 (Jm2 hc2) hN2
 rw [hw2]
 have hc2 := Jm2 hc2
 cases h
 exact Jz1 fun a ha => ⟨k, _, Ja3 _, ⟨K9, v5 + 1, R, (S10.tr S12).wk R, by omega, by omega, hk11⟩, (ha.mm R)⟩
 refine JT fun h => Jx R (Je [2] R (Jb 1 R (Ju (Ja1 (Jw (Jw ?_))))))
 cases h
 obtain rfl := Option.some.inj hk11
 have h := hK3
 dsimp only [aft] at h
 refine Ja1 (Jq2 (Jw (Ja2 (l := [.tmp 4]) V20 (Jp2 R R) R ?_)))
 cases h
 exact ⟨K9, R, (hE.stp (S10.tr S12) R R)⟩
 rintro _ w5 ⟨K6, rfl, S7, rfl⟩
 have h := hK3
 dsimp only [aft] at h
 refine Jp (Je [2] R (Jb 1 R (Ju (Ja2 (l := [.tmp 4]) V20 (Jp2 R R) R ?_))))
 cases h
 exact ⟨K6, R, (hE.stp S7 R R)⟩
 refine JT fun h => Jx R (Je [2] R (Jb 1 R (Ju (Jw (Ja2 (l := [.tmp 4]) V20 (Jp2 R R) R ?_)))))
 cases h
 exact ⟨κ, R, hE⟩
end Go.Proofs.YtcmamhmpoinmnaaGreat
