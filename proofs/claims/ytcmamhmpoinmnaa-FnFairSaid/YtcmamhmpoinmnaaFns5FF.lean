/- The walks, part 5. By program. -/
import Derived.Test.YtcmamhmpoinmnaaFns4FF
set_option linter.unusedVariables false
set_option linter.unusedSimpArgs false
namespace Go.Proofs.Ytcmamhmpoinmnaa
open Go Go.Wk Go.Proofs
set_option maxRecDepth 100000
set_option maxHeartbeats 1000000
theorem l_FnFair_ok {w : World} {κ : Col} {a0 u0} {p0 : (List Int)} (g0 : Rd (Rp.int .u8) κ w 0 a0 u0 p0) {r : Bool} (h : l_FnFair p0 = some r) : Ret Try.prog 4 [.slice a0 p0.length u0] w (fun v w' => ∃ (κ' : Col), v = .bool r ∧ Ent κ w κ' w') := by
 unfold l_FnFair at h
 refine Ret.enter F4 R N4 R ?_
 dsimp only [envOf]
 have hE := Ent.refl κ w
 refine Je [2] R (Jb 1 R (Jq (Je [2, 1] R (Jn 1 R (Ob h fun x11 hx11 h => Jh R R R C16 (l_big_ok (κ := fun b => mp [] 0 (κ b)) (Jl2 g0 (mp [] 0) R R) hx11) ?_)))))
 rintro _ w1 ⟨k2, rfl, e3⟩
 obtain ⟨K4, S5, m6⟩ := Ji e3 2 R
 refine ⟨tv, Jd ?_⟩
 revert h
 cases ht8 : x11
 refine JF fun h => Jy R (Js (Jp (Je [2, 1, 2, 2, 2, 2, 2, 2, 2] R (Jn 1 R (Ob h fun x14 hx14 h => Jh R R R C17 (s_DrawFairIn_ok (κ := fun b => mp [] 0 (K4 b)) (Jl2 (g0.stp S5 R R) (mp [] 0) R R) hx14) ?_)))))
 rintro _ w11 ⟨k12, ac, ad, an, ao, af, ae, rfl, e13, f14, f15, f16⟩
 obtain ⟨K17, S18, m19⟩ := Ji e13 4 R
 refine ⟨tv, ?_⟩
 have f21 := f14.mx (no_own (no_int _) _) m19 R (R : 4 + 2 = 6)
 have f22 := f15.mx Pair.no42 m19 R (R : 4 + 3 = 7)
 have f23 := f16.mx (no_int _) m19 R (R : 4 + 4 = 8)
 refine Jb 7 R (Je [2, 2, 2, 1, 2] R (Jn 3 R (Ob h fun x21 hx21 h => Jh R R R C12 (i_FairIn_ok (κ := fun b => mp [] 0 (K17 b)) (Jl2 f21.rdc (mp [] 0) R R) (Jl2 f22.rdc (mp [] 0) R R) (Jl2 f23.rdc (mp [] 0) R R) hx21) ?_)))
 rintro _ w24 ⟨k25, rfl, e26⟩
 obtain ⟨K27, S28, m29⟩ := Ji e26 9 R
 refine ⟨tv, Jb 1 R (Jq (Je [2, 2, 2, 2, 1, 2] R (Jn 4 R (Ob h fun x26 hx26 h => ?_))))⟩
 have f31 := f21.stp S28 R R
 have f32 := f22.stp S28 R R
 have f33 := f23.stp S28 R R
 refine Jh R R R C8 (s_FairIn_ok (κ := fun b => mp [] 0 (K27 b)) (Jl2 f31.rdc (mp [] 0) R R) (Jl2 f32.rdc (mp [] 0) R R) (Jl2 f33.rdc (mp [] 0) R R) hx26) ?_
 rintro _ w34 ⟨k35, rfl, e36⟩
 obtain ⟨K37, S38, m39⟩ := Ji e36 11 R
 refine ⟨tv, Jf R (rn_neqB R R U4 R) (Jd ?_)⟩
 revert h
 cases ht41 : (x21 != x26)
 refine JF fun h => Jy R (Js (Jp (Je [2, 2, 2] R (Jn 1 R (Jf R (Je2 U22 R R) (Jb 1 R (Je [2, 1, 2] R (Jn 1 R (Ob h fun x31 hx31 h => Jh R R R C18 (s_AllOf_ok (κ := fun b => mp [] 0 (K37 b)) hx31) ?_)))))))))
 rintro _ w43 ⟨k44, aq, ap, rfl, e45, f46⟩
 obtain ⟨K47, S48, m49⟩ := Ji e45 13 R
 refine ⟨tv, Jb 1 R (Jq (Je [2, 2, 2, 2, 2, 1, 2, 2] R (Jn 2 R (Ob h fun p39 h hK52 => Ju1 [(2, 2), (3, 2), (4, 2), (5, 1), (6, 2), (7, 2)] [] (fun L w' => L = [(3, .slice ac x14.1.length ad), (5, .slice af x14.2.2.length ae), (6, .bool x21), (39, .bool p39)] ∧ ∃ κ', Stp [] K47 w43 κ' w') tv ?_ ?_))))⟩
 revert h
 cases ht53 : x21
 refine JF fun h => Jn 3 R (Jd1 R R R R (Jn 2 R ?_))
 cases h
 exact Jv1 _ tv ⟨R, _, (Jx2 _ _).wk R⟩ (KM R)
 refine JT fun h => Jn 3 R (Ob h fun x37 hx37 h => Jh R R R C12 (i_FairIn_ok (κ := fun b => mp [] 0 (K47 b)) (Jl2 (f31.stp (S38.tr S48) R R).rdc (mp [] 0) R R) (Jl2 (f32.stp (S38.tr S48) R R).rdc (mp [] 0) R R) (Jl2 (f46.mx (no_int _) m49 R (R : 13 + 2 = 15)).rdc (mp [] 0) R R) hx37) ?_)
 rintro _ w56 ⟨k57, rfl, e58⟩
 obtain ⟨K59, S60, m61⟩ := Ji e58 16 R
 refine ⟨tv, Jn 2 R ?_⟩
 cases h
 exact Jv1 _ tv ⟨R, _, S60.wk R⟩ (KM R)
 rintro _ w63 _ ⟨rfl, K64, S65⟩
 have h := hK52
 refine Jd ?_
 revert h
 cases ht66 : p39
 refine JF fun h => Jy R (Js (Jp (Je [2, 1, 2, 1, 2] R (Jn 1 R (Jo1 (κ := K64) (E := Pair.ep42) 16 R R R R R Y29 Tryinfo42 R fun ak ah w68 K69 S70 f71 => ⟨tv, Jn 1 R (Ob h fun x43 hx43 h => ?_)⟩)))))
 have f72 := f31.stp (S38.tr (S48.tr (S65.tr S70))) R R
 have f73 := f33.stp (S38.tr (S48.tr (S65.tr S70))) R R
 refine Jh R R R C12 (i_FairIn_ok (κ := fun b => mp [] 0 (K69 b)) (Jl2 f72.rdc (mp [] 0) R R) (Jl2 f71.rdc (mp [] 0) R R) (Jl2 f73.rdc (mp [] 0) R R) hx43) ?_
 rintro _ w74 ⟨k75, rfl, e76⟩
 obtain ⟨K77, S78, m79⟩ := Ji e76 17 R
 refine ⟨tv, Jb 1 R (Je [2, 2, 2, 2, 2, 2, 2, 1, 2, 1, 2, 2, 2, 2, 2, 1, 2, 1, 2, 1, 2, 2, 2, 2] R (Jn 3 R (Ob h fun p48 h hK81 => Ju1 [(3, 2), (4, 2)] [(5, 2), (6, 2), (7, 1), (8, 2), (9, 1), (10, 2), (11, 2), (12, 2), (13, 2), (14, 2), (15, 1), (16, 2), (17, 1), (18, 2), (19, 1), (20, 2), (21, 2), (22, 2), (23, 2)] (fun L w' => L = [(3, .slice ac x14.1.length ad), (5, .slice af x14.2.2.length ae), (9, .bool x43), (48, .bool p48)] ∧ ∃ κ', Stp [] K77 w74 κ' w') tv ?_ ?_)))⟩
 revert h
 cases ht82 : (!x21)
 refine JF fun h => Jn 2 R ?_
 cases h
 exact Jv1 _ tv ⟨R, _, (Jx2 _ _).wk R⟩ (KM R)
 refine JT fun h => Jn 2 R ?_
 cases h
 exact Jv1 _ tv ⟨R, _, (Jx2 _ _).wk R⟩ (KM R)
 rintro _ w83 _ ⟨rfl, K84, S85⟩
 have h := hK81
 refine Jn 1 R (Ob h fun p66 h hK86 => Ju1 [(6, 2), (7, 1), (8, 2), (9, 1), (10, 2), (11, 2), (12, 2), (13, 2), (14, 2), (15, 1), (16, 2), (17, 1), (18, 2), (19, 1), (20, 2), (21, 2), (22, 2)] [(23, 2)] (fun L w' => L = [(66, .bool p66)] ∧ ∃ κ', Stp [22] K84 w83 κ' w') tv ?_ ?_)
 revert h
 cases ht87 : p48
 refine JF fun h => Jn 1 R (Jd1 R R R R (Jn 1 R (Jd1 R R R R (Jn 5 R (Jd1 R R R R (Jn 1 R (Jd1 R R R R (Jn 1 R (Jd1 R R R R (Jn 3 R ?_))))))))))
 cases h
 exact Jv1 _ tv ⟨R, _, (Jx2 _ _).wk R⟩ (KM R)
 refine JT fun h => Jn 1 R (Jo1 (κ := K84) (E := Pair.ep42) 19 R R R R R Y29 Tryinfo42 R fun am ai w88 K89 S90 f91 => ⟨tv, Jn 1 R (Ob h fun x53 hx53 h => ?_)⟩)
 have f92 := f72.stp (S78.tr (S85.tr S90)) R R
 have f93 := f73.stp (S78.tr (S85.tr S90)) R R
 refine Jh R R R C8 (s_FairIn_ok (κ := fun b => mp [] 0 (K89 b)) (Jl2 f92.rdc (mp [] 0) R R) (Jl2 f91.rdc (mp [] 0) R R) (Jl2 f93.rdc (mp [] 0) R R) hx53) ?_
 rintro _ w94 ⟨k95, rfl, e96⟩
 obtain ⟨K97, S98, m99⟩ := Ji e96 20 R
 refine ⟨tv, Jn 2 R (Ob h fun p65 h hK101 => Ju1 [(12, 2), (13, 2), (14, 2), (15, 1), (16, 2), (17, 1), (18, 2), (19, 1), (20, 2), (21, 2)] [(22, 2)] (fun L w' => L = [(49, .bool true), (65, .bool p65)] ∧ ∃ κ', Stp [22] K97 w94 κ' w') tv ?_ ?_)⟩
 revert h
 cases ht102 : (!x53)
 refine JF fun h => Jn 2 R (Ob h fun p64 h hK103 => Ju1 [(14, 2), (15, 1), (16, 2), (17, 1), (18, 2), (19, 1), (20, 2)] [(21, 2)] (fun L w' => L = [(49, .bool true), (55, .bool false), (64, .bool p64)] ∧ ∃ κ', Stp [22] K97 w94 κ' w') tv ?_ ?_)
 revert h
 cases ht104 : x43
 refine JF fun h => Jn 1 R (Jd1 R R R R (Jn 1 R (Jd1 R R R R (Jn 1 R (Jd1 R R R R (Jn 1 R ?_))))))
 cases h
 exact Jv1 _ tv ⟨R, _, (Jx2 _ _).wk R⟩ (KM R)
 refine JT fun h => Jn 1 R (Jo1 (κ := K97) (E := E6) 22 R R R R R Y24 Tryinfo2 R fun ab aa w105 K106 S107 f108 => ⟨tv, Jf R (rn_build (parts := [(1, .tmp 59)]) (cells := [.slice none 0 0, .slice ab ([] : List Int).length aa]) R R (by kernel_rfl)) (Jn1 (κ := K106) (E := Pair.ep42) 23 [22] (parts := [(0, .tmp 60)]) (cells := [.slice none 0 0, .slice ab ([] : List Int).length aa]) (xs := ([(⟨([] : List Int), ([] : List Int)⟩ : Pair)] : List Pair)) R R R R R R Y29 Tryinfo42 R R R R R R R R R R ⟨[.slice none 0 0, .slice ab ([] : List Int).length aa], [], Zl K106 w105 [22], Zl K106 w105 [], R, Zl.sp (l1 := [22]) (l2 := []) R, Zl.sr (l1 := [22]) (l2 := []), ⟨[.slice none 0 0], [.slice ab ([] : List Int).length aa], Zl K106 w105 [], Zl K106 w105 [22], R, Zl.sp (l1 := []) (l2 := [22]) R, Zl.sr (l1 := []) (l2 := [22]), ⟨none, 0, R, Ow.nil⟩, ⟨_, _, R, f108⟩⟩, R⟩ fun al aj w109 K110 S111 f112 => ⟨tv, Jn 1 R (Ob h fun x63 hx63 h => Jh R R R C12 (i_FairIn_ok (κ := fun b => mp [] 0 (K110 b)) (Jl2 (f92.stp (S98.tr (S107.tr S111)) R R).rdc (mp [] 0) R R) (Jl2 f112.rdc (mp [] 0) R R) (Jl2 (f93.stp (S98.tr (S107.tr S111)) R R).rdc (mp [] 0) R R) hx63) ?_)⟩)⟩)
 rintro _ w115 ⟨k116, rfl, e117⟩
 obtain ⟨K118, S119, m120⟩ := Ji e117 24 R
 refine ⟨tv, Jn 1 R ?_⟩
 cases h
 exact Jv1 _ tv ⟨R, _, (S107.tr (S111.tr S119)).wk R⟩ (KM R)
 rintro _ w122 _ ⟨rfl, K123, S124⟩
 have h := hK103
 refine Jn 1 R ?_
 cases h
 exact Jv1 _ tv ⟨R, _, S124.wk R⟩ (KM R)
 refine JT fun h => Jn 3 R (Jd1 R R R R (Jn 1 R (Jd1 R R R R (Jn 1 R (Jd1 R R R R (Jn 2 R ?_))))))
 cases h
 exact Jv1 _ tv ⟨R, _, (Jx2 _ _).wk R⟩ (KM R)
 rintro _ w125 _ ⟨rfl, K126, S127⟩
 have h := hK101
 refine Jn 1 R ?_
 cases h
 exact Jv1 _ tv ⟨R, _, (S90.tr (S98.tr S127)).wk R⟩ (KM R)
 rintro _ w128 _ ⟨rfl, K129, S130⟩
 have h := hK86
 refine Jb 1 R (Ju (Ja2 (l := [.tmp 2]) V4 (Jp2 R R) R ?_))
 cases h
 exact ⟨K129, R, (hE.stp (S5.tr (S18.tr (S28.tr (S38.tr (S48.tr (S65.tr (S70.tr (S78.tr (S85.tr S130))))))))) R R)⟩
 refine JT fun h => Jx R (Je [2] R (Jb 1 R (Ju (Jw (Ja2 (l := [.tmp 2]) V4 (Jp2 R R) R ?_)))))
 cases h
 exact ⟨K64, R, (hE.stp (S5.tr (S18.tr (S28.tr (S38.tr (S48.tr S65))))) R R)⟩
 refine JT fun h => Jx R (Je [2] R (Jb 1 R (Ju (Jw (Ja2 (l := [.tmp 2]) V4 (Jp2 R R) R ?_)))))
 cases h
 exact ⟨K37, R, (hE.stp (S5.tr (S18.tr (S28.tr S38))) R R)⟩
 refine JT fun h => Jx R (Je [2] R (Jb 1 R (Ju (Jw (Ja2 (l := [.tmp 2]) V4 (Jp2 R R) R ?_)))))
 cases h
 exact ⟨K4, R, (hE.stp S5 R R)⟩
end Go.Proofs.Ytcmamhmpoinmnaa
