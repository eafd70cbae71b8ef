/- The walks, part 12. By program. -/
import Derived.Test.YtmiilifclnanlaaGreatFns10EE
import Derived.Test.YtmiilifclnanlaaGreatFns11EE
set_option linter.unusedVariables false
set_option linter.unusedSimpArgs false
namespace Go.Proofs.YtmiilifclnanlaaGreat
open Go Go.Wk Go.Proofs
set_option maxRecDepth 100000
set_option maxHeartbeats 1000000
theorem i_edited_ok {w:World}{κ:Col}{ak aj ai al am ah}{p0:Parity}{p1:Edit}(g0_0_0:Rd (Rp.int .i64) κ w 0 ak aj p0.Arena.Owner) (g0_0_1:Rd (Rp.sl (Rp.int .i64)) κ w 0 ai al p0.Arena.Next) (g0_1:Rd (Rp.int .i64) κ w 0 am ah p0.Prio){r:Parity}(h:i_edited p0 p1=some r):Ret Tryz.prog 44 [.agg #[.slice ak p0.Arena.Owner.length aj,.slice ai p0.Arena.Next.length al,.slice am p0.Prio.length ah],.agg #[vi p1.Kind,vi p1.V,vi p1.N]] w (fun v w'=>∃(κ':Col) (ra0:Option Addr) (ru0:Nat) (ra1:Option Addr) (ru1:Nat) (ra2:Option Addr) (ru2:Nat),v= .agg #[.slice ra0 r.Arena.Owner.length ru0,.slice ra1 r.Arena.Next.length ru1,.slice ra2 r.Prio.length ru2]∧Ent κ w κ' w'∧Oc E6 2 κ' w' 2 ra0 ru0 r.Arena.Owner∧Oc (Ep.own E6 2) 22 κ' w' 3 ra1 ru1 r.Arena.Next∧Oc E6 2 κ' w' 4 ra2 ru2 r.Prio):=by
 unfold i_edited at h
 refine Ret.enter F44 R N44 R ?_
 dsimp only[envOf]
 have hE:=Ent.refl κ w
 refine Je [1,1,1] R (Jf1 (κ:=κ) 2 R R R R R R R fun b2 w1 K2 S3 f4=>⟨tv,Jf1 (κ:=K2) 3 R R R R R R R fun b3 w5 K6 S7 f8=>⟨tv,Jg1 (κ:=K6) 4 R R R R R X39 R fun b4 w9 K10 S11 f12=>⟨tv,Jd (Je [1,1,1,1] R (Jl tv R R R R (Jd2 (cs:=[.slice ak p0.Arena.Owner.length aj,.slice ai p0.Arena.Next.length al,.slice am p0.Prio.length ah]) I39 Z39 R R R (haE (f4.stp (S7.tr S11) R R).cells)) (Ob h fun x7 hx7 h=>Jh R R R C72 (i_copyParity_ok (κ:=fun b=>mp [] 0 (K10 b)) (p0:=p0) (Jl2 (g0_0_0.stp (S3.tr (S7.tr S11)) R R) (mp [] 0) R R) (Jl2 (g0_0_1.stp (S3.tr (S7.tr S11)) R R) (mp [] 0) R R) (Jl2 (g0_1.stp (S3.tr (S7.tr S11)) R R) (mp [] 0) R R) hx7) ?_)))⟩⟩⟩)
 rintro _ w17 ⟨k18,ac,ad,aa,ab,af,ae,rfl,e19,f20,f21,f22⟩
 obtain⟨K23,S24,m25⟩:=Ji e19 5 R
 refine⟨tv,?_⟩
 have f27:=f20.mx (no_int _) m25 R (R:5+2=7)
 have f28:=f21.mx (no_own (no_int _) _) m25 R (R:5+3=8)
 have f29:=f22.mx (no_int _) m25 R (R:5+4=9)
 refine Jg1 (κ:=K23) 10 R R R R R X39 R fun b5 w30 K31 S32 f33=>⟨tv,Jj1 (κ:=K31) 10 (vc:=[.slice ac x7.Arena.Owner.length ad,.slice aa x7.Arena.Next.length ab,.slice af x7.Prio.length ae]) R R R R R R R Z39 R R f33 R fun w34 S35 f36=>⟨tv,Jd (Jq (Je [2,1] R (Jf R (Jb2 U42 R Z2 R R) ?_)))⟩⟩
 have f37:=f8.stp (S11.tr (S24.tr (S32.tr S35))) R R
 refine Jl tv R R R R (Jc2 I2 R R (hvE (f37.ld 0 R R))) (Jd (Jv (Je [2,2] R (Jb 2 R (Ob h fun q1 h hK38=>Jx1 (fun L w'=>∃κ',L=[(4,.pointer (some ⟨b4,0,none⟩)),(5,.pointer (some ⟨b5,0,none⟩))]∧Stp [7,8,9,14] K31 w34 κ' w'∧Oc E6 2 κ' w' 7 ac ad q1.1∧x7.Arena.Owner.length=q1.1.length∧Oc (Ep.own E6 2) 22 κ' w' 8 aa ab q1.2.1∧x7.Arena.Next.length=q1.2.1.length∧Oc E6 2 κ' w' 9 af ae q1.2.2∧x7.Prio.length=q1.2.2.length) ?_ ?_)))))
 revert h
 cases ht48:(p1.Kind==1)
 refine JF fun h=>Jy R (Je [2,2] R (Jb 2 R (Ob h fun q2 h hK57=>Jx1 (fun L w'=>∃κ',L=[(4,.pointer (some ⟨b4,0,none⟩)),(5,.pointer (some ⟨b5,0,none⟩))]∧Stp [7,8,14] K31 w34 κ' w'∧Oc E6 2 κ' w' 7 ac ad q2.1∧x7.Arena.Owner.length=q2.1.length∧Oc (Ep.own E6 2) 22 κ' w' 8 aa ab q2.2∧x7.Arena.Next.length=q2.2.length) ?_ ?_)))
 revert h
 cases ht65:(p1.Kind==2)
 refine JF fun h=>Jy R (Je [2,2] R (Jb 2 R (Ob h fun q3 h hK73=>Jx1 (fun L w'=>∃κ',L=[(4,.pointer (some ⟨b4,0,none⟩)),(5,.pointer (some ⟨b5,0,none⟩))]∧Stp [8,14] K31 w34 κ' w'∧Oc (Ep.own E6 2) 22 κ' w' 8 aa ab q3∧x7.Arena.Next.length=q3.length) ?_ ?_)))
 revert h
 cases ht79:(p1.Kind==3)
 refine JF fun h=>Jy R (Js1 (κ:=K31) [0,3,8,10] (some 17) [(0,2),(1,2),(3,2),(5,2),(6,2),(8,2),(12,2),(2,0),(4,0),(7,0),(9,0),(10,2),(11,0),(13,0),(14,1),(15,1),(16,2)] [(17,1)] (by kernel_rfl) (by kernel_rfl) fun w108 S107=>Jf R (Jb2 U39 R Z37 R R) (Jf R (Jb2 U37 R Z23 R R) (Jf R (Jb2 U42 R Z2 R R) (Jf R (Jb2 U39 R Z37 R R) (Jf R (Jb2 U37 R Z23 R R) (Jf R (Jb2 U42 R Z2 R R) (Jf R (Jb2 U42 R Z2 R R) ?_)))))))
 have f109:=f36.stp S107 R R
 refine Jg R (Jc2 I23 R R (hvC (f109.ld 1 R R) R)) ?_
 have f110:=f37.stp S107 R R
 refine Jg R (Jc2 I2 R R (hvC (f110.ld 1 R R) R)) (Jg R (Jc2 I23 R R (hvC (f109.ld 1 R R) R)) (Jg R (Jc2 I2 R R (hvC (f110.ld 1 R R) R)) (Ob h fun x20 hx20 h=>Jf R (Jf2 f28.rdc hx20 U23 Z22 R R R R) ?_)))
 have f111:=f28.stp (S32.tr (S35.tr S107)) R R
 obtain⟨ax20,ux20,f112,hl113⟩:=f111.rdc.gSl hx20
 refine Jg R (Jc2 I22 R R (hvC hl113 R)) (Jg R (Jc2 I2 R R (hvC (f110.ld 2 R R) R)) (Jn1 (κ:=K31) (E:=E6) 11 [] (parts:=[(0,.tmp 23)]) (cells:=[vi p1.N]) (xs:=([p1.N]:List Int)) R R R R R R Y22 Tryzinfo2 R R R R R R R R R R ⟨[vi p1.N],[],Zl K31 w108 [],Zl K31 w108 [],R,Zl.sp (l1:=[]) (l2:=[]) R,Zl.sr (l1:=[]) (l2:=[]),R,R⟩ fun ao aw w114 K115 S116 f117=>⟨(S116.cl R),Ob h fun x25 hx25 h=>Jh R R R C90 (i_lessOf_ok (κ:=fun b=>mp [] 0 (K115 b)) (Jl2 (f112.stp S116 R R) (mp [] 0) R R) (Jl2 f117.rdc (mp [] 0) R R) hx25) ?_⟩))
 rintro _ w119 ⟨k120,av,aq,rfl,e121,f122⟩
 obtain⟨K123,S124,m125⟩:=Ji e121 12 R
 refine⟨((S116.tr S124).cl R),Ob h fun x26 hx26 h=>Jf R (Jf2 f111.rdc hx26 U23 Z22 R R R R) (Jt1 (Ob h fun y114 hy114 h=>Jk1 (κ:=K123) (E:=(Ep.own E6 2)) 8 [14] R R R R R R R R Z22 R ⟨_,_,R,(f122.mx (no_int _) m125 R (R:12+2=14))⟩ R R (f111.stp (S116.tr S124) R R) hy114 fun w129 K130 S131 f132=>⟨tv,?_⟩))⟩
 have hn133:x7.Arena.Next.length=y114.length:=(Jt2 hy114).2.2.2.symm
 refine Jo ?_
 cases h
 exact Jw1 _ ⟨K130,R,(S107.tr (S116.tr (S124.tr S131))).wk R,f132,hn133⟩ (KM R)
 refine JT fun h=>Jx R (Js1 (κ:=K31) [0,3,8,10] (some 17) [(0,2),(1,2),(3,2),(5,2),(6,2),(8,2),(12,2),(2,0),(4,0),(7,0),(9,0),(10,2),(11,0),(13,0),(14,1),(15,1),(16,2)] [(17,1)] (by kernel_rfl) (by kernel_rfl) fun w81 S80=>Jf R (Jb2 U39 R Z37 R R) (Jf R (Jb2 U37 R Z23 R R) (Jf R (Jb2 U42 R Z2 R R) (Jf R (Jb2 U39 R Z37 R R) (Jf R (Jb2 U37 R Z23 R R) (Jf R (Jb2 U42 R Z2 R R) (Jf R (Jb2 U42 R Z2 R R) ?_)))))))
 have f82:=f36.stp S80 R R
 refine Jg R (Jc2 I23 R R (hvC (f82.ld 1 R R) R)) ?_
 have f83:=f37.stp S80 R R
 refine Jg R (Jc2 I2 R R (hvC (f83.ld 1 R R) R)) (Jg R (Jc2 I23 R R (hvC (f82.ld 1 R R) R)) (Jg R (Jc2 I2 R R (hvC (f83.ld 1 R R) R)) (Ob h fun x58 hx58 h=>Jf R (Jf2 f28.rdc hx58 U23 Z22 R R R R) ?_)))
 have f84:=f28.stp (S32.tr (S35.tr S80)) R R
 obtain⟨ax58,ux58,f85,hl86⟩:=f84.rdc.gSl hx58
 refine Jg R (Jc2 I22 R R (hvC hl86 R)) (Jg R (Jc2 I2 R R (hvC (f83.ld 2 R R) R)) (Jn1 (κ:=K31) (E:=E6) 11 [] (parts:=[(0,.tmp 61)]) (cells:=[vi p1.N]) (xs:=([p1.N]:List Int)) R R R R R R Y22 Tryzinfo2 R R R R R R R R R R ⟨[vi p1.N],[],Zl K31 w81 [],Zl K31 w81 [],R,Zl.sp (l1:=[]) (l2:=[]) R,Zl.sr (l1:=[]) (l2:=[]),R,R⟩ fun ar ap w87 K88 S89 f90=>⟨(S89.cl R),Ob h fun x63 hx63 h=>Jh R R R C89 (i_bothOf_ok (κ:=fun b=>mp [] 0 (K88 b)) (Jl2 (f85.stp S89 R R) (mp [] 0) R R) (Jl2 f90.rdc (mp [] 0) R R) hx63) ?_⟩))
 rintro _ w92 ⟨k93,an,au,rfl,e94,f95⟩
 obtain⟨K96,S97,m98⟩:=Ji e94 12 R
 refine⟨((S89.tr S97).cl R),Ob h fun x64 hx64 h=>Jf R (Jf2 f84.rdc hx64 U23 Z22 R R R R) (Jt1 (Ob h fun y111 hy111 h=>Jk1 (κ:=K96) (E:=(Ep.own E6 2)) 8 [14] R R R R R R R R Z22 R ⟨_,_,R,(f95.mx (no_int _) m98 R (R:12+2=14))⟩ R R (f84.stp (S89.tr S97) R R) hy111 fun w102 K103 S104 f105=>⟨tv,?_⟩))⟩
 have hn106:x7.Arena.Next.length=y111.length:=(Jt2 hy111).2.2.2.symm
 refine Jo ?_
 cases h
 exact Jw1 _ ⟨K103,R,(S80.tr (S89.tr (S97.tr S104))).wk R,f105,hn106⟩ (KM R)
 rintro _ w74 ⟨K75,rfl,S76,f77,hn78⟩
 have h:=hK73
 cases h
 exact Jw1 _ ⟨K75,R,S76.wk R,(f27.stp (S32.tr (S35.tr S76)) R R),R,f77,hn78⟩ (KM R)
 refine JT fun h=>Jx R (Ja [2,2,1,2,1,2,1,2,1] R (Jf R (Jb2 U39 R Z37 R R) (Jf R (Jb2 U37 R Z22 R R) (Jl tv R R R R (Jc2 I22 R R (hvE (f36.ld 0 R R))) (Jf R (Jb2 U42 R Z2 R R) (Jl tv R R R R (Jc2 I2 R R (hvE (f37.ld 1 R R))) (Jf R (Jb2 U42 R Z2 R R) (Jl tv R R R R (Jc2 I2 R R (hvE (f37.ld 2 R R))) (Ob h fun x45 hx45 h=>Jf R (Jf2 f27.rdc hx45 U22 Z2 R R R R) (Ob h fun y97 hy97 h=>Jk1 (κ:=K31) (E:=E6) 7 [] R R R R R R R R Z2 R R R R (f27.stp (S32.tr S35) R R) hy97 fun w67 K68 S69 f70=>⟨tv,?_⟩))))))))))
 have hn71:x7.Arena.Owner.length=y97.length:=(Jt2 hy97).2.2.2.symm
 refine Jo ?_
 cases h
 exact Jw1 _ ⟨K68,R,S69.wk R,f70,hn71,(f28.stp (S32.tr (S35.tr S69)) R R),R⟩ (KM R)
 rintro _ w58 ⟨K59,rfl,S60,f61,hn62,f63,hn64⟩
 have h:=hK57
 cases h
 exact Jw1 _ ⟨K59,R,S60.wk R,f61,hn62,f63,hn64,(f29.stp (S32.tr (S35.tr S60)) R R),R⟩ (KM R)
 refine JT fun h=>Jx R (Ja [2,1,2,1,2,1,2,1] R (Jf R (Jb2 U39 R Z22 R R) (Jl tv R R R R (Jc2 I22 R R (hvE (f36.ld 2 R R))) (Jf R (Jb2 U42 R Z2 R R) (Jl tv R R R R (Jc2 I2 R R (hvE (f37.ld 1 R R))) (Jf R (Jb2 U42 R Z2 R R) (Jl tv R R R R (Jc2 I2 R R (hvE (f37.ld 2 R R))) (Ob h fun x35 hx35 h=>Jf R (Jf2 f29.rdc hx35 U22 Z2 R R R R) (Ob h fun y96 hy96 h=>Jk1 (κ:=K31) (E:=E6) 9 [] R R R R R R R R Z2 R R R R (f29.stp (S32.tr S35) R R) hy96 fun w50 K51 S52 f53=>⟨tv,?_⟩)))))))))
 have hn54:x7.Prio.length=y96.length:=(Jt2 hy96).2.2.2.symm
 refine Jo ?_
 cases h
 exact Jw1 _ ⟨K51,R,S52.wk R,(f27.stp (S32.tr (S35.tr S52)) R R),R,(f28.stp (S32.tr (S35.tr S52)) R R),R,f53,hn54⟩ (KM R)
 rintro _ w39 ⟨K40,rfl,S41,f42,hn43,f44,hn45,f46,hn47⟩
 have h:=hK38
 refine Jz (Jp (Je [1,1] R (Jl tv R R R R (Jd2 (cs:=[.slice ac x7.Arena.Owner.length ad,.slice aa x7.Arena.Next.length ab,.slice af x7.Prio.length ae]) I39 Z39 R R R (haE (f36.stp S41 R R).cells)) (Jj1 (κ:=K40) 4 (vc:=[.slice ac x7.Arena.Owner.length ad,.slice aa x7.Arena.Next.length ab,.slice af x7.Prio.length ae]) R R R R R R R Z39 R R (f12.stp (S24.tr (S32.tr (S35.tr S41))) R R) R fun w138 S139 f140=>⟨tv,Jd (Ju (Ja2 (l:=[.cell 4 39]) V44 (res_cellA R f140 I39 Z39 R R) R ?_))⟩))))
 cases h
 exact⟨(fun b=>ren [(7,2),(8,3),(9,4)] (K40 b)),ac,ad,aa,ab,af,ae,(by simp only[hn43,hn45,hn47]),((hE.stp (S3.tr (S7.tr (S11.tr (S24.tr (S32.tr (S35.tr (S41.tr S139))))))) R R).map (ren [(7,2),(8,3),(9,4)]) R R),((f42.stp S139 R R).map (ren [(7,2),(8,3),(9,4)]) R R),((f44.stp S139 R R).map (ren [(7,2),(8,3),(9,4)]) R R),((f46.stp S139 R R).map (ren [(7,2),(8,3),(9,4)]) R R)⟩
theorem s_EditOk_ok {w:World}{κ:Col}{aa af ab ac ad ae}{p0:Parity}{p1:Edit}(g0_0_0:Rd (Rp.int .i64) κ w 0 aa af p0.Arena.Owner) (g0_0_1:Rd (Rp.sl (Rp.int .i64)) κ w 0 ab ac p0.Arena.Next) (g0_1:Rd (Rp.int .i64) κ w 0 ad ae p0.Prio){r:Bool}(h:s_EditOk p0 p1=some r):Ret Tryz.prog 36 [.agg #[.slice aa p0.Arena.Owner.length af,.slice ab p0.Arena.Next.length ac,.slice ad p0.Prio.length ae],.agg #[vi p1.Kind,vi p1.V,vi p1.N]] w (fun v w'=>∃(κ':Col),v= .bool r∧Ent κ w κ' w'):=by
 unfold s_EditOk at h
 refine Ret.enter F36 R N36 R ?_
 dsimp only[envOf]
 have hE:=Ent.refl κ w
 refine Je [1,1,2] R (Jf1 (κ:=κ) 2 R R R R R R R fun b2 w1 K2 S3 f4=>⟨tv,Jf1 (κ:=K2) 3 R R R R R R R fun b3 w5 K6 S7 f8=>⟨tv,Jb 1 R (Je [2,1,2,2] R (Jf R (Jb2 U39 R Z22 R R) ?_))⟩⟩)
 have f9:=f4.stp S7 R R
 refine Jl tv R R R R (Jc2 I22 R R (hvE (f9.ld 2 R R))) (Jf R (Je2 U22 R R) (Jb 1 R (Jq (Je [1,1,2,2,2,1,2,2,1,2,2] R (Jl tv R R R R (Jd2 (cs:=[.slice aa p0.Arena.Owner.length af,.slice ab p0.Arena.Next.length ac,.slice ad p0.Prio.length ae]) I39 Z39 R R R (haE f9.cells)) (Ob h fun x11 hx11 h=>?_))))))
 have f11:=g0_0_1.stp (S3.tr S7) R R
 refine Jh R R R C55 (s_ParityOk_ok (κ:=fun b=>mp [] 0 (K6 b)) (p0:=p0) (Jl2 (g0_0_0.stp (S3.tr S7) R R) (mp [] 0) R R) (Jl2 f11 (mp [] 0) R R) (Jl2 (g0_1.stp (S3.tr S7) R R) (mp [] 0) R R) hx11) ?_
 rintro _ w13 ⟨k14,rfl,e15⟩
 obtain⟨K16,S17,m18⟩:=Ji e15 4 R
 refine⟨tv,Jn 2 R (Ob h fun p20 h hK20=>Ju1 [(4,2),(5,1),(6,2),(7,2),(8,1),(9,2),(10,2)] [] (fun L w'=>L=[(2,.pointer (some ⟨b2,0,none⟩)),(3,.pointer (some ⟨b3,0,none⟩)),(5,vi (p0.Prio.length:Int)),(20,.bool p20)]∧∃κ',Stp [] K16 w13 κ' w') tv ?_ ?_)⟩
 revert h
 cases ht21:(!x11)
 refine JF fun h=>Jf R (Jb2 U42 R Z2 R R) (Jl tv R R R R (Jc2 I2 R R (hvE ((f8.stp S17 R R).ld 1 R R))) (Jn 2 R (Ob h fun x18 hx18 h=>Jh R R R C75 (s_l1In_ok (κ:=fun b=>mp [] 0 (K16 b)) hx18) ?_)))
 rintro _ w23 ⟨k24,rfl,e25⟩
 obtain⟨K26,S27,m28⟩:=Ji e25 6 R
 refine⟨tv,Jn 2 R ?_⟩
 cases h
 exact Jv1 _ tv ⟨R,_,S27.wk R⟩ (KM R)
 refine JT fun h=>Jn 1 R (Jd1 R R R R (Jn 2 R (Jd1 R R R R (Jn 2 R ?_))))
 cases h
 exact Jv1 _ tv ⟨R,_,(Jx2 _ _).wk R⟩ (KM R)
 rintro _ w30 _ ⟨rfl,K31,S32⟩
 have h:=hK20
 refine Jd ?_
 revert h
 cases ht33:p20
 refine JF fun h=>Jy R (Js (Jp (Je [2,2,1,2,1,2,1,2] R (Jf R (Jb2 U39 R Z37 R R) (Jf R (Jb2 U37 R Z23 R R) (Jl tv R R R R (Jc2 I23 R R (hvE ((f9.stp (S17.tr S32) R R).ld 1 R R))) (Jf R (Jb2 U42 R Z2 R R) ?_)))))))
 have f36:=f8.stp (S17.tr S32) R R
 refine Jl tv R R R R (Jc2 I2 R R (hvE (f36.ld 1 R R))) (Ob h fun x26 hx26 h=>Jf R (Jf2 f11 hx26 U23 Z22 R R R R) ?_)
 obtain⟨ax26,ux26,f38,hl39⟩:=(f11.stp (S17.tr S32) R R).gSl hx26
 refine Jl tv R R R R (Jc2 I22 R R (hvE hl39)) (Jb 1 R (Jq (Je [2,1] R (Jf R (Jb2 U42 R Z2 R R) (Jl tv R R R R (Jc2 I2 R R (hvE (f36.ld 0 R R))) (Jd (Jv (Je [2,2] R (Jb 2 R ?_)))))))))
 revert h
 cases ht40:(p1.Kind==1)
 refine JF fun h=>Jy R (Je [2,2] R (Jb 2 R ?_))
 revert h
 cases ht49:(p1.Kind==2)
 refine JF fun h=>Jy R (Je [2,2] R (Jb 2 R ?_))
 revert h
 cases ht58:(p1.Kind==3)
 refine JF fun h=>Jy R (Je [2,2] R (Jb 2 R ?_))
 revert h
 cases ht86:(p1.Kind==4)
 refine JF fun h=>Jy R (Js (Jz (Jp (Je [2] R (Jb 1 R (Ju (Ja2 (l:=[.tmp 4]) V36 (Jp2 R R) R ?_)))))))
 cases h
 exact⟨K31,R,(hE.stp (S3.tr (S7.tr (S17.tr S32))) R R)⟩
 refine JT fun h=>Jx R (Je [2,2,1,1,2,2,2,2,2,2] R (Jn 1 R (Jf R (Jb2 U42 R Z2 R R) (Jl tv R R R R (Jc2 I2 R R (hvE (f36.ld 2 R R))) (Ob h fun x64 hx64 h=>Jh R R R C76 (s_l16Has_ok (κ:=fun b=>mp [] 0 (K31 b)) (Jl2 f38 (mp [] 0) R R) hx64) ?_)))))
 rintro _ w87 ⟨k88,rfl,e89⟩
 obtain⟨K90,S91,m92⟩:=Ji e89 6 R
 refine⟨tv,Jn 1 R (Ob h fun p69 h hK94=>Ju1 [(5,2),(6,2),(7,2),(8,2)] [(9,2)] (fun L w'=>L=[(69,.bool p69)]∧∃κ',Stp [] K90 w87 κ' w') tv ?_ ?_)⟩
 revert h
 cases ht95:x64
 refine JF fun h=>Jn 4 R ?_
 cases h
 exact Jv1 _ tv ⟨R,_,(Jx2 _ _).wk R⟩ (KM R)
 refine JT fun h=>Jn 1 R (Jf R (Je2 U22 R R) (Jn 2 R ?_))
 cases h
 exact Jv1 _ tv ⟨R,_,(Jx2 _ _).wk R⟩ (KM R)
 rintro _ w96 _ ⟨rfl,K97,S98⟩
 have h:=hK94
 refine Jb 1 R (Ju (Ja1 (Jw (Ja2 (l:=[.tmp 4]) V36 (Jp2 R R) R ?_))))
 cases h
 exact⟨K97,R,(hE.stp (S3.tr (S7.tr (S17.tr (S32.tr (S91.tr S98))))) R R)⟩
 refine JT fun h=>Jx R (Je [2,1,2,2,1,2,2,2,1,1,2,2,2,2,2,2,2,2] R (Jf R (Jb2 U42 R Z2 R R) (Jl tv R R R R (Jc2 I2 R R (hvE (f36.ld 2 R R))) (Jn 2 R (Ob h fun x46 hx46 h=>Jh R R R C75 (s_l1In_ok (κ:=fun b=>mp [] 0 (K31 b)) hx46) ?_)))))
 rintro _ w59 ⟨k60,rfl,e61⟩
 obtain⟨K62,S63,m64⟩:=Ji e61 6 R
 refine⟨tv,Jn 1 R (Ob h fun p53 h hK66=>Ju1 [(6,2),(7,2),(8,1),(9,1),(10,2),(11,2)] [(12,2),(13,2),(14,2),(15,2),(16,2),(17,2)] (fun L w'=>L=[(6,.slice ax26 x26.length ux26),(53,.bool p53)]∧∃κ',Stp [] K62 w59 κ' w') tv ?_ ?_)⟩
 revert h
 cases ht67:x46
 refine JF fun h=>Jn 2 R (Jd1 R R R R (Jd1 R R R R (Jn 2 R ?_)))
 cases h
 exact Jv1 _ tv ⟨R,_,(Jx2 _ _).wk R⟩ (KM R)
 refine JT fun h=>Jn 1 R (Jf R (Jb2 U42 R Z2 R R) (Jl tv R R R R (Jc2 I2 R R (hvE ((f36.stp S63 R R).ld 2 R R))) (Ob h fun x51 hx51 h=>Jh R R R C76 (s_l16Has_ok (κ:=fun b=>mp [] 0 (K62 b)) (Jl2 (f38.stp S63 R R) (mp [] 0) R R) hx51) ?_)))
 rintro _ w70 ⟨k71,rfl,e72⟩
 obtain⟨K73,S74,m75⟩:=Ji e72 8 R
 refine⟨tv,Jn 2 R ?_⟩
 cases h
 exact Jv1 _ tv ⟨R,_,S74.wk R⟩ (KM R)
 rintro _ w77 _ ⟨rfl,K78,S79⟩
 have h:=hK66
 refine Jn 1 R (Ob h fun p58 h hK80=>Ju1 [(13,2),(14,2),(15,2),(16,2)] [(17,2)] (fun L w'=>L=[(58,.bool p58)]∧∃κ',Stp [] K78 w77 κ' w') tv ?_ ?_)
 revert h
 cases ht81:p53
 refine JF fun h=>Jn 4 R ?_
 cases h
 exact Jv1 _ tv ⟨R,_,(Jx2 _ _).wk R⟩ (KM R)
 refine JT fun h=>Jn 1 R (Jf R (Je2 U22 R R) (Jn 2 R ?_))
 cases h
 exact Jv1 _ tv ⟨R,_,(Jx2 _ _).wk R⟩ (KM R)
 rintro _ w82 _ ⟨rfl,K83,S84⟩
 have h:=hK80
 refine Jb 1 R (Ju (Ja1 (Jw (Ja2 (l:=[.tmp 4]) V36 (Jp2 R R) R ?_))))
 cases h
 exact⟨K83,R,(hE.stp (S3.tr (S7.tr (S17.tr (S32.tr (S63.tr (S79.tr S84)))))) R R)⟩
 refine JT fun h=>Jx R (Je [2,1,1,2] R (Jf R (Jb2 U42 R Z2 R R) (Jl tv R R R R (Jc2 I2 R R (hvE (f36.ld 2 R R))) (Ob h fun x39 hx39 h=>Jh R R R C75 (s_l1In_ok (κ:=fun b=>mp [] 0 (K31 b)) hx39) ?_))))
 rintro _ w50 ⟨k51,rfl,e52⟩
 obtain⟨K53,S54,m55⟩:=Ji e52 6 R
 refine⟨tv,Jb 1 R (Ju (Ja1 (Jw (Ja2 (l:=[.tmp 4]) V36 (Jp2 R R) R ?_))))⟩
 cases h
 exact⟨K53,R,(hE.stp (S3.tr (S7.tr (S17.tr (S32.tr S54)))) R R)⟩
 refine JT fun h=>Jx R (Je [2,1,1,2] R (Jf R (Jb2 U42 R Z2 R R) (Jl tv R R R R (Jc2 I2 R R (hvE (f36.ld 2 R R))) (Ob h fun x34 hx34 h=>Jh R R R C75 (s_l1In_ok (κ:=fun b=>mp [] 0 (K31 b)) hx34) ?_))))
 rintro _ w41 ⟨k42,rfl,e43⟩
 obtain⟨K44,S45,m46⟩:=Ji e43 6 R
 refine⟨tv,Jb 1 R (Ju (Ja1 (Jw (Ja2 (l:=[.tmp 4]) V36 (Jp2 R R) R ?_))))⟩
 cases h
 exact⟨K44,R,(hE.stp (S3.tr (S7.tr (S17.tr (S32.tr S45)))) R R)⟩
 refine JT fun h=>Jx R (Je [2] R (Jb 1 R (Ju (Jw (Ja2 (l:=[.tmp 4]) V36 (Jp2 R R) R ?_)))))
 cases h
 exact⟨K31,R,(hE.stp (S3.tr (S7.tr (S17.tr S32))) R R)⟩
theorem s_OnlyBy_ok {w:World}{κ:Col}{ar aq ap au av ao}{p0:Parity}{a1 u1}{p1:(List Int)}(g0_0_0:Rd (Rp.int .i64) κ w 0 ar aq p0.Arena.Owner) (g0_0_1:Rd (Rp.sl (Rp.int .i64)) κ w 0 ap au p0.Arena.Next) (g0_1:Rd (Rp.int .i64) κ w 0 av ao p0.Prio) (g1:Rd (Rp.int .i64) κ w 0 a1 u1 p1){r:Parity×Bool}(h:s_OnlyBy p0 p1=some r):Ret Tryz.prog 124 [.agg #[.slice ar p0.Arena.Owner.length aq,.slice ap p0.Arena.Next.length au,.slice av p0.Prio.length ao],.slice a1 p1.length u1] w (fun v w'=>∃(κ':Col) (ra0:Option Addr) (ru0:Nat) (ra1:Option Addr) (ru1:Nat) (ra2:Option Addr) (ru2:Nat),v= .tuple #[.agg #[.slice ra0 r.1.Arena.Owner.length ru0,.slice ra1 r.1.Arena.Next.length ru1,.slice ra2 r.1.Prio.length ru2],.bool r.2]∧Ent κ w κ' w'∧Oc E6 2 κ' w' 2 ra0 ru0 r.1.Arena.Owner∧Oc (Ep.own E6 2) 22 κ' w' 3 ra1 ru1 r.1.Arena.Next∧Oc E6 2 κ' w' 4 ra2 ru2 r.1.Prio):=by
 unfold s_OnlyBy at h
 refine Ret.enter F124 R N124 R ?_
 dsimp only[envOf]
 have hE:=Ent.refl κ w
 refine Je [1,1,2] R (Jf1 (κ:=κ) 2 R R R R R R R fun b2 w1 K2 S3 f4=>⟨tv,Jg1 (κ:=K2) 3 R R R R R X39 R fun b4 w5 K6 S7 f8=>⟨tv,Jb 1 R (Jq (Je [1,1,2,2,1,2,1,2,2] R ?_))⟩⟩)
 have f9:=f4.stp S7 R R
 refine Jl tv R R R R (Jd2 (cs:=[.slice ar p0.Arena.Owner.length aq,.slice ap p0.Arena.Next.length au,.slice av p0.Prio.length ao]) I39 Z39 R R R (haE f9.cells)) (Ob h fun x10 hx10 h=>?_)
 have f10:=g0_0_0.stp (S3.tr S7) R R
 have f11:=g0_0_1.stp (S3.tr S7) R R
 have f12:=g0_1.stp (S3.tr S7) R R
 refine Jh R R R C55 (s_ParityOk_ok (κ:=fun b=>mp [] 0 (K6 b)) (p0:=p0) (Jl2 f10 (mp [] 0) R R) (Jl2 f11 (mp [] 0) R R) (Jl2 f12 (mp [] 0) R R) hx10) ?_
 rintro _ w13 ⟨k14,rfl,e15⟩
 obtain⟨K16,S17,m18⟩:=Ji e15 4 R
 refine⟨tv,Jn 2 R (Ob h fun p17 h hK20=>Ju1 [(4,1),(5,2),(6,1),(7,2),(8,2)] [] (fun L w'=>L=[(1,.slice a1 p1.length u1),(2,.pointer (some ⟨b2,0,none⟩)),(4,.pointer (some ⟨b4,0,none⟩)),(17,.bool p17)]∧∃κ',Stp [] K16 w13 κ' w') tv ?_ ?_)⟩
 revert h
 cases ht21:(!x10)
 refine JF fun h=>Jl tv R R R R (Jd2 (cs:=[.slice ar p0.Arena.Owner.length aq,.slice ap p0.Arena.Next.length au,.slice av p0.Prio.length ao]) I39 Z39 R R R (haE (f9.stp S17 R R).cells)) (Jn 1 R (Ob h fun x15 hx15 h=>Jh R R R C148 (s_l7Picks_ok (κ:=fun b=>mp [] 0 (K16 b)) (p0:=p0) (Jl2 (f10.stp S17 R R) (mp [] 0) R R) (Jl2 (f11.stp S17 R R) (mp [] 0) R R) (Jl2 (f12.stp S17 R R) (mp [] 0) R R) (Jl2 (g1.stp (S3.tr (S7.tr S17)) R R) (mp [] 0) R R) hx15) ?_))
 rintro _ w27 ⟨k28,rfl,e29⟩
 obtain⟨K30,S31,m32⟩:=Ji e29 6 R
 refine⟨tv,Jn 2 R ?_⟩
 cases h
 exact Jv1 _ tv ⟨R,_,S31.wk R⟩ (KM R)
 refine JT fun h=>Jd1 R R R R (Jn 1 R (Jd1 R R R R (Jn 2 R ?_)))
 cases h
 exact Jv1 _ tv ⟨R,_,(Jx2 _ _).wk R⟩ (KM R)
 rintro _ w34 _ ⟨rfl,K35,S36⟩
 have h:=hK20
 refine Jd ?_
 revert h
 cases ht37:p17
 refine JF fun h=>Jy R (Js (Jp (Jq (Ob h fun x22 hx22 h=>Ob h fun x26 hx26 h=>Jx1 (fun L w'=>∃κ' b6 ah af an aw ai ae,L=[(1,.slice a1 p1.length u1),(2,.pointer (some ⟨b2,0,none⟩)),(4,.pointer (some ⟨b4,0,none⟩)),(6,.pointer (some ⟨b6,0,none⟩))]∧Stp [6,8,9,11,12] K35 w34 κ' w'∧Oc E6 2 κ' w' 6 ah af (((⟨(⟨x22,([]:List (List Int))⟩:Arena),x26⟩:Parity).Arena).Owner)∧Oc (Ep.own E6 2) 22 κ' w' 7 an aw (((⟨(⟨x22,([]:List (List Int))⟩:Arena),x26⟩:Parity).Arena).Next)∧Oc E6 2 κ' w' 8 ai ae ((⟨(⟨x22,([]:List (List Int))⟩:Arena),x26⟩:Parity).Prio)∧Bc κ' w' 9 b6 39 [.slice ah (((⟨(⟨x22,([]:List (List Int))⟩:Arena),x26⟩:Parity).Arena).Owner).length af,.slice an (((⟨(⟨x22,([]:List (List Int))⟩:Arena),x26⟩:Parity).Arena).Next).length aw,.slice ai ((⟨(⟨x22,([]:List (List Int))⟩:Arena),x26⟩:Parity).Prio).length ae]) ?_ ?_))))
 refine WC.rxt (κ:=K35) [2] none (by kernel_rfl) fun w51 S52=>Jq1 (fuel:=6) [(0,2),(1,2),(5,2),(2,0),(6,0)] (by kernel_rfl) (by kernel_rfl) R (Jf R (Jb2 U39 R Z37 R R) (Jf R (Jb2 U37 R Z22 R R) (Jf R (Jb2 U39 R Z22 R R) ?_)))
 have f53:=f9.stp (S17.tr (S36.tr S52)) R R
 refine Jg R (Jc2 I22 R R (hvC (f53.ld 0 R R) R)) (Jg R (Jc2 I22 R R (hvC (f53.ld 2 R R) R)) (Jp1 (WA.fork2 (fuel:=5) 3 9 (by kernel_rfl) R ?_ ?_)))
 refine Jh R R R C114 (s_l1Copy_ok (κ:=fun b=>mp [] 0 (K35 b)) (Jl2 (f10.stp (S17.tr (S36.tr S52)) R R) (mp [] 0) R R) hx22) ?_
 rintro _ w55 ⟨k56,ab,aa,rfl,e57,f58⟩
 obtain⟨K59,S60,m61⟩:=Ji e57 6 R
 refine⟨(S60.cl R),?_⟩
 have f63:=f58.mx (no_int _) m61 R (R:6+2=8)
 refine Jp1 (Jq1 (fuel:=4) [(4,2)] (by kernel_rfl) (by kernel_rfl) R (Jf R (rn_build (parts:=[(0,.tmp 22)]) (cells:=[.slice ab x22.length aa,.slice none 0 0]) R R (by kernel_rfl)) (Jp1 (WA.fork2 (fuel:=3) 7 9 (by kernel_rfl) R ?_ ?_))))
 refine Jh R R R C114 (s_l1Copy_ok (κ:=fun b=>mp [] 0 (K59 b)) (Jl2 (f12.stp (S17.tr (S36.tr (S52.tr S60))) R R) (mp [] 0) R R) hx26) ?_
 rintro _ w65 ⟨k66,ac,ad,rfl,e67,f68⟩
 obtain⟨K69,S70,m71⟩:=Ji e67 9 R
 exact⟨((S60.tr S70).cl R),Jp1 (Jq1 (fuel:=0) [(8,2),(9,1),(10,1)] (by kernel_rfl) (by kernel_rfl) R (Jf R (rn_build (parts:=[(0,.tmp 23),(1,.tmp 26)]) (cells:=[.slice ab x22.length aa,.slice none 0 0,.slice ac x26.length ad]) R R (by kernel_rfl)) (Jg1 (κ:=K69) 12 R R R R R X39 R fun b6 w74 K75 S76 f77=>⟨((S60.tr (S70.tr S76)).cl R),Jj1 (κ:=K75) 12 (vc:=[.slice ab x22.length aa,.slice none 0 0,.slice ac x26.length ad]) R R R R R R R Z39 R R f77 R fun w78 S79 f80=>⟨((S60.tr (S70.tr (S76.tr S79))).cl R),Jp1 (Jr1 [] (by kernel_rfl) (by kernel_rfl) R (Jo (Jw1 _ ⟨(fun b=>ren [(8,6),(11,8),(12,9)] (K75 b)),b6,ab,aa,none,0,ac,ad,R,(Jy2 ((S52.tr (S60.tr (S70.tr (S76.tr S79)))).wk R) [(8,6),(11,8),(12,9)] R),((f63.stp (S70.tr (S76.tr S79)) R R).map (ren [(8,6),(11,8),(12,9)]) R R),Ow.nil,(((f68.mx (no_int _) m71 R (R:9+2=11)).stp (S76.tr S79) R R).map (ren [(8,6),(11,8),(12,9)]) R R),(f80.map (ren [(8,6),(11,8),(12,9)]) R R)⟩ (KM R))))⟩⟩)))⟩
 refine Jg1 (κ:=K59) 9 R R R R R X39 R fun b6 w83 K84 S85 f86=>⟨((S60.tr S85).cl R),Jp1 (Jq1 (fuel:=0) [(7,1),(8,2),(10,1)] (by kernel_rfl) (by kernel_rfl) R (Jh R R R C114 (s_l1Copy_ok (κ:=fun b=>mp [] 0 (K84 b)) (Jl2 (f12.stp (S17.tr (S36.tr (S52.tr (S60.tr S85)))) R R) (mp [] 0) R R) hx26) ?_))⟩
 rintro _ w88 ⟨k89,ac,ad,rfl,e90,f91⟩
 obtain⟨K92,S93,m94⟩:=Ji e90 10 R
 exact⟨((S60.tr (S85.tr S93)).cl R),Jf R (rn_build (parts:=[(0,.tmp 23),(1,.tmp 26)]) (cells:=[.slice ab x22.length aa,.slice none 0 0,.slice ac x26.length ad]) R R (by kernel_rfl)) (Jj1 (κ:=K92) 9 (vc:=[.slice ab x22.length aa,.slice none 0 0,.slice ac x26.length ad]) R R R R R R R Z39 R R (f86.stp S93 R R) R fun w98 S99 f100=>⟨((S60.tr (S85.tr (S93.tr S99))).cl R),Jp1 (Jr1 [] (by kernel_rfl) (by kernel_rfl) R (Jo (Jw1 _ ⟨(fun b=>ren [(8,6),(12,8)] (K92 b)),b6,ab,aa,none,0,ac,ad,R,(Jy2 ((S52.tr (S60.tr (S85.tr (S93.tr S99)))).wk R) [(8,6),(12,8)] R),((f63.stp (S85.tr (S93.tr S99)) R R).map (ren [(8,6),(12,8)]) R R),Ow.nil,(((f91.mx (no_int _) m94 R (R:10+2=12)).stp S99 R R).map (ren [(8,6),(12,8)]) R R),(f100.map (ren [(8,6),(12,8)]) R R)⟩ (KM R))))⟩)⟩
 refine Jg1 (κ:=K35) 6 R R R R R X39 R fun b6 w103 K104 S105 f106=>⟨(S105.cl R),Jp1 (Jq1 (fuel:=0) [(3,1),(4,2),(7,1),(8,2),(10,1)] (by kernel_rfl) (by kernel_rfl) R (Jh R R R C114 (s_l1Copy_ok (κ:=fun b=>mp [] 0 (K104 b)) (Jl2 (f10.stp (S17.tr (S36.tr (S52.tr S105))) R R) (mp [] 0) R R) hx22) ?_))⟩
 rintro _ w108 ⟨k109,ab,aa,rfl,e110,f111⟩
 obtain⟨K112,S113,m114⟩:=Ji e110 7 R
 refine⟨((S105.tr S113).cl R),Jf R (rn_build (parts:=[(0,.tmp 22)]) (cells:=[.slice ab x22.length aa,.slice none 0 0]) R R (by kernel_rfl)) (Jh R R R C114 (s_l1Copy_ok (κ:=fun b=>mp [] 0 (K112 b)) (Jl2 (f12.stp (S17.tr (S36.tr (S52.tr (S105.tr S113)))) R R) (mp [] 0) R R) hx26) ?_)⟩
 rintro _ w118 ⟨k119,ac,ad,rfl,e120,f121⟩
 obtain⟨K122,S123,m124⟩:=Ji e120 10 R
 have S001:=(S105.tr (S113.tr S123))
 exact⟨(S001.cl R),Jf R (rn_build (parts:=[(0,.tmp 23),(1,.tmp 26)]) (cells:=[.slice ab x22.length aa,.slice none 0 0,.slice ac x26.length ad]) R R (by kernel_rfl)) (Jj1 (κ:=K122) 6 (vc:=[.slice ab x22.length aa,.slice none 0 0,.slice ac x26.length ad]) R R R R R R R Z39 R R (f106.stp (S113.tr S123) R R) R fun w128 S129 f130=>⟨((S001.tr S129).cl R),Jp1 (Jr1 [] (by kernel_rfl) (by kernel_rfl) R (Jo (Jw1 _ ⟨(fun b=>ren [(9,6),(12,8),(6,9)] (K122 b)),b6,ab,aa,none,0,ac,ad,R,(Jy2 ((S52.tr (S105.tr (S113.tr (S123.tr S129)))).wk R) [(9,6),(12,8),(6,9)] R),(((f111.mx (no_int _) m114 R (R:7+2=9)).stp (S123.tr S129) R R).map (ren [(9,6),(12,8),(6,9)]) R R),Ow.nil,(((f121.mx (no_int _) m124 R (R:10+2=12)).stp S129 R R).map (ren [(9,6),(12,8),(6,9)]) R R),(f130.map (ren [(9,6),(12,8),(6,9)]) R R)⟩ (KM R))))⟩)⟩
 rintro _ w43 ⟨K44,b6,ah,af,an,aw,ai,ae,rfl,S45,f47,f48,f49,f50⟩
 refine Jp (Jq (Je [2] R (Jb 1 R ?_)))
 have hN133:(p1.length:Int)≤9223372036854775807:=g1.len_le
 refine Ob h fun q2 hq135 hK134=>?_
 clear h
 refine Jx1 (fun L w'=>∃κ',∃s3:(List (List Int)),∃ak aj,L=[(4,.pointer (some ⟨b4,0,none⟩)),(6,.pointer (some ⟨b6,0,none⟩))]∧Stp [7,9,12,13] K44 w43 κ' w'∧Oc (Ep.own E6 2) 22 κ' w' 7 ak aj s3∧Bc κ' w' 9 b6 39 [.slice ah (((⟨(⟨x22,([]:List (List Int))⟩:Arena),x26⟩:Parity).Arena).Owner).length af,.slice ak s3.length aj,.slice ai ((⟨(⟨x22,([]:List (List Int))⟩:Arena),x26⟩:Parity).Prio).length ae]∧q2=Sum.inr s3) ?_ ?_
 refine Jv (Jy1 (fun k L w'=>∃κ' v7,∃s1:(List (List Int)),∃ay ax,L=[(1,.slice a1 p1.length u1),(2,.pointer (some ⟨b2,0,none⟩)),(4,.pointer (some ⟨b4,0,none⟩)),(6,.pointer (some ⟨b6,0,none⟩)),(7,vi v7)]∧Stp [7,9,12,13] K44 w43 κ' w'∧Oc (Ep.own E6 2) 22 κ' w' 7 ay ax s1∧Bc κ' w' 9 b6 39 [.slice ah (((⟨(⟨x22,([]:List (List Int))⟩:Arena),x26⟩:Parity).Arena).Owner).length af,.slice ay s1.length ax,.slice ai ((⟨(⟨x22,([]:List (List Int))⟩:Arena),x26⟩:Parity).Prio).length ae]∧0≤v7∧Int.toNat ((p1.length:Int)-v7)=k∧cntM (s_OnlyBy_b0 p0 p1) k v7 s1=some q2) ⟨_,_,⟨K44,0,(((⟨(⟨x22,([]:List (List Int))⟩:Arena),x26⟩:Parity).Arena).Next:(List (List Int))),an,aw,R,(Jx2 _ _).wk R,f48,f50,(by decide),(by simp),hq135⟩,(KM R)⟩ ?_)
 rintro k _ w141 ⟨K142,v7,s1,ay,ax,rfl,S143,f144,f145,hj133,hJ133,h⟩
 rcases k with _ | k
 have hk146:=h;obtain⟨o133,h⟩:=ex_eq (Sum.inr (Sum.inl s1):(Parity×Bool)⊕(((List (List Int)))⊕((List (List Int)))))
 have hc133:decide (v7<(p1.length:Int))=false:=Jo2 (by omega)
 refine Jq (Je [2,2,2,2] R (Jn 2 R (Jf R (Je2 U22 R R) (Jb 1 R (Jw2 R hc133 (Jc1 (Jt (Jt ?_))))))))
 cases h
 have h:=hk146
 refine Jb1 ?_
 cases h
 exact Jw1 _ ⟨K142,(s1:(List (List Int))),ay,ax,R,S143.wk R,f144,f145,R⟩ (KM R)
 obtain⟨o133,h,hk146⟩:=BI h;unfold s_OnlyBy_b0 at h
 have hc133:decide (v7<(p1.length:Int))=true:=Jn2 (by omega)
 refine Jq (Je [2,2,2,2] R (Jn 2 R (Jf R (Je2 U22 R R) (Jb 1 R (Jv2 R hc133 (Js (Jp (Jq (Jv (Je [2,2,1,2,2,1,1,2] R (Jf R (Jb2 U39 R Z37 R R) (Jf R (Jb2 U37 R Z23 R R) (Jl tv R R R R (Jc2 I23 R R (hvE ((f9.stp (S17.tr (S36.tr (S45.tr S143))) R R).ld 1 R R))) (Jn 1 R (Ob h fun x38 hx38 h=>Jf R (Jf2 f11 hx38 U23 Z22 R R R R) ?_)))))))))))))))
 obtain⟨ax38,ux38,f149,hl150⟩:=(f11.stp (S17.tr (S36.tr (S45.tr S143))) R R).gSl hx38
 refine Jl tv R R R R (Jc2 I22 R R (hvE hl150)) (Ob h fun x40 hx40 h=>Jh R R R C114 (s_l1Copy_ok (κ:=fun b=>mp [] 0 (K142 b)) (Jl2 f149 (mp [] 0) R R) hx40) ?_)
 rintro _ w151 ⟨k152,aB,aD,rfl,e153,f154⟩
 obtain⟨K155,S156,m157⟩:=Ji e153 10 R
 refine⟨tv,Jb 1 R (Jq (Je [2,2,2,1,2] R (Jn 2 R (Ob h fun x43 hx43 h=>Jf R (Jf2 g1 hx43 U22 Z2 R R R R) ?_))))⟩
 have f160:=g1.stp (S3.tr (S7.tr (S17.tr (S36.tr (S45.tr (S143.tr S156)))))) R R
 refine Jl tv R R R R (Jc2 I2 R R (hvE (f160.gInt hx43))) (Jb 1 R (Ob h fun q4 h hK161=>Jx1 (fun L w'=>∃κ' al am,L=[(1,.slice a1 p1.length u1),(2,.pointer (some ⟨b2,0,none⟩)),(4,.pointer (some ⟨b4,0,none⟩)),(6,.pointer (some ⟨b6,0,none⟩)),(7,vi v7),(8,.slice al q4.length am)]∧Stp [13] K155 w151 κ' w'∧Oc E6 2 κ' w' 12 al am q4) ?_ ?_))
 revert h
 cases ht166:decide (0≤x43)
 refine JF fun h=>Jy R (Js ?_)
 cases h
 exact Jw1 _ ⟨K155,aB,aD,R,(Jx2 _ _).wk R,(f154.mx (no_int _) m157 R (R:10+2=12))⟩ (KM R)
 refine JT fun h=>Jx R (Ja [2,2,2,1,1,2] R (Jn 2 R (Ob h fun x48 hx48 h=>Jf R (Jf2 f160 hx48 U22 Z2 R R R R) (Jl tv R R R R (Jc2 I2 R R (hvE (f160.gInt hx48))) (Jn1 (κ:=K155) (E:=E6) 13 [] (parts:=[(0,.tmp 49)]) (cells:=[vi x48]) (xs:=([x48]:List Int)) R R R R R R Y22 Tryzinfo2 R R R R R R R R R R ⟨[vi x48],[],Zl K155 w151 [],Zl K155 w151 [],R,Zl.sp (l1:=[]) (l2:=[]) R,Zl.sr (l1:=[]) (l2:=[]),R,R⟩ fun aC aE w167 K168 S169 f170=>⟨tv,Jc 1 R ?_⟩)))))
 cases h
 exact Jw1 _ ⟨(fun b=>ren [(13,12)] (K168 b)),aC,aE,R,(Jy2 (S169.wk R) [(13,12)] R),(f170.map (ren [(13,12)]) R R)⟩ (KM R)
 rintro _ w162 ⟨K163,al,am,rfl,S164,f165⟩
 have h:=hK161
 refine Jp (Ja [2,2,1,2,1,1,2,2,1] R (Jf R (Jb2 U39 R Z37 R R) (Jf R (Jb2 U37 R Z23 R R) ?_)))
 have f171:=f145.stp (S156.tr S164) R R
 refine Jl tv R R R R (Jc2 I23 R R (hvE (f171.ld 1 R R))) (Jn 1 R (Jn1 (κ:=K163) (E:=(Ep.own E6 2)) 13 [12] (parts:=[(0,.tmp 54)]) (cells:=[.slice al q4.length am]) (xs:=([q4]:List (List Int))) R R R R R R Y23 Tryzinfo22 R R R R R R R R R R ⟨[.slice al q4.length am],[],Zl K163 w162 [12],Zl K163 w162 [],R,Zl.sp (l1:=[12]) (l2:=[]) R,Zl.sr (l1:=[12]) (l2:=[]),⟨_,_,R,f165⟩,R⟩ fun aG aF w172 K173 S174 f175=>⟨tv,Ob h fun x56 hx56 h=>Jm1 (κ:=K173) (E:=(Ep.own E6 2)) 7 [13] R R R R R R R R R Y23 Tryzinfo22 R R R R (f144.stp (S156.tr (S164.tr S174)) R R) f175.src (sy_one R) hx56 R fun aA az w177 K178 S179 f180=>⟨tv,Jf R (Jb2 U39 R Z37 R R) (Jf R (Jb2 U37 R Z23 R R) (Ji1 (κ:=K178) 9 (off:=1) (vc:=[.slice aA x56.length az]) (cs':=[.slice ah (((⟨(⟨x22,([]:List (List Int))⟩:Arena),x26⟩:Parity).Arena).Owner).length af,.slice aA x56.length az,.slice ai ((⟨(⟨x22,([]:List (List Int))⟩:Arena),x26⟩:Parity).Prio).length ae]) R R R R R R R Z23 R R (f171.stp (S174.tr S179) R R) R R fun w182 S183 f184=>⟨tv,Jo (Jz (Jp (Ja [2,2,2] R (Jc 3 R ?_))))⟩))⟩⟩))
 have hw133:IntKind.wrap .i64 (v7+1)=v7+1:=wr1 hj133 (Jm2 hc133) hN133
 rw[hw133]
 have hc133:=Jm2 hc133
 cases h
 exact Jz1 fun a ha=>⟨k,_,Ja3 _,⟨K178,v7+1,(x56:(List (List Int))),aA,az,R,(S143.tr (S156.tr (S164.tr (S174.tr (S179.tr S183))))).wk R,(f180.stp S183 R R),f184,by omega,by omega,hk146⟩,(ha.mm R)⟩
 rintro _ w136 ⟨K137,s3,ak,aj,rfl,S138,f139,f140,rfl⟩
 have h:=hK134
 dsimp only[aft]at h
 refine Jp (Je [1,1,2] R (Jl tv R R R R (Jd2 (cs:=[.slice ah (((⟨(⟨x22,([]:List (List Int))⟩:Arena),x26⟩:Parity).Arena).Owner).length af,.slice ak s3.length aj,.slice ai ((⟨(⟨x22,([]:List (List Int))⟩:Arena),x26⟩:Parity).Prio).length ae]) I39 Z39 R R R (haE f140.cells)) (Jj1 (κ:=K137) 3 (vc:=[.slice ah (((⟨(⟨x22,([]:List (List Int))⟩:Arena),x26⟩:Parity).Arena).Owner).length af,.slice ak s3.length aj,.slice ai ((⟨(⟨x22,([]:List (List Int))⟩:Arena),x26⟩:Parity).Prio).length ae]) R R R R R R R Z39 R R (f8.stp (S17.tr (S36.tr (S45.tr S138))) R R) R fun w187 S188 f189=>⟨tv,Jb 1 R (Ju (Ja2 (l:=[.cell 4 39,.tmp 5]) V124 (res_cellA R f189 I39 Z39 R (Jp2 R R)) R ?_))⟩)))
 cases h
 exact⟨(fun b=>ren [(6,2),(7,3),(8,4)] (K137 b)),ah,af,ak,aj,ai,ae,R,((hE.stp (S3.tr (S7.tr (S17.tr (S36.tr (S45.tr (S138.tr S188)))))) R R).map (ren [(6,2),(7,3),(8,4)]) R R),((f47.stp (S138.tr S188) R R).map (ren [(6,2),(7,3),(8,4)]) R R),((f139.stp S188 R R).map (ren [(6,2),(7,3),(8,4)]) R R),((f49.stp (S138.tr S188) R R).map (ren [(6,2),(7,3),(8,4)]) R R)⟩
 refine JT fun h=>Jx R (Je [2,1,2] R (Jf R (rn_build (parts:=[]) (cells:=[.slice none 0 0,.slice none 0 0,.slice none 0 0]) R R (by kernel_rfl)) (Jj1 (κ:=K35) 3 (vc:=[.slice none 0 0,.slice none 0 0,.slice none 0 0]) R R R R R R R Z39 R R (f8.stp (S17.tr S36) R R) R fun w39 S40 f41=>⟨tv,Jb 1 R (Ju (Jw (Ja2 (l:=[.cell 4 39,.tmp 5]) V124 (res_cellA R f41 I39 Z39 R (Jp2 R R)) R ?_)))⟩)))
 cases h
 exact⟨K35,none,0,none,0,none,0,R,(hE.stp (S3.tr (S7.tr (S17.tr (S36.tr S40)))) R R),Ow.nil,Ow.nil,Ow.nil⟩
theorem s_l7Pick_ok {w:World}{κ:Col}{ak ac ae ah af aj ad ai ab aa}{p0:l7Game}{a1 u1}{p1:(List Bool)}{p2:Int}(g0_0:Rd (Rp.int .i64) κ w 0 ak ac p0.owner) (g0_1:Rd (Rp.int .i64) κ w 0 ae ah p0.prio) (g0_2:Rd (Rp.sl (Rp.int .i64)) κ w 0 af aj p0.next) (g0_3:Rd (Rp.sl (Rp.int .i64)) κ w 0 ad ai p0.prev) (g0_4:Oc E6 2 κ w 2 ab aa p0.pick) (g1:Rd Rp.bool κ w 0 a1 u1 p1){r:Int×(List Int)}(h:s_l7Pick p0 p1 p2=some r):Ret Tryz.prog 100 [.agg #[.slice ak p0.owner.length ac,.slice ae p0.prio.length ah,.slice af p0.next.length aj,.slice ad p0.prev.length ai,.slice ab p0.pick.length aa],.slice a1 p1.length u1,vi p2] w (fun v w'=>∃(κ':Col),v=vi r.1∧Ent κ w κ' w'∧Oc E6 2 κ' w' 2 ab aa r.2∧p0.pick.length=r.2.length):=by
 unfold s_l7Pick at h
 refine Ret.enter F100 R N100 R ?_
 dsimp only[envOf]
 have hE:=Ent.refl κ w
 refine Je [1,2] R (Jf1 (κ:=κ) 3 R R R R R R R fun b3 w1 K2 S3 f4=>⟨tv,Jb 1 R (Jq (Je [2] R (Jb 1 R (Ob h fun q2 hq7 hK6=>?_))))⟩)
 clear h
 refine Jx1 (fun L w'=>∃κ',∃s3:Int×(List Int),L=[]∧Stp [2] K2 w1 κ' w'∧Oc E6 2 κ' w' 2 ab aa s3.2∧p0.pick.length=s3.2.length∧q2=Sum.inr s3) ?_ ?_
 refine Jv (Jy1 (fun k L w'=>∃κ',∃s1:Int×(List Int),L=[(1,.slice a1 p1.length u1),(2,vi p2),(3,.pointer (some ⟨b3,0,none⟩)),(7,vi s1.1)]∧Stp [2] K2 w1 κ' w'∧Oc E6 2 κ' w' 2 ab aa s1.2∧p0.pick.length=s1.2.length∧whileM (s_l7Pick_b0 p0 p1 p2) k s1=some q2) ⟨_,_,⟨K2,((0:Int),(p0.pick:(List Int))),R,(Jx2 _ _).wk R,(g0_4.stp S3 R R),R,hq7⟩,(KM R)⟩ ?_)
 rintro k _ w13 ⟨K14,s1,rfl,S15,f16,hn17,h⟩
 rcases k with _ | k
 cases h
 obtain⟨o5,h,hk19⟩:=BI h;unfold s_l7Pick_b0 at h
 refine Jq (Je [2,2,1,2,2,1,2,2] R (Jn 1 R (Jf R (Jb2 U111 R Z23 R R) ?_)))
 have f20:=f4.stp S15 R R
 refine Jl tv R R R R (Jc2 I23 R R (hvE (f20.ld 2 R R))) (Jn 1 R (Ob h fun x13 hx13 h=>Jf R (Jf2 g0_2 hx13 U23 Z22 R R R R) ?_))
 have f21:=g0_2.stp (S3.tr S15) R R
 obtain⟨ax13,ux13,f22,hl23⟩:=f21.gSl hx13
 refine Jl tv R R R R (Jc2 I22 R R (hvE hl23)) (Jf R (Je2 U22 R R) (Jb 1 R ?_))
 revert h
 cases ht24:decide (s1.1<(x13.length:Int))
 refine JF fun h=>Jy R (Jc1 (Jt (Jt ?_)))
 cases h
 have h:=hk19
 refine Jb1 ?_
 cases h
 exact Jw1 _ ⟨K14,((s1.1:Int),(s1.2:(List Int))),R,S15.wk R,f16,hn17,R⟩ KN
 refine JT fun h=>Jx R (Js (Jp (Jq (Jv (Je [2,1,2,2,1,2,2,1,2] R (Jf R (Jb2 U111 R Z23 R R) (Jl tv R R R R (Jc2 I23 R R (hvE (f20.ld 2 R R))) (Jn 1 R (Ob h fun x22 hx22 h=>Jf R (Jf2 f21 hx22 U23 Z22 R R R R) ?_)))))))))
 obtain⟨ax22,ux22,f25,hl26⟩:=f21.gSl hx22
 refine Jl tv R R R R (Jc2 I22 R R (hvE hl26)) (Jn 1 R (Ob h fun x25 hx25 h=>Jf R (Jf2 f25 hx25 U22 Z2 R R R R) (Jl tv R R R R (Jc2 I2 R R (hvE (f25.gInt hx25))) (Jb 1 R (Jq (Je [2,2,2,1,2] R (Jn 2 R (Ob h fun x29 hx29 h=>Jf R (Jf2 g1 hx29 U70 Z4 R R R R) ?_))))))))
 have f27:=g1.stp (S3.tr S15) R R
 refine Jl tv R R R R (Jc2 I4 R R (hvE (f27.gBool hx29))) (Jb 1 R ?_)
 revert h
 cases ht28:(!x29)
 refine JF fun h=>Jy R (Js (Jp (Je [2,1,2,2,2,1] R (Jf R (Jb2 U111 R Z22 R R) (Jl tv R R R R (Jc2 I22 R R (hvE (f20.ld 4 R R))) (Jn 2 R (Ob h fun x36 hx36 h=>Jf R (Jf2 f16.rdc hx36 U22 Z2 R R hn17 R) (Ob h fun y228 hy228 h=>Jk1 (κ:=K14) (E:=E6) 2 [] R R R R R R R R Z2 R R R R f16 hy228 fun w29 K30 S31 f32=>⟨tv,?_⟩))))))))
 have hn33:p0.pick.length=y228.length:=hn17.trans (Jt2 hy228).2.2.2.symm
 refine Jd (Jq (Js1 (κ:=K30) [0,3] none [(1,2),(2,2),(4,2),(0,0),(3,0),(5,2),(6,0),(7,1)] [] (by kernel_rfl) (by kernel_rfl) fun w35 S34=>Jn 1 R (Jf R (Jb2 U111 R Z22 R R) (Jn 1 R ?_))))
 have f36:=f20.stp (S31.tr S34) R R
 refine Jg R (Jd2 (cs:=[.slice ak p0.owner.length ac,.slice ae p0.prio.length ah,.slice af p0.next.length aj,.slice ad p0.prev.length ai,.slice ab p0.pick.length aa]) I111 Z111 R R R (haC f36.cells R)) (Jg R (Jc2 I22 R R (hvC (f36.ld 0 R R) R)) (Ob h fun x42 hx42 h=>Jf R (Jf2 g0_0 hx42 U22 Z2 R R R R) ?_))
 have f37:=g0_0.stp (S3.tr (S15.tr (S31.tr S34))) R R
 refine Jg R (Jc2 I2 R R (hvC (f37.gInt hx42) R)) (Ob h fun x44 hx44 h=>?_)
 have f41:=f32.stp S34 R R
 have S001:=(S3.tr (S15.tr (S31.tr S34)))
 refine Jh R R R C129 (Ret.cast (by simp only[hn33,List.cons_append,List.nil_append]) (s_l7Holds_ok (κ:=fun b=>mp [] 0 (K30 b)) (p0:=(⟨p0.owner,p0.prio,p0.next,p0.prev,y228⟩:l7Game)) (Jl2 f37 (mp [] 0) R R) (Jl2 (g0_1.stp S001 R R) (mp [] 0) R R) (Jl2 (f21.stp (S31.tr S34) R R) (mp [] 0) R R) (Jl2 (g0_3.stp S001 R R) (mp [] 0) R R) (Jl2 f41.rdc (mp [] 0) R R) (Jl2 (f27.stp (S31.tr S34) R R) (mp [] 0) R R) hx44)) ?_
 rintro _ w43 ⟨k44,rfl,e45⟩
 obtain⟨K46,S47,m48⟩:=Ji e45 4 R
 refine⟨(S47.cl R),Jt1 (Jd ?_)⟩
 revert h
 cases ht50:x44
 refine JF fun h=>Jy R (Js (Jz (Jp (Ja [2,2,2] R (Jc 3 R ?_)))))
 cases h
 exact Jz1 fun a ha=>⟨k,_,Ja3 _,⟨K46,(((IntKind.i64.wrap (s1.1+1)):Int),(y228:(List Int))),R,(S15.tr (S31.tr (S34.tr S47))).wk R,(f41.stp S47 R R),hn33,hk19⟩,(ha.mm R)⟩
 refine JT fun h=>Jx R (Je [2,2] R (Jb 2 R (Ju (Ja1 (Jw (Jw ?_))))))
 cases h
 obtain rfl:=Option.some.inj hk19
 have h:=hK6
 dsimp only[aft]at h
 refine Ja1 (Jq2 (Jw (Ja2 (l:=[.tmp 6]) V100 (Jp2 R R) R ?_)))
 cases h
 exact⟨K46,R,(hE.stp (S3.tr (S15.tr (S31.tr (S34.tr S47)))) R R),(f41.stp S47 R R),hn33⟩
 refine JT fun h=>Jx R (Jc1 (Jt (Jb1 (Jp (Ja [2,2,2] R (Jc 3 R ?_))))))
 cases h
 exact Jz1 fun a ha=>⟨k,_,Ja3 _,⟨K14,(((IntKind.i64.wrap (s1.1+1)):Int),(s1.2:(List Int))),R,S15.wk R,f16,hn17,hk19⟩,(ha.mm R)⟩
 rintro _ w8 ⟨K9,s3,rfl,S10,f11,hn12,rfl⟩
 have h:=hK6
 dsimp only[aft]at h
 refine Jp (Je [2] R (Jb 1 R (Ju (Ja2 (l:=[.tmp 6]) V100 (Jp2 R R) R ?_))))
 cases h
 exact⟨K9,R,(hE.stp (S3.tr S10) R R),f11,hn12⟩
theorem s_l6Right_ok {w:World}{κ:Col}{aa ad ab ac ae af}{p0:Parity}{p1:Int}{a2 u2}{p2:(List Int)}{a3 u3}{p3:(List Int)}(g0_0_0:Rd (Rp.int .i64) κ w 0 aa ad p0.Arena.Owner) (g0_0_1:Rd (Rp.sl (Rp.int .i64)) κ w 0 ab ac p0.Arena.Next) (g0_1:Rd (Rp.int .i64) κ w 0 ae af p0.Prio) (g2:Rd (Rp.int .i64) κ w 0 a2 u2 p2) (g3:Rd (Rp.int .i64) κ w 0 a3 u3 p3){r:Bool}(h:s_l6Right p0 p1 p2 p3=some r):Ret Tryz.prog 133 [.agg #[.slice aa p0.Arena.Owner.length ad,.slice ab p0.Arena.Next.length ac,.slice ae p0.Prio.length af],vi p1,.slice a2 p2.length u2,.slice a3 p3.length u3] w (fun v w'=>∃(κ':Col),v= .bool r∧Ent κ w κ' w'):=by
 unfold s_l6Right at h
 refine Ret.enter F133 R N133 R ?_
 dsimp only[envOf]
 have hE:=Ent.refl κ w
 refine Je [1,2] R (Jf1 (κ:=κ) 2 R R R R R R R fun b4 w1 K2 S3 f4=>⟨tv,Jb 1 R (Je [1,1,2,2,1,2,2,1,2,2,1,2,1,2,2] R (Jl tv R R R R (Jd2 (cs:=[.slice aa p0.Arena.Owner.length ad,.slice ab p0.Arena.Next.length ac,.slice ae p0.Prio.length af]) I39 Z39 R R R (haE f4.cells)) (Ob h fun x10 hx10 h=>?_)))⟩)
 have f5:=g0_0_0.stp S3 R R
 have f6:=g0_0_1.stp S3 R R
 have f7:=g0_1.stp S3 R R
 refine Jh R R R C55 (s_ParityOk_ok (κ:=fun b=>mp [] 0 (K2 b)) (p0:=p0) (Jl2 f5 (mp [] 0) R R) (Jl2 f6 (mp [] 0) R R) (Jl2 f7 (mp [] 0) R R) hx10) ?_
 rintro _ w8 ⟨k9,rfl,e10⟩
 obtain⟨K11,S12,m13⟩:=Ji e10 3 R
 refine⟨tv,Jn 1 R (Ob h fun p17 h hK15=>Ju1 [(3,2),(4,1),(5,2),(6,2),(7,1),(8,2)] [(9,2),(10,1),(11,2),(12,1),(13,2),(14,2)] (fun L w'=>L=[(2,.slice a2 p2.length u2),(4,.pointer (some ⟨b4,0,none⟩)),(8,.bool false),(17,.bool p17)]∧∃κ',Stp [] K11 w8 κ' w') tv ?_ ?_)⟩
 revert h
 cases ht16:x10
 refine JF fun h=>Jn 1 R (Jd1 R R R R (Jn 2 R (Jd1 R R R R (Jn 1 R ?_))))
 cases h
 exact Jv1 _ tv ⟨R,_,(Jx2 _ _).wk R⟩ (KM R)
 refine JT fun h=>Jf R (Jb2 U39 R Z37 R R) (Jl tv R R R R (Jd2 (cs:=[.slice aa p0.Arena.Owner.length ad,.slice ab p0.Arena.Next.length ac]) I37 Z37 R R R (haE ((f4.stp S12 R R).lds 0 2 R))) (Jn 2 R (Ob h fun x16 hx16 h=>Jh R R R C135 (s_PlanOk_ok (κ:=fun b=>mp [] 0 (K11 b)) (p0:=p0.Arena) (Jl2 (f5.stp S12 R R) (mp [] 0) R R) (Jl2 (f6.stp S12 R R) (mp [] 0) R R) (Jl2 (g3.stp (S3.tr S12) R R) (mp [] 0) R R) hx16) ?_)))
 rintro _ w21 ⟨k22,rfl,e23⟩
 obtain⟨K24,S25,m26⟩:=Ji e23 5 R
 refine⟨tv,Jn 1 R ?_⟩
 cases h
 exact Jv1 _ tv ⟨R,_,S25.wk R⟩ (KM R)
 rintro _ w28 _ ⟨rfl,K29,S30⟩
 have h:=hK15
 refine Jn 1 R (Ob h fun p22 h hK31=>Ju1 [(10,1),(11,2),(12,1),(13,2)] [(14,2)] (fun L w'=>L=[(8,.bool false),(22,.bool p22)]∧∃κ',Stp [] K29 w28 κ' w') tv ?_ ?_)
 revert h
 cases ht32:p17
 refine JF fun h=>Jd1 R R R R (Jn 1 R (Jd1 R R R R (Jn 1 R ?_)))
 cases h
 exact Jv1 _ tv ⟨R,_,(Jx2 _ _).wk R⟩ (KM R)
 have S001:=(S12.tr S30)
 refine JT fun h=>Jl tv R R R R (Jd2 (cs:=[.slice aa p0.Arena.Owner.length ad,.slice ab p0.Arena.Next.length ac,.slice ae p0.Prio.length af]) I39 Z39 R R R (haE (f4.stp S001 R R).cells)) (Jn 1 R (Ob h fun x21 hx21 h=>Jh R R R C155 (s_l4Set_ok (κ:=fun b=>mp [] 0 (K29 b)) (p0:=p0) (Jl2 (f5.stp S001 R R) (mp [] 0) R R) (Jl2 (f6.stp S001 R R) (mp [] 0) R R) (Jl2 (f7.stp S001 R R) (mp [] 0) R R) (Jl2 (g2.stp (S3.tr (S12.tr S30)) R R) (mp [] 0) R R) hx21) ?_))
 rintro _ w38 ⟨k39,rfl,e40⟩
 obtain⟨K41,S42,m43⟩:=Ji e40 5 R
 refine⟨tv,Jn 1 R ?_⟩
 cases h
 exact Jv1 _ tv ⟨R,_,S42.wk R⟩ (KM R)
 rintro _ w45 _ ⟨rfl,K46,S47⟩
 have h:=hK31
 refine Jb 1 R (Ju (Ja2 (l:=[.tmp 8]) V133 (Jp2 R R) R ?_))
 cases h
 exact⟨K46,R,(hE.stp (S3.tr (S12.tr (S30.tr S47))) R R)⟩
theorem s_LessOf_ok {w:World}{κ:Col}{a0 u0}{p0:(List Int)}{a1 u1}{p1:(List Int)}(g0:Rd (Rp.int .i64) κ w 0 a0 u0 p0) (g1:Rd (Rp.int .i64) κ w 0 a1 u1 p1){r:(List Int)}(h:s_LessOf p0 p1=some r):Ret Tryz.prog 67 [.slice a0 p0.length u0,.slice a1 p1.length u1] w (fun v w'=>∃(κ':Col) (ra0:Option Addr) (ru0:Nat),v= .slice ra0 r.length ru0∧Ent κ w κ' w'∧Oc E6 2 κ' w' 2 ra0 ru0 r):=by
 unfold s_LessOf at h
 refine Ret.enter F67 R N67 R ?_
 dsimp only[envOf]
 have hE:=Ent.refl κ w
 refine Je [2] R (Jb 1 R (Je [1,2] R (Jo1 (κ:=κ) (E:=E6) 2 R R R R R Y22 Tryzinfo2 R fun a7 u7 w1 K2 S3 f4=>⟨tv,Jb 1 R (Jq (Je [2,2,1,2] R (Jn 2 R (Ob h fun x10 hx10 h=>?_))))⟩)))
 have f5:=g0.stp S3 R R
 have f6:=g1.stp S3 R R
 refine Jh R R R C66 (s_l2Both_ok (κ:=fun b=>mp [] 0 (K2 b)) (Jl2 f5 (mp [] 0) R R) (Jl2 f6 (mp [] 0) R R) hx10) ?_
 rintro _ w7 ⟨k8,rfl,e9⟩
 obtain⟨K10,S11,m12⟩:=Ji e9 3 R
 refine⟨tv,Jb 1 R ?_⟩
 revert h
 cases ht14:(!x10)
 refine JF fun h=>Jy R (Js (Jp (Jq (Je [2] R (Jb 1 R ?_)))))
 have hN17:(p0.length:Int)≤9223372036854775807:=f5.len_le
 refine Ob h fun q2 hq19 hK18=>?_
 clear h
 refine Jx1 (fun L w'=>∃κ',∃s3:(List Int),∃ae ad,L=[(5,.slice ae s3.length ad)]∧Stp [2] K10 w7 κ' w'∧Oc E6 2 κ' w' 2 ae ad s3∧q2=Sum.inr s3) ?_ ?_
 refine Jv (Jy1 (fun k L w'=>∃κ' v6,∃s1:(List Int),∃ab aa,L=[(0,.slice a0 p0.length u0),(1,.slice a1 p1.length u1),(5,.slice ab s1.length aa),(6,vi v6)]∧Stp [2] K10 w7 κ' w'∧Oc E6 2 κ' w' 2 ab aa s1∧0≤v6∧Int.toNat ((p0.length:Int)-v6)=k∧cntM (s_LessOf_b0 p0 p1) k v6 s1=some q2) ⟨_,_,⟨K10,0,(([]:List Int):(List Int)),a7,u7,R,(Jx2 _ _).wk R,(f4.stp S11 R R),(by decide),(by simp),hq19⟩,(KM R)⟩ ?_)
 rintro k _ w24 ⟨K25,v6,s1,ab,aa,rfl,S26,f27,hj17,hJ17,h⟩
 rcases k with _ | k
 have hk29:=h;obtain⟨o17,h⟩:=ex_eq (Sum.inr (Sum.inl s1):(List Int)⊕(((List Int))⊕((List Int))))
 have hc17:decide (v6<(p0.length:Int))=false:=Jo2 (by omega)
 refine Jq (Je [2,2,2,2] R (Jn 2 R (Jf R (Je2 U22 R R) (Jb 1 R (Jw2 R hc17 (Jc1 (Jt (Jt ?_))))))))
 cases h
 have h:=hk29
 refine Jb1 ?_
 cases h
 exact Jw1 _ ⟨K25,(s1:(List Int)),ab,aa,R,S26.wk R,f27,R⟩ (KM R)
 obtain⟨o17,h,hk29⟩:=BI h;unfold s_LessOf_b0 at h
 have hc17:decide (v6<(p0.length:Int))=true:=Jn2 (by omega)
 refine Jq (Je [2,2,2,2] R (Jn 2 R (Jf R (Je2 U22 R R) (Jb 1 R (Jv2 R hc17 (Js (Jp (Jq (Jv (Je [2,2,2,2,1,1,2] R (Jn 3 R (Ob h fun x22 hx22 h=>Jf R (Jf2 f5 hx22 U22 Z2 R R R R) ?_))))))))))))
 have f30:=f5.stp (S11.tr S26) R R
 refine Jl tv R R R R (Jc2 I2 R R (hvE (f30.gInt hx22))) (Ob h fun x24 hx24 h=>Jh R R R C103 (s_l1Has_ok (κ:=fun b=>mp [] 0 (K25 b)) (Jl2 (f6.stp (S11.tr S26) R R) (mp [] 0) R R) hx24) ?_)
 rintro _ w32 ⟨k33,rfl,e34⟩
 obtain⟨K35,S36,m37⟩:=Ji e34 5 R
 refine⟨tv,Jb 1 R (Ob h fun q4 h hK39=>Jx1 (fun L w'=>∃κ' af ac,L=[(0,.slice a0 p0.length u0),(1,.slice a1 p1.length u1),(5,.slice af q4.length ac),(6,vi v6)]∧Stp [2] K35 w32 κ' w'∧Oc E6 2 κ' w' 2 af ac q4) ?_ ?_)⟩
 revert h
 cases ht44:(!x24)
 refine JF fun h=>Jy R (Js ?_)
 cases h
 exact Jw1 _ ⟨K35,ab,aa,R,(Jx2 _ _).wk R,(f27.stp S36 R R)⟩ (KM R)
 refine JT fun h=>Jx R (Ja [2,2,2,2,1,1,1,2] R (Jn 3 R (Ob h fun x29 hx29 h=>Jf R (Jf2 f30 hx29 U22 Z2 R R R R) (Jl tv R R R R (Jc2 I2 R R (hvE ((f30.stp S36 R R).gInt hx29))) (Jn1 (κ:=K35) (E:=E6) 7 [] (parts:=[(0,.tmp 30)]) (cells:=[vi x29]) (xs:=([x29]:List Int)) R R R R R R Y22 Tryzinfo2 R R R R R R R R R R ⟨[vi x29],[],Zl K35 w32 [],Zl K35 w32 [],R,Zl.sp (l1:=[]) (l2:=[]) R,Zl.sr (l1:=[]) (l2:=[]),R,R⟩ fun ak aj w46 K47 S48 f49=>⟨tv,Ob h fun x32 hx32 h=>Jm1 (κ:=K47) (E:=E6) 2 [] R R R R R R R R R Y22 Tryzinfo2 R R R R (f27.stp (S36.tr S48) R R) (Sl.srcP (pu_int _) f49.rdc) sy_false hx32 R fun ai ah w51 K52 S53 f54=>⟨tv,Jc 1 R ?_⟩⟩)))))
 cases h
 exact Jw1 _ ⟨K52,ai,ah,R,(S48.tr S53).wk R,f54⟩ (KM R)
 rintro _ w40 ⟨K41,af,ac,rfl,S42,f43⟩
 have h:=hK39
 refine Jz (Jp (Ja [2,2,2] R (Jc 3 R ?_)))
 have hw17:IntKind.wrap .i64 (v6+1)=v6+1:=wr1 hj17 (Jm2 hc17) hN17
 rw[hw17]
 have hc17:=Jm2 hc17
 cases h
 exact Jz1 fun a ha=>⟨k,_,Ja3 _,⟨K41,v6+1,(q4:(List Int)),af,ac,R,(S26.tr (S36.tr S42)).wk R,f43,by omega,by omega,hk29⟩,(ha.mm R)⟩
 rintro _ w20 ⟨K21,s3,ae,ad,rfl,S22,f23,rfl⟩
 have h:=hK18
 dsimp only[aft]at h
 refine Jp (Je [2,2] R (Jb 2 R (Ju (Ja2 (l:=[.tmp 4]) V67 (Jp2 R R) R ?_))))
 cases h
 exact⟨K21,ae,ad,R,(hE.stp (S3.tr (S11.tr S22)) R R),f23⟩
 refine JT fun h=>Jx R (Je [2,2] R (Jb 2 R (Ju (Jw (Ja2 (l:=[.tmp 4]) V67 (Jp2 R R) R ?_)))))
 cases h
 exact⟨K10,a7,u7,R,(hE.stp (S3.tr S11) R R),(f4.stp S11 R R)⟩
end Go.Proofs.YtmiilifclnanlaaGreat
