/- The walks, part 11. By program. -/
import Derived.Test.YtpcjbkgbnoocaaaGreatFns10EI
set_option linter.unusedVariables false
set_option linter.unusedSimpArgs false
open Go.IntKind renaming wrap → t5
open Sum renaming inr → t9
open Int renaming toNat → vH
namespace Go.Proofs.YtpcjbkgbnoocaaaGreat
open Go Go.Wk Go.Proofs
set_option maxRecDepth 100000
set_option maxHeartbeats 1000000
theorem mM {w:World}{κ:Col}{a0 u0}{p0:(List Pair)}{p1:Int}(g0:Rd Pair.rp κ w 0 a0 u0 p0){r:Bool}(h:iP p0 p1=some r):Ret Tryz.prog 120 [.slice a0 p0.length u0,vi p1] w (λv w'=>∃(κ':Col),v= .bool r/\Ent κ w κ' w'):=by
 unfold iP at h
 refine Ret.enter F120 R N120 R ?_
 dsimp only[envOf]
 have hE:=Ent.refl κ w
 refine Je3 R (Jq (Jg3 [2,1,2,2,2,2,2,2] 1 R (Ob h λx7 hx7 h=>Jh R R R C57 (cO (κ:=Mk κ) hx7) ?_)))
 rintro _ w1 ⟨k2,rfl,e3⟩
 obtain⟨K4,S5,m6⟩:=Ji e3 2 R
 refine⟨tv,Jn 2 R (Ob h λp13 h hK8=>Ju1 [(4,2),(5,2),(6,2),(7,2)] [] (λL w'=>L=[(0,.slice a0 p0.length u0),(1,vi p1),(13,.bool p13)]/\∃κ',Stp [] K4 w1 κ' w') tv ?_ ?_)⟩
 revert h
 cases ht9:(!x7)
 refine JF λh=>Jn 1 R (Jf R (Je2 U98 R R) (Jn 2 R ?_))
 cases h
 exact Jv1 _ tv ⟨R,_,Jj3⟩ (KM R)
 refine JT λh=>Jn 4 R ?_
 cases h
 exact Jv1 _ tv ⟨R,_,Jj3⟩ (KM R)
 rintro _ w10 _ ⟨rfl,K11,S12⟩
 have h:=hK8
 refine Jd ?_
 revert h
 cases ht13:p13
 refine JF λh=>Jy R (Js (Jp (Jq (Je3 R ?_))))
 have hN15:(p0.length:Int)<=9223372036854775807:=g0.len_le
 refine Ob h λq2 hq17 hK16=>?_
 clear h
 refine Jx1 (λL w'=>∃κ',L=[]/\Stp [] K11 w10 κ' w'/\q2=t9 ()) ?_ ?_
 refine Jv (Jy1 (λk L w'=>∃κ' v5,L=[(0,.slice a0 p0.length u0),(1,vi p1),(5,vi v5)]/\Stp [] K11 w10 κ' w'/\0<=v5/\vH ((p0.length:Int)-v5)=k/\cntM (go p0 p1) k v5 ()=some q2) ⟨_,_,⟨K11,0,R,Jj3,(by decide),(by simp),hq17⟩,(KM R)⟩ ?_)
 rintro k _ w21 ⟨K22,v5,rfl,S23,hj15,hJ15,h⟩
 rcases k with _ | k
 have hk24:=h;obtain⟨o15,h⟩:=bO (t9 (Sum.inl ()):Bool⊕((Unit)⊕(Unit)))
 have hc15:decide (v5<(p0.length:Int))=false:=Jo2 (by omega)
 refine Jq (Jg3 [2,2,2,2] 2 R (Jf R (Je2 U98 R R) (Jb 1 R (Jw2 R hc15 (Jc1 (Jt (Jt ?_)))))))
 cases h
 have h:=hk24
 refine Jb1 ?_
 cases h
 exact Jw1 _ ⟨K22,R,S23.wk R,R⟩ KN
 obtain⟨o15,h,hk24⟩:=BI h;unfold go at h
 have hc15:decide (v5<(p0.length:Int))=true:=Jn2 (by omega)
 refine Jq (Jg3 [2,2,2,2] 2 R (Jf R (Je2 U98 R R) (Jb 1 R (Jv2 R hc15 (Js (Jp (Jq (Jv (Jg3 [2,2,2,2,1,2,1,2,2,2,2,2,2,1,2,1,2,2] 2 R (Ob h λx22 hx22 h=>Jc3 R g0 hx22 U98 Z154 (Jd3 R U154 R Z29 ?_)))))))))))
 have f25:=g0.stp (S5.tr (S12.tr S23)) R R
 obtain⟨cse26,hre26,hle26⟩:=(f25).gSt hx22
 obtain⟨ae26_0,ue26_0,ae26_1,ue26_1,rfl,fe26_0,fe26_1⟩:=Pair.un hre26
 refine Jb3 R I29 (λw' hw'=>hle26 w' hw' 0 _ R) (Jn 1 R (Ob h λx26 hx26 h=>Jh R R R C170 (ml (κ:=Mk K22) (Ji3 fe26_0) hx26) ?_))
 rintro _ w27 ⟨k28,rfl,e29⟩
 obtain⟨K30,S31,m32⟩:=Ji e29 4 R
 refine⟨tv,Jn 2 R (Ob h λp37 h hK34=>Ju1 [(9,2),(10,2),(11,2),(12,2),(13,1),(14,2),(15,1),(16,2),(17,2)] [] (λL w'=>L=[(0,.slice a0 p0.length u0),(1,vi p1),(5,vi v5),(37,.bool p37)]/\∃κ',Stp [] K30 w27 κ' w') tv ?_ ?_)⟩
 revert h
 cases ht35:(!x26)
 refine JF λh=>Jn 2 R (Ob h λx31 hx31 h=>Jc3 R f25 hx31 U98 Z154 (Jd3 R U154 R Z29 ?_))
 obtain⟨cse37,hre37,hle37⟩:=((f25.stp S31 R R)).gSt hx31
 obtain⟨ae37_0,ue37_0,ae37_1,ue37_1,rfl,fe37_0,fe37_1⟩:=Pair.un hre37
 refine Jb3 R I29 (λw' hw'=>hle37 w' hw' 1 _ R) (Jn 1 R (Ob h λx35 hx35 h=>Jh R R R C170 (ml (κ:=Mk K30) (Ji3 fe37_1) hx35) ?_))
 rintro _ w38 ⟨k39,rfl,e40⟩
 obtain⟨K41,S42,m43⟩:=Ji e40 6 R
 refine⟨tv,Jn 2 R ?_⟩
 cases h
 exact Jv1 _ tv ⟨R,_,S42.wk R⟩ (KM R)
 refine JT λh=>Jn 4 R (Jd1 R R R R (Jn 1 R (Jd1 R R R R (Jn 2 R ?_))))
 cases h
 exact Jv1 _ tv ⟨R,_,Jj3⟩ (KM R)
 rintro _ w45 _ ⟨rfl,K46,S47⟩
 have h:=hK34
 refine Jd ?_
 revert h
 cases ht48:p37
 refine JF λh=>Jy R (Js (Jz (Jp (Jf3 R ?_))))
 have hw15:t5 .i64 (v5+1)=v5+1:=wr1 hj15 (Jm2 hc15) hN15
 rw[hw15]
 have hc15:=Jm2 hc15
 cases h
 exact Jz1 λa ha=>⟨k,_,Ja3 _,⟨K46,v5+1,R,(S23.tr (S31.tr S47)).wk R,by omega,by omega,hk24⟩,(ha.mm R)⟩
 refine JT λh=>Jx R (Je3 R (Ju (Ja1 (Jw (Jw ?_)))))
 cases h
 obtain rfl:=Option.some.inj hk24
 have h:=hK16
 dsimp only[aft]at h
 refine Ja1 (Jq2 (Jw (Ja2 (l:=[.tmp 4]) V120 (Jp2 R R) R ?_)))
 cases h
 exact⟨K46,R,(hE.stp (S5.tr (S12.tr (S23.tr (S31.tr S47)))) R R)⟩
 rintro _ w18 ⟨K19,rfl,S20,rfl⟩
 have h:=hK16
 dsimp only[aft]at h
 refine Jp (Je3 R (Ju (Ja2 (l:=[.tmp 4]) V120 (Jp2 R R) R ?_)))
 cases h
 exact⟨K19,R,(hE.stp (S5.tr (S12.tr S20)) R R)⟩
 refine JT λh=>Jx R (Je3 R (Ju (Jw (Ja2 (l:=[.tmp 4]) V120 (Jp2 R R) R ?_))))
 cases h
 exact⟨K11,R,(hE.stp (S5.tr S12) R R)⟩
theorem mo {w:World}{κ:Col}{ai af ah ae ak aj}{p0:Parity}(g0_0_0:Rd (Rp.int .i64) κ w 0 ai af p0.Arena.Owner) (g0_0_1:Rd (Rp.sl (Rp.int .i64)) κ w 0 ah ae p0.Arena.Next) (g0_1:Rd (Rp.int .i64) κ w 0 ak aj p0.Prio){r:(List Int)}(h:eY p0=some r):Ret Tryz.prog 174 [.agg #[.slice ai p0.Arena.Owner.length af,.slice ah p0.Arena.Next.length ae,.slice ak p0.Prio.length aj]] w (λv w'=>∃(κ':Col) (ra0:Option Addr) (ru0:Nat),v= .slice ra0 r.length ru0/\Ent κ w κ' w'/\Oc E6 2 κ' w' 2 ra0 ru0 r):=by
 unfold eY at h
 refine Ret.enter F174 R N174 R ?_
 dsimp only[envOf]
 have hE:=Ent.refl κ w
 refine Je [1,2] R (Jf1 (κ:=κ) 2 R R R R R R R λb1 w1 K2 S3 f4=>⟨tv,Jb 1 R (Jq (Js1 (κ:=K2) [2] none [(2,2),(0,0),(3,0),(4,2),(1,1),(5,1),(6,1),(7,2)] [] (by kernel_rfl) (by kernel_rfl) λw6 S5=>Jd3 R U108 R Z29 ?_))⟩)
 have f7:=f4.stp S5 R R
 refine Jg R (Jd2 (cs:=[.slice ai p0.Arena.Owner.length af,.slice ah p0.Arena.Next.length ae,.slice ak p0.Prio.length aj]) I108 Z108 R R R (haC f7.cells R)) (Jg R (Jc2 I29 R R (hvC (f7.ld 2 R R) R)) (Jf R (Je2 U29 R R) (Ob h λx7 hx7 h=>Jh R R R C175 (ni (κ:=λb=>mp [] 1 (K2 b)) (p0:=p0) (Jl2 (g0_0_0.stp (S3.tr S5) R R) (mp [] 1) R R) (Jl2 (g0_0_1.stp (S3.tr S5) R R) (mp [] 1) R R) (Jl2 (g0_1.stp (S3.tr S5) R R) (mp [] 1) R R) hx7) ?_)))
 rintro _ w11 ⟨k12,ax,aA,aD,aB,aC,aF,az,ay,aE,av,rfl,e13,f14,f15,f16,f17,f18⟩
 obtain⟨K19,S20,m21,z22⟩:=Jj e13 3 R
 refine⟨(S20.cl R),Ob h λx11 hx11 h=>Jh R R R C214 (rU (κ:=Mk K19) hx11) ?_⟩
 rintro _ w28 ⟨k29,aG,aw,rfl,e30,f31⟩
 obtain⟨K32,S33,m34⟩:=Ji e30 10 R
 refine⟨((S20.tr S33).cl R),Ob h λx12 hx12 h=>Jh R R R C213 (mh _ (κ:=Mk K32) (p0:=x7) (Ji3 ((f14.mx z22).stp S33 R R)) (Ji3 ((f15.mx z22).stp S33 R R)) (Ji3 ((f16.mx z22).stp S33 R R)) (Ji3 ((f17.mx (co (bH _) _) m21 R (R:3+5=8)).stp S33 R R).rdc) (Ji3 ((f18.mx (bH _) m21 R (R:3+6=9)).stp S33 R R).rdc) (Ji3 (f31.mx cF m34 R (R:10+2=12)).rdc) hx12) ?_⟩
 rintro _ w42 ⟨k43,aq,ap,rfl,e44,f45⟩
 obtain⟨K46,S47,m48⟩:=Ji e44 13 R
 refine⟨((S20.tr (S33.tr S47)).cl R),?_⟩
 have f50:=f45.mx cF m48 R (R:13+2=15)
 refine Jn 1 R (Jt1 (Jd (Je [1,2] R (Jo1 (κ:=K46) (E:=E6) 16 R R R R R Y29 Tryzinfo2 R λan am w51 K52 S53 f54=>⟨tv,Jb 1 R (Jq (Je3 R ?_))⟩))))
 have hN55:(x12.length:Int)<=9223372036854775807:=f50.len_le
 refine Ob h λq2 hq57 hK56=>?_
 clear h
 refine Jx1 (λL w'=>∃κ',∃s3:(List Int),∃ad ac,L=[(4,.slice ad s3.length ac)]/\Stp [16] K52 w51 κ' w'/\Oc E6 2 κ' w' 16 ad ac s3/\q2=t9 s3) ?_ ?_
 refine Jv (Jy1 (λk L w'=>∃κ' v5,∃s1:(List Int),∃ab aa,L=[(3,.slice aq x12.length ap),(4,.slice ab s1.length aa),(5,vi v5)]/\Stp [16] K52 w51 κ' w'/\Oc E6 2 κ' w' 16 ab aa s1/\0<=v5/\vH ((x12.length:Int)-v5)=k/\cntM (fI x12) k v5 s1=some q2) ⟨_,_,⟨K52,0,(([]:List Int):(List Int)),an,am,R,Jj3,f54,(by decide),(by simp),hq57⟩,(KM R)⟩ ?_)
 rintro k _ w62 ⟨K63,v5,s1,ab,aa,rfl,S64,f65,hj55,hJ55,h⟩
 rcases k with _ | k
 have hk66:=h;obtain⟨o55,h⟩:=bO (t9 (Sum.inl s1):(List Int)⊕(((List Int))⊕((List Int))))
 have hc55:decide (v5<(x12.length:Int))=false:=Jo2 (by omega)
 refine Jq (Jg3 [2,2,2,2] 2 R (Jf R (Je2 U193 R R) (Jb 1 R (Jw2 R hc55 (Jc1 (Jt (Jt ?_)))))))
 cases h
 have h:=hk66
 refine Jb1 ?_
 cases h
 exact Jw1 _ ⟨K63,(s1:(List Int)),ab,aa,R,S64.wk R,f65,R⟩ (KM R)
 obtain⟨o55,h,hk66⟩:=BI h;unfold fI at h
 have hc55:decide (v5<(x12.length:Int))=true:=Jn2 (by omega)
 refine Jq (Jg3 [2,2,2,2] 2 R (Jf R (Je2 U193 R R) (Jb 1 R (Jv2 R hc55 (Js (Jp (Jq (Jv (Jh3 [2,2,2,2,1,1,2,1,1,2] 3 R (Ob h λx23 hx23 h=>Jc3 R f50.rdc hx23 U193 Z4 (Jb3 R I4 ((f50.stp (S53.tr S64) R R).rdc.gBool hx23) (Ob h λx25 hx25 h=>Jh R R R C200 (jK (κ:=Mk K63) hx25) ?_))))))))))))
 rintro _ w68 ⟨k69,rfl,e70⟩
 obtain⟨K71,S72,m73⟩:=Ji e70 17 R
 refine⟨tv,Jn 1 R (Jn1 (κ:=K71) (E:=E6) 19 [] (parts:=[(0,.tmp 26)]) (cells:=[vi (IntKind.i64.wrap (1-x25))]) (xs:=([(IntKind.i64.wrap (1-x25))]:List Int)) R R R R R R Y29 Tryzinfo2 R R R R R R R R R R ⟨[vi (IntKind.i64.wrap (1-x25))],[],Zl K71 w68 [],Zl K71 w68 [],R,Zl.sp (l1:=[]) (l2:=[]) R,Zl.sr (l1:=[]) (l2:=[]),R,R⟩ λar au w75 K76 S77 f78=>⟨tv,Ob h λx28 hx28 h=>Jm1 (κ:=K76) (E:=E6) 16 [] R R R R R R R R R Y29 Tryzinfo2 R R R R (f65.stp (S72.tr S77) R R) (Sl.srcP (bR _) f78.rdc) bJ hx28 R λal ao w80 K81 S82 f83=>⟨tv,Jc 1 R (Jz (Jp (Jf3 R ?_)))⟩⟩)⟩
 have hw55:t5 .i64 (v5+1)=v5+1:=wr1 hj55 (Jm2 hc55) hN55
 rw[hw55]
 have hc55:=Jm2 hc55
 cases h
 exact Jz1 λa ha=>⟨k,_,Ja3 _,⟨K81,v5+1,(x28:(List Int)),al,ao,R,(S64.tr (S72.tr (S77.tr S82))).wk R,f83,by omega,by omega,hk66⟩,(ha.mm R)⟩
 rintro _ w58 ⟨K59,s3,ad,ac,rfl,S60,f61,rfl⟩
 have h:=hK56
 dsimp only[aft]at h
 refine Jp (Je3 R (Ju (Ja2 (l:=[.tmp 2]) V174 (Jp2 R R) R ?_)))
 cases h
 exact⟨(λb=>ren [(16,2)] (K59 b)),ad,ac,R,((hE.stp (S3.tr (S5.tr (S20.tr (S33.tr (S47.tr (S53.tr S60)))))) R R).map (ren [(16,2)]) R R),(f61.map (ren [(16,2)]) R R)⟩
theorem qg {w:World}{κ:Col}{aa ak ad af ai ae ac ab aj ah}{p0:l7Game}{a1 u1}{p1:(List Bool)}{p2:Int}(g0_0:Rd (Rp.int .i64) κ w 0 aa ak p0.owner) (g0_1:Rd (Rp.int .i64) κ w 0 ad af p0.prio) (g0_2:Rd (Rp.sl (Rp.int .i64)) κ w 0 ai ae p0.next) (g0_3:Rd (Rp.sl (Rp.int .i64)) κ w 0 ac ab p0.prev) (g0_4:Rd (Rp.int .i64) κ w 0 aj ah p0.pick) (g1:Rd Rp.bool κ w 0 a1 u1 p1){r:Bool}(h:ka p0 p1 p2=some r):Ret Tryz.prog 215 [.agg #[.slice aa p0.owner.length ak,.slice ad p0.prio.length af,.slice ai p0.next.length ae,.slice ac p0.prev.length ab,.slice aj p0.pick.length ah],.slice a1 p1.length u1,vi p2] w (λv w'=>∃(κ':Col),v= .bool r/\Ent κ w κ' w'):=by
 unfold ka at h
 refine Ret.enter F215 R N215 R ?_
 dsimp only[envOf]
 have hE:=Ent.refl κ w
 refine Je [1,2] R (Jf1 (κ:=κ) 2 R R R R R R R λb3 w1 K2 S3 f4=>⟨tv,Jb 1 R (Je [1,2,1,2] R (Jl tv R R R R (Jd2 (cs:=[.slice aa p0.owner.length ak,.slice ad p0.prio.length af,.slice ai p0.next.length ae,.slice ac p0.prev.length ab,.slice aj p0.pick.length ah]) I191 Z191 R R R (haE f4.cells)) (Jn 1 R (Ob h λx11 hx11 h=>?_))))⟩)
 have f10:=g1.stp S3 R R
 refine Jh R R R C213 (mh _ (κ:=Mk K2) (p0:=p0) (Ji3 (g0_0.stp S3 R R)) (Ji3 (g0_1.stp S3 R R)) (Ji3 (g0_2.stp S3 R R)) (Ji3 (g0_3.stp S3 R R)) (Ji3 (g0_4.stp S3 R R)) (Ji3 f10) hx11) ?_
 rintro _ w11 ⟨k12,am,al,rfl,e13,f14⟩
 obtain⟨K15,S16,m17⟩:=Ji e13 3 R
 refine⟨tv,?_⟩
 have f19:=f14.mx cF m17 R (R:3+2=5)
 refine Jb 1 R (Jq (Je3 R ?_))
 have hN20:(p1.length:Int)<=9223372036854775807:=f10.len_le
 refine Ob h λq2 hq22 hK21=>?_
 clear h
 refine Jx1 (λL w'=>∃κ',L=[]/\Stp [] K15 w11 κ' w'/\q2=t9 ()) ?_ ?_
 refine Jv (Jy1 (λk L w'=>∃κ' v8,L=[(1,.slice a1 p1.length u1),(2,vi p2),(7,.slice am x11.length al),(8,vi v8)]/\Stp [] K15 w11 κ' w'/\0<=v8/\vH ((p1.length:Int)-v8)=k/\cntM (fW p1 p2 x11) k v8 ()=some q2) ⟨_,_,⟨K15,0,R,Jj3,(by decide),(by simp),hq22⟩,(KM R)⟩ ?_)
 rintro k _ w26 ⟨K27,v8,rfl,S28,hj20,hJ20,h⟩
 rcases k with _ | k
 have hk29:=h;obtain⟨o20,h⟩:=bO (t9 (Sum.inl ()):Bool⊕((Unit)⊕(Unit)))
 have hc20:decide (v8<(p1.length:Int))=false:=Jo2 (by omega)
 refine Jq (Jg3 [2,2,2,2] 2 R (Jf R (Je2 U193 R R) (Jb 1 R (Jw2 R hc20 (Jc1 (Jt (Jt ?_)))))))
 cases h
 have h:=hk29
 refine Jb1 ?_
 cases h
 exact Jw1 _ ⟨K27,R,S28.wk R,R⟩ KN
 obtain⟨o20,h,hk29⟩:=BI h;unfold fW at h
 have hc20:decide (v8<(p1.length:Int))=true:=Jn2 (by omega)
 refine Jq (Jg3 [2,2,2,2] 2 R (Jf R (Je2 U193 R R) (Jb 1 R (Jv2 R hc20 (Js (Jp (Jq (Jv (Jg3 [2,2,2,1,2,2,2,2,1,2,2,2,2] 2 R (Ob h λx20 hx20 h=>Jc3 R f10 hx20 U193 Z4 (Jb3 R I4 ((f10.stp (S16.tr S28) R R).gBool hx20) (Jn 1 R (Ob h λp30 h hK31=>Ju1 [(5,2),(6,2),(7,2),(8,1),(9,2),(10,2),(11,2),(12,2)] [] (λL w'=>L=[(1,.slice a1 p1.length u1),(2,vi p2),(7,.slice am x11.length al),(8,vi v8),(30,.bool p30)]/\∃κ',Stp [] K27 w26 κ' w') tv ?_ ?_)))))))))))))
 revert h
 cases ht32:x20
 refine JF λh=>Jn 3 R (Jd1 R R R R (Jn 4 R ?_))
 cases h
 exact Jv1 _ tv ⟨R,_,Jj3⟩ (KM R)
 refine JT λh=>Jn 2 R (Ob h λx25 hx25 h=>Jc3 R f19.rdc hx25 U193 Z4 (Jb3 R I4 ((f19.stp S28 R R).rdc.gBool hx25) (Jn 2 R (Jf R (sv R R U4 R) (Jn 1 R ?_)))))
 cases h
 exact Jv1 _ tv ⟨R,_,Jj3⟩ (KM R)
 rintro _ w34 _ ⟨rfl,K35,S36⟩
 have h:=hK31
 refine Jd ?_
 revert h
 cases ht37:p30
 refine JF λh=>Jy R (Js (Jz (Jp (Jf3 R ?_))))
 have hw20:t5 .i64 (v8+1)=v8+1:=wr1 hj20 (Jm2 hc20) hN20
 rw[hw20]
 have hc20:=Jm2 hc20
 cases h
 exact Jz1 λa ha=>⟨k,_,Ja3 _,⟨K35,v8+1,R,(S28.tr S36).wk R,by omega,by omega,hk29⟩,(ha.mm R)⟩
 refine JT λh=>Jx R (Je3 R (Ju (Ja1 (Jw (Jw ?_)))))
 cases h
 obtain rfl:=Option.some.inj hk29
 have h:=hK21
 dsimp only[aft]at h
 refine Ja1 (Jq2 (Jw (Ja2 (l:=[.tmp 6]) V215 (Jp2 R R) R ?_)))
 cases h
 exact⟨K35,R,(hE.stp (S3.tr (S16.tr (S28.tr S36))) R R)⟩
 rintro _ w23 ⟨K24,rfl,S25,rfl⟩
 have h:=hK21
 dsimp only[aft]at h
 refine Jp (Je3 R (Ju (Ja2 (l:=[.tmp 6]) V215 (Jp2 R R) R ?_)))
 cases h
 exact⟨K24,R,(hE.stp (S3.tr (S16.tr S25)) R R)⟩
theorem cL {w:World}{κ:Col}{a0 u0}{p0:(List Clause)}{c1_0:Sig}{b1_0}(g0:Rd Clause.rp κ w 0 a0 u0 p0) (gb1_0:Bc κ w 0 b1_0 25 [vi c1_0.In,vi c1_0.Out]){r:Bool}(h:bP p0 c1_0=some r):Ret Tryz.prog 178 [.slice a0 p0.length u0,.func (.func 179) #[] #[.pointer (some ⟨b1_0,0,none⟩)]] w (λv w'=>∃(κ':Col),v= .bool r/\Ent κ w κ' w'):=by
 unfold bP at h
 refine Ret.enter F178 R N178 R ?_
 dsimp only[envOf]
 have hE:=Ent.refl κ w
 refine Je3 R (Jg3 [2,2,1,2,2] 2 R (Ob h λx7 hx7 h=>Jh R R R C216 (cQ (κ:=Mk κ) (c1_0:=c1_0) (Ji3 g0) (gb1_0.map (mp [] 0) R R) hx7) ?_))
 rintro _ w1 ⟨k2,rfl,e3⟩
 obtain⟨K4,S5,m6⟩:=Ji e3 2 R
 refine⟨tv,Jb 2 R (Ju (Ja2 (l:=[.tmp 4]) V178 (Jp2 R R) R ?_))⟩
 cases h
 exact⟨K4,R,(hE.stp S5 R R)⟩
theorem sk {w:World}{κ:Col}{p0:Sig}{ab aa ac ad}{p1:Det}(g1_0:Rd (Rp.sl (Rp.int .i64)) κ w 0 ab aa p1.Next) (g1_1:Rd Pair.rp κ w 0 ac ad p1.Pairs){r:Bool}(h:lJ p0 p1=some r):Ret Tryz.prog 150 [.agg #[vi p0.In,vi p0.Out],.agg #[.slice ab p1.Next.length aa,.slice ac p1.Pairs.length ad]] w (λv w'=>∃(κ':Col),v= .bool r/\Ent κ w κ' w'):=by
 unfold lJ at h
 refine Ret.enter F150 R N150 R ?_
 dsimp only[envOf]
 have hE:=Ent.refl κ w
 refine Je [1,1,2] R (Jf1 (κ:=κ) 2 R R R R R R R λb2 w1 K2 S3 f4=>⟨tv,Jf1 (κ:=K2) 3 R R R R R R R λb3 w5 K6 S7 f8=>⟨tv,Jb 1 R (Je [2,1,2,2] R (Jd3 R U100 R Z26 (Jb3 R I26 (f8.ld 0 R R) (Jf R (Je2 U26 R R) (Jb 1 R (Jq (Jg3 [2,2,2,2,2,2,2,2,1,2,1,2,2] 3 R (Ob h λp16 h hK9=>Ju1 [(3,2),(4,2),(5,2)] [(6,2),(7,2),(8,1),(9,2),(10,1),(11,2),(12,2)] (λL w'=>L=[(2,.pointer (some ⟨b2,0,none⟩)),(3,.pointer (some ⟨b3,0,none⟩)),(5,vi (p1.Next.length:Int)),(16,.bool p16)]/\∃κ',Stp [] K6 w5 κ' w') tv ?_ ?_))))))))⟩⟩)
 revert h
 cases ht10:decide ((p1.Next.length:Int)<1)
 refine JF λh=>Jn 3 R ?_
 cases h
 exact Jv1 _ tv ⟨R,_,Jj3⟩ (KM R)
 refine JT λh=>Jn 3 R ?_
 cases h
 exact Jv1 _ tv ⟨R,_,Jj3⟩ (KM R)
 rintro _ w11 _ ⟨rfl,K12,S13⟩
 have h:=hK9
 refine Jn 1 R (Ob h λp23 h hK14=>Ju1 [(7,2),(8,1),(9,2),(10,1),(11,2),(12,2)] [] (λL w'=>L=[(2,.pointer (some ⟨b2,0,none⟩)),(3,.pointer (some ⟨b3,0,none⟩)),(5,vi (p1.Next.length:Int)),(23,.bool p23)]/\∃κ',Stp [] K12 w11 κ' w') tv ?_ ?_)
 revert h
 cases ht15:p16
 refine JF λh=>Jd3 R U100 R Z98 (Jb3 R I98 ((f8.stp S13 R R).ld 1 R R) (Jn 1 R (Ob h λx21 hx21 h=>Jh R R R C197 (lU (κ:=Mk K12) (Ji3 (g1_1.stp (S3.tr (S7.tr S13)) R R)) hx21) ?_)))
 rintro _ w18 ⟨k19,rfl,e20⟩
 obtain⟨K21,S22,m23⟩:=Ji e20 4 R
 refine⟨tv,Jn 2 R ?_⟩
 cases h
 exact Jv1 _ tv ⟨R,_,S22.wk R⟩ (KM R)
 refine JT λh=>Jn 1 R (Jd1 R R R R (Jn 1 R (Jd1 R R R R (Jn 2 R ?_))))
 cases h
 exact Jv1 _ tv ⟨R,_,Jj3⟩ (KM R)
 rintro _ w25 _ ⟨rfl,K26,S27⟩
 have h:=hK14
 refine Jd ?_
 revert h
 cases ht28:p23
 refine JF λh=>Jy R (Js (Jp (Jq (Je [2,1,2,2] R (Jd3 R U100 R Z26 (Jb3 R I26 ((f8.stp (S13.tr S27) R R).ld 0 R R) (Jf R (Je2 U26 R R) (Jb 1 R ?_))))))))
 have hN31:(p1.Next.length:Int)<=9223372036854775807:=g1_0.len_le
 refine Ob h λq2 hq33 hK32=>?_
 clear h
 refine Jx1 (λL w'=>∃κ',L=[]/\Stp [] K26 w25 κ' w'/\q2=t9 ()) ?_ ?_
 refine Jv (Jy1 (λk L w'=>∃κ' v27,L=[(2,.pointer (some ⟨b2,0,none⟩)),(5,vi (p1.Next.length:Int)),(25,.slice ab p1.Next.length aa),(26,vi (p1.Next.length:Int)),(27,vi v27)]/\Stp [] K26 w25 κ' w'/\0<=v27/\vH ((p1.Next.length:Int)-v27)=k/\cntM (jc p0 p1) k v27 ()=some q2) ⟨_,_,⟨K26,0,R,Jj3,(by decide),(by simp),hq33⟩,(KM R)⟩ ?_)
 rintro k _ w37 ⟨K38,v27,rfl,S39,hj31,hJ31,h⟩
 rcases k with _ | k
 have hk40:=h;obtain⟨o31,h⟩:=bO (t9 (Sum.inl ()):Bool⊕((Unit)⊕(Unit)))
 have hc31:decide (v27<(p1.Next.length:Int))=false:=Jo2 (by omega)
 refine Je3 R (Jq (Jw2 R hc31 (Jc1 (Jt (Jt ?_)))))
 cases h
 have h:=hk40
 refine Jb1 ?_
 cases h
 exact Jw1 _ ⟨K38,R,S39.wk R,R⟩ KN
 obtain⟨o31,h,hk40⟩:=BI h;unfold jc at h
 have hc31:decide (v27<(p1.Next.length:Int))=true:=Jn2 (by omega)
 refine Je3 R (Jq (Jv2 R hc31 (Js (Jp (Jq (Jv (Je [2,1,2] R (Ob h λx29 hx29 h=>Jc3 R g1_0 hx29 U26 Z29 ?_))))))))
 obtain⟨ax29,ux29,f42,hl43⟩:=(g1_0.stp (S3.tr (S7.tr (S13.tr (S27.tr S39)))) R R).gSl hx29
 refine Jb3 R I29 hl43 (Jb 1 R (Jg3 [2,2,1,1,2,2,2,2,1,2,2] 1 R (Jf R (Je2 U29 R R) (Jl tv R R R R (Jd2 (cs:=[vi p0.In,vi p0.Out]) I25 Z25 R R R (haE (f4.stp (S7.tr (S13.tr (S27.tr S39))) R R).cells)) (Ob h λx34 hx34 h=>Jh R R R C130 (eU (κ:=Mk K38) (p0:=p0) hx34) ?_)))))
 rintro _ w45 ⟨k46,rfl,e47⟩
 obtain⟨K48,S49,m50⟩:=Ji e47 4 R
 refine⟨tv,Jn 2 R (Ob h λp41 h hK52=>Ju1 [(6,2),(7,2),(8,1),(9,2),(10,2)] [] (λL w'=>L=[(2,.pointer (some ⟨b2,0,none⟩)),(5,vi (p1.Next.length:Int)),(25,.slice ab p1.Next.length aa),(26,vi (p1.Next.length:Int)),(27,vi v27),(41,.bool p41)]/\∃κ',Stp [] K48 w45 κ' w') tv ?_ ?_)⟩
 revert h
 cases ht53:((x29.length:Int) !=x34)
 refine JF λh=>Jn 2 R (Ob h λx39 hx39 h=>Jh R R R C66 (nM (κ:=Mk K48) (Ji3 (f42.stp S49 R R)) hx39) ?_)
 rintro _ w55 ⟨k56,rfl,e57⟩
 obtain⟨K58,S59,m60⟩:=Ji e57 6 R
 refine⟨tv,Jn 2 R ?_⟩
 cases h
 exact Jv1 _ tv ⟨R,_,S59.wk R⟩ (KM R)
 refine JT λh=>Jn 2 R (Jd1 R R R R (Jn 2 R ?_))
 cases h
 exact Jv1 _ tv ⟨R,_,Jj3⟩ (KM R)
 rintro _ w62 _ ⟨rfl,K63,S64⟩
 have h:=hK52
 refine Jd ?_
 revert h
 cases ht65:p41
 refine JF λh=>Jy R (Js (Jz (Jp (Jf3 R ?_))))
 have hw31:t5 .i64 (v27+1)=v27+1:=wr1 hj31 (Jm2 hc31) hN31
 rw[hw31]
 have hc31:=Jm2 hc31
 cases h
 exact Jz1 λa ha=>⟨k,_,Ja3 _,⟨K63,v27+1,R,(S39.tr (S49.tr S64)).wk R,by omega,by omega,hk40⟩,(ha.mm R)⟩
 refine JT λh=>Jx R (Je3 R (Ju (Ja1 (Jw (Jw ?_)))))
 cases h
 obtain rfl:=Option.some.inj hk40
 have h:=hK32
 dsimp only[aft]at h
 refine Ja1 (Jq2 (Jw (Ja2 (l:=[.tmp 4]) V150 (Jp2 R R) R ?_)))
 cases h
 exact⟨K63,R,(hE.stp (S3.tr (S7.tr (S13.tr (S27.tr (S39.tr (S49.tr S64)))))) R R)⟩
 rintro _ w34 ⟨K35,rfl,S36,rfl⟩
 have h:=hK32
 dsimp only[aft]at h
 refine Jp (Je3 R (Ju (Ja2 (l:=[.tmp 4]) V150 (Jp2 R R) R ?_)))
 cases h
 exact⟨K35,R,(hE.stp (S3.tr (S7.tr (S13.tr (S27.tr S36)))) R R)⟩
 refine JT λh=>Jx R (Je3 R (Ju (Jw (Ja2 (l:=[.tmp 4]) V150 (Jp2 R R) R ?_))))
 cases h
 exact⟨K26,R,(hE.stp (S3.tr (S7.tr (S13.tr S27))) R R)⟩
theorem dT {w:World}{κ:Col}{aO aT aP aK}{p0:Arena}{au am}{p1:Place}{aR aL}{c2_0:(List Pair)}{b2_0}(g0_0:Rd (Rp.int .i64) κ w 0 aO aT p0.Owner) (g0_1:Rd (Rp.sl (Rp.int .i64)) κ w 0 aP aK p0.Next) (g1_1:Rd (Rp.int .i64) κ w 0 au am p1.Record) (g2_0:Rd Pair.rp κ w 0 aR aL c2_0) (gb2_0:Bc κ w 0 b2_0 98 [.slice aR c2_0.length aL]){r:Parity×(List Place)×Bool}(h:cd p0 p1 c2_0=some r):Ret Tryz.prog 136 [.agg #[.slice aO p0.Owner.length aT,.slice aP p0.Next.length aK],.agg #[vi p1.At,.slice au p1.Record.length am],.func (.func 137) #[] #[.pointer (some ⟨b2_0,0,none⟩)],.func (.func 139) #[] #[.pointer (some ⟨b2_0,0,none⟩)]] w (λv w'=>∃(κ':Col) (ra0:Option Addr) (ru0:Nat) (ra1:Option Addr) (ru1:Nat) (ra2:Option Addr) (ru2:Nat) (ra3:Option Addr) (ru3:Nat),v= .tuple #[.agg #[.slice ra0 r.1.Arena.Owner.length ru0,.slice ra1 r.1.Arena.Next.length ru1,.slice ra2 r.1.Prio.length ru2],.slice ra3 r.2.1.length ru3,.bool r.2.2]/\Ent κ w κ' w'/\Oc E6 2 κ' w' 2 ra0 ru0 r.1.Arena.Owner/\Oc (Ep.fz (Rp.sl (Rp.int .i64))) 29 κ' w' 3 ra1 ru1 r.1.Arena.Next/\Oc E6 2 κ' w' 4 ra2 ru2 r.1.Prio/\Oc (Ep.fz Place.rp) 116 κ' w' 5 ra3 ru3 r.2.1):=by
 unfold cd at h
 refine Ret.enter F136 R N136 R ?_
 dsimp only[envOf]
 have hE:=Ent.refl κ w
 refine Je [1,1,1,2,2] R (Jf1 (κ:=κ) 2 R R R R R R R λb4 w1 K2 S3 f4=>⟨tv,Jf1 (κ:=K2) 3 R R R R R R R λb5 w5 K6 S7 f8=>⟨tv,Jg1 (κ:=K6) 4 R R R R R X108 R λb8 w9 K10 S11 f12=>⟨tv,Jb 2 R (Je [1,1,2] R (Jl tv R R R R (Jd2 (cs:=[vi p1.At,.slice au p1.Record.length am]) I116 Z116 R R R (haE (f8.stp S11 R R).cells)) (Jn1 (κ:=K10) (E:=(Ep.fz Place.rp)) 5 [] (parts:=[(0,.tmp 20)]) (cells:=[vi p1.At,.slice au p1.Record.length am]) (xs:=([p1]:List Place)) R R R R R R Y109 Tryzinfo116 R R R R R R R R R R ⟨[vi p1.At,.slice au p1.Record.length am],[],Zl K10 w9 [],Zl K10 w9 [],R,Zl.sp (l1:=[]) (l2:=[]) R,Zl.sr (l1:=[]) (l2:=[]),(Place.mk_rel (Sl.z1 (g1_1.stp (S3.tr (S7.tr S11)) R R))),R⟩ λaY bb w15 K16 S17 f18=>⟨tv,Jb 1 R (Je [2,1,1] R (Jf R (bI (parts:=[]) (cells:=[.slice none 0 0,.slice none 0 0,.slice none 0 0]) R R (by kernel_rfl)) (Jg1 (κ:=K16) 6 R R R R R X108 R λb12 w19 K20 S21 f22=>⟨tv,Jj1 (κ:=K20) 6 (vc:=[.slice none 0 0,.slice none 0 0,.slice none 0 0]) R R R R R R R Z108 R R f22 R λw23 S24 f25=>⟨tv,Jd (Jq (Je3 R (Ob h λq2 hq28 hK27=>?_)))⟩⟩)))⟩)))⟩⟩⟩)
 clear h
 refine Jx1 (λL w'=>∃κ',∃s3:(List Place)×Int×(List Int)×(List (List Int))×(List Int),∃aC aA ad aa ae af ab ac,L=[(2,.func (.func 137) #[] #[.pointer (some ⟨b2_0,0,none⟩)]),(3,.func (.func 139) #[] #[.pointer (some ⟨b2_0,0,none⟩)]),(8,.pointer (some ⟨b8,0,none⟩)),(11,.slice aC s3.1.length aA),(12,.pointer (some ⟨b12,0,none⟩))]/\Stp [5,6,7,8,9,10,14,17,18,25,26,27] K20 w23 κ' w'/\Oc (Ep.fz Place.rp) 116 κ' w' 5 aC aA s3.1/\Oc E6 2 κ' w' 7 ad aa s3.2.2.1/\Oc (Ep.fz (Rp.sl (Rp.int .i64))) 29 κ' w' 8 ae af s3.2.2.2.1/\Oc E6 2 κ' w' 9 ab ac s3.2.2.2.2/\Bc κ' w' 6 b12 108 [.slice ad s3.2.2.1.length aa,.slice ae s3.2.2.2.1.length af,.slice ab s3.2.2.2.2.length ac]/\q2=t9 s3) ?_ ?_
 refine Jv (Jy1 (λk L w'=>∃κ',∃s1:(List Place)×Int×(List Int)×(List (List Int))×(List Int),∃ak ai ao ap ah al aq aw,L=[(2,.func (.func 137) #[] #[.pointer (some ⟨b2_0,0,none⟩)]),(3,.func (.func 139) #[] #[.pointer (some ⟨b2_0,0,none⟩)]),(4,.pointer (some ⟨b4,0,none⟩)),(8,.pointer (some ⟨b8,0,none⟩)),(11,.slice ak s1.1.length ai),(12,.pointer (some ⟨b12,0,none⟩)),(13,vi s1.2.1)]/\Stp [5,6,7,8,9,10,14,17,18,25,26,27] K20 w23 κ' w'/\Oc (Ep.fz Place.rp) 116 κ' w' 5 ak ai s1.1/\Oc E6 2 κ' w' 7 ao ap s1.2.2.1/\Oc (Ep.fz (Rp.sl (Rp.int .i64))) 29 κ' w' 8 ah al s1.2.2.2.1/\Oc E6 2 κ' w' 9 aq aw s1.2.2.2.2/\Bc κ' w' 6 b12 108 [.slice ao s1.2.2.1.length ap,.slice ah s1.2.2.2.1.length al,.slice aq s1.2.2.2.2.length aw]/\whileM (bM p0 c2_0) k s1=some q2) ⟨_,_,⟨K20,((([p1]:List Place):(List Place)),(0:Int),(([]:List Int):(List Int)),(([]:List (List Int)):(List (List Int))),(([]:List Int):(List Int))),aY,bb,none,0,none,0,none,0,R,Jj3,(f18.stp (S21.tr S24) R R),Ow.nil,Ow.nil,Ow.nil,f25,hq28⟩,(KM R)⟩ ?_)
 rintro k _ w37 ⟨K38,s1,ak,ai,ao,ap,ah,al,aq,aw,rfl,S39,f40,f41,f42,f43,f44,h⟩
 rcases k with _ | k
 cases h
 obtain⟨o26,h,hk46⟩:=BI h;unfold bM at h
 refine Jq (Jg3 [2,2,2,2] 2 R (Jf R (Je2 U109 R R) (Jb 1 R ?_)))
 revert h
 cases ht47:decide (s1.2.1<(s1.1.length:Int))
 refine JF λh=>Jy R (Jc1 (Jt (Jt ?_)))
 cases h
 have h:=hk46
 refine Jb1 ?_
 cases h
 exact Jw1 _ ⟨K38,((s1.1:(List Place)),(s1.2.1:Int),(s1.2.2.1:(List Int)),(s1.2.2.2.1:(List (List Int))),(s1.2.2.2.2:(List Int))),ak,ai,ao,ap,ah,al,aq,aw,R,S39.wk R,f40,f41,f42,f43,f44,R⟩ (KM R)
 refine JT λh=>Jx R (Js (Jp (Jq (Jv (Jg3 [2,2,2,1,1,1] 2 R (Ob h λx31 hx31 h=>Jc3 R f40.rdc hx31 U109 Z116 ?_))))))
 obtain⟨cse48,hre48,hle48⟩:=Ow.gZS f40 hx31
 obtain⟨ae48_0,ue48_0,rfl,fe48_0⟩:=Place.un hre48
 refine Jl tv R R R R (Jd2 (cs:=[vi x31.At,.slice ae48_0 x31.Record.length ue48_0]) I116 Z116 R R R (haE hle48)) (Jg1 (κ:=K38) 10 R R R R R X116 R λb14 w49 K50 S51 f52=>⟨tv,Jj1 (κ:=K50) 10 (vc:=[vi x31.At,.slice ae48_0 x31.Record.length ue48_0]) R R R R R R R Z116 R R f52 R λw53 S54 f55=>⟨tv,Jd (Jg3 [2,1,1,2] 1 R (Jl tv R R R R (Jd2 (cs:=[vi x31.At,.slice ae48_0 x31.Record.length ue48_0]) I116 Z116 R R R (haE f55.cells)) (Ob h λx35 hx35 h=>?_)))⟩⟩)
 have f56:=fe48_0.stp (S51.tr S54) R R
 have f57:=g2_0.stp (S3.tr (S7.tr (S11.tr (S17.tr (S21.tr (S24.tr (S39.tr (S51.tr S54)))))))) R R
 have f58:=gb2_0.stp (S3.tr (S7.tr (S11.tr (S17.tr (S21.tr (S24.tr (S39.tr (S51.tr S54)))))))) R R
 refine WO.callV R R R R R R R R C137 (nI (κ:=Mk K50) (p0:=x31) (Ji3 f56) (Ji3 f57) (f58.map (mp [] 0) R R) hx35) ?_
 rintro _ w59 ⟨k60,aH,aS,rfl,e61,f62⟩
 obtain⟨K63,S64,m65⟩:=Ji e61 11 R
 refine⟨tv,Jb 1 R (Je [1,2] R (Jo1 (κ:=K63) (E:=E6) 14 R R R R R Y29 Tryzinfo2 R λaX bc w68 K69 S70 f71=>⟨tv,Jb 1 R (Jq (Je [2,1,2,1,2,1,2,2] R (Jd3 R U104 R Z26 ?_)))⟩))⟩
 have f72:=f4.stp (S7.tr (S11.tr (S17.tr (S21.tr (S24.tr (S39.tr (S51.tr (S54.tr (S64.tr S70))))))))) R R
 refine Jb3 R I26 (f72.ld 1 R R) (Jd3 R U116 R Z2 ?_)
 have f73:=f55.stp (S64.tr S70) R R
 refine Jb3 R I2 (f73.ld 0 R R) (Ob h λx41 hx41 h=>Jc3 R g0_1 hx41 U26 Z29 ?_)
 obtain⟨ax41,ux41,f75,hl76⟩:=(g0_1.stp (S3.tr (S7.tr (S11.tr (S17.tr (S21.tr (S24.tr (S39.tr (S51.tr (S54.tr (S64.tr S70)))))))))) R R).gSl hx41
 refine Jb3 R I29 hl76 (Jf R (Je2 U29 R R) (Jb 1 R ?_))
 have hN77:(x41.length:Int)<=9223372036854775807:=f75.len_le
 refine Ob h λq5 hq79 hK78=>?_
 clear h
 refine Jx1 (λL w'=>∃κ',∃s6:(List Place)×(List Int),∃aB az aD aF,L=[(2,.func (.func 137) #[] #[.pointer (some ⟨b2_0,0,none⟩)]),(3,.func (.func 139) #[] #[.pointer (some ⟨b2_0,0,none⟩)]),(4,.pointer (some ⟨b4,0,none⟩)),(8,.pointer (some ⟨b8,0,none⟩)),(11,.slice aB s6.1.length az),(12,.pointer (some ⟨b12,0,none⟩)),(13,vi s1.2.1),(14,.pointer (some ⟨b14,0,none⟩)),(16,.slice aD s6.2.length aF)]/\Stp [5,14,17,18] K69 w68 κ' w'/\Oc (Ep.fz Place.rp) 116 κ' w' 5 aB az s6.1/\Oc E6 2 κ' w' 14 aD aF s6.2/\q5=t9 s6) ?_ ?_
 refine Jv (Jy1 (λk L w'=>∃κ' v44,∃s4:(List Place)×(List Int),∃av ar aj an,L=[(2,.func (.func 137) #[] #[.pointer (some ⟨b2_0,0,none⟩)]),(3,.func (.func 139) #[] #[.pointer (some ⟨b2_0,0,none⟩)]),(4,.pointer (some ⟨b4,0,none⟩)),(8,.pointer (some ⟨b8,0,none⟩)),(11,.slice av s4.1.length ar),(12,.pointer (some ⟨b12,0,none⟩)),(13,vi s1.2.1),(14,.pointer (some ⟨b14,0,none⟩)),(15,.slice aH x35.length aS),(16,.slice aj s4.2.length an),(42,.slice ax41 x41.length ux41),(43,vi (x41.length:Int)),(44,vi v44)]/\Stp [5,14,17,18] K69 w68 κ' w'/\Oc (Ep.fz Place.rp) 116 κ' w' 5 av ar s4.1/\Oc E6 2 κ' w' 14 aj an s4.2/\0<=v44/\vH ((x41.length:Int)-v44)=k/\cntM (bT x35 x41) k v44 s4=some q5) ⟨_,_,⟨K69,0,((s1.1:(List Place)),(([]:List Int):(List Int))),ak,ai,aX,bc,R,Jj3,(f40.stp (S51.tr (S54.tr (S64.tr S70))) R R),f71,(by decide),(by simp),hq79⟩,(KM R)⟩ ?_)
 rintro k _ w85 ⟨K86,v44,s4,av,ar,aj,an,rfl,S87,f88,f89,hj77,hJ77,h⟩
 rcases k with _ | k
 have hk91:=h;obtain⟨o77,h⟩:=bO (t9 (Sum.inl s4):(Parity×(List Place)×Bool)⊕(((List Place)×(List Int))⊕((List Place)×(List Int))))
 have hc77:decide (v44<(x41.length:Int))=false:=Jo2 (by omega)
 refine Je3 R (Jq (Jw2 R hc77 (Jc1 (Jt (Jt ?_)))))
 cases h
 have h:=hk91
 refine Jb1 ?_
 cases h
 exact Jw1 _ ⟨K86,((s4.1:(List Place)),(s4.2:(List Int))),av,ar,aj,an,R,S87.wk R,f88,f89,R⟩ (KM R)
 obtain⟨o77,h,hk91⟩:=BI h;unfold bT at h
 have hc77:decide (v44<(x41.length:Int))=true:=Jn2 (by omega)
 refine Je3 R (Jq (Jv2 R hc77 (Js (Jp (Jq (Jv (Je [2,1,2] R (Ob h λx46 hx46 h=>Jc3 R f75 hx46 U29 Z2 (Jb3 R I2 ((f75.stp S87 R R).gInt hx46) (Jb 1 R (Jg3 [2,2,2,1,2] 3 R (Ob h λx51 hx51 h=>?_))))))))))))
 have f93:=(f62.mx (bH _) m65 R (R:11+2=13)).stp (S70.tr S87) R R
 refine Jh R R R C185 (pR (κ:=Mk K86) (Ji3 f88.rdc) (Ji3 f93.rdc) hx51) ?_
 rintro _ w94 ⟨k95,rfl,e96⟩
 obtain⟨K97,S98,m99⟩:=Ji e96 15 R
 refine⟨tv,Jb 1 R (Jq (Je3 R (Ob h λq7 h hK101=>Jx1 (λL w'=>∃κ' ay ax,L=[(2,.func (.func 137) #[] #[.pointer (some ⟨b2_0,0,none⟩)]),(3,.func (.func 139) #[] #[.pointer (some ⟨b2_0,0,none⟩)]),(4,.pointer (some ⟨b4,0,none⟩)),(8,.pointer (some ⟨b8,0,none⟩)),(11,.slice ay q7.1.length ax),(12,.pointer (some ⟨b12,0,none⟩)),(13,vi s1.2.1),(14,.pointer (some ⟨b14,0,none⟩)),(15,.slice aH x35.length aS),(16,.slice aj s4.2.length an),(19,vi q7.2),(42,.slice ax41 x41.length ux41),(43,vi (x41.length:Int)),(44,vi v44)]/\Stp [5,17,18] K97 w94 κ' w'/\Oc (Ep.fz Place.rp) 116 κ' w' 5 ay ax q7.1) ?_ ?_)))⟩
 revert h
 cases ht106:decide (x51<0)
 refine JF λh=>Jy R (Js ?_)
 cases h
 exact Jw1 _ ⟨K97,av,ar,R,Jj3,(f88.stp S98 R R)⟩ (KM R)
 refine JT λh=>Jx R (Jg3 [2,2,2] 1 R (Jf R (Je2 U109 R R) (Jb 1 R (Jh3 [2,2,1,2,1,2,1,1,2] 2 R (Jo1 (κ:=K97) (E:=E6) 17 R R R R R Y29 Tryzinfo2 R λbi bf w107 K108 S109 f110=>⟨tv,Jn 1 R (Ob h λx60 hx60 h=>Jm1 (κ:=K108) (E:=E6) 17 [] R R R R R R R R R Y29 Tryzinfo2 R R R R f110 (Sl.srcP (bR _) (f93.stp (S98.tr S109) R R).rdc) bJ hx60 R λaE aG w112 K113 S114 f115=>⟨tv,Jf R (bI (parts:=[(0,.tmp 57),(1,.tmp 60)]) (cells:=[vi x46,.slice aE x60.length aG]) R R (by kernel_rfl)) ?_⟩)⟩)))))
 obtain⟨K116,S117,z118⟩:=dg K113 w112 17
 refine Jn1 (κ:=K116) (E:=(Ep.fz Place.rp)) 18 [] (parts:=[(0,.tmp 61)]) (cells:=[vi x46,.slice aE x60.length aG]) (xs:=([(⟨x46,x60⟩:Place)]:List Place)) R R R R R R Y109 Tryzinfo116 R R R R R R R R R R ⟨[vi x46,.slice aE x60.length aG],[],Zl K116 w112 [],Zl K116 w112 [],R,Zl.sp (l1:=[]) (l2:=[]) R,Zl.sr (l1:=[]) (l2:=[]),(Place.mk_rel (x:=(⟨x46,x60⟩:Place)) (Sl.z1 (Sl.st z118 f115.rdc))),R⟩ λbh bg w120 K121 S122 f123=>⟨tv,Ob h λx63 hx63 h=>Jm1 (κ:=K121) (E:=(Ep.fz Place.rp)) 5 [18] R R R R R R R R R Y109 Tryzinfo116 R R R R (f88.stp (S98.tr (S109.tr (S114.tr (S117.tr S122)))) R R) f123.src (dc R) hx63 R λaZ ba w125 K126 S127 f128=>⟨tv,Jc 1 R ?_⟩⟩
 cases h
 exact Jw1 _ ⟨K126,aZ,ba,R,(S109.tr (S114.tr (S117.tr (S122.tr S127)))).wk R,f128⟩ (KM R)
 rintro _ w102 ⟨K103,ay,ax,rfl,S104,f105⟩
 have h:=hK101
 refine Jp (Jh3 [2,2,1,1,2] 2 R (Jn1 (κ:=K103) (E:=E6) 17 [] (parts:=[(0,.tmp 65)]) (cells:=[vi q7.2]) (xs:=([q7.2]:List Int)) R R R R R R Y29 Tryzinfo2 R R R R R R R R R R ⟨[vi q7.2],[],Zl K103 w102 [],Zl K103 w102 [],R,Zl.sp (l1:=[]) (l2:=[]) R,Zl.sr (l1:=[]) (l2:=[]),R,R⟩ λbd be w130 K131 S132 f133=>⟨tv,Ob h λx67 hx67 h=>Jm1 (κ:=K131) (E:=E6) 14 [] R R R R R R R R R Y29 Tryzinfo2 R R R R (f89.stp (S98.tr (S104.tr S132)) R R) (Sl.srcP (bR _) f133.rdc) bJ hx67 R λaW aV w135 K136 S137 f138=>⟨tv,Jc 1 R (Jz (Jp (Jf3 R ?_)))⟩⟩))
 have hw77:t5 .i64 (v44+1)=v44+1:=wr1 hj77 (Jm2 hc77) hN77
 rw[hw77]
 have hc77:=Jm2 hc77
 cases h
 exact Jz1 λa ha=>⟨k,_,Ja3 _,⟨K136,v44+1,((q7.1:(List Place)),(x67:(List Int))),ay,ax,aW,aV,R,(S87.tr (S98.tr (S104.tr (S132.tr S137)))).wk R,(f105.stp (S132.tr S137) R R),f138,by omega,by omega,hk91⟩,(ha.mm R)⟩
 rintro _ w80 ⟨K81,s6,aB,az,aD,aF,rfl,S82,f83,f84,rfl⟩
 have h:=hK78
 dsimp only[aft]at h
 refine Jp (Jq (Jg3 [2,2,2] 1 R (Jf R (Je2 U109 R R) (Jb 1 R ?_))))
 revert h
 cases ht140:decide (256<(s6.1.length:Int))
 refine JF λh=>Jy R (Js (Jp (Jg3 [2,1] 1 R (Ob h λx74 hx74 h=>Jh R R R C133 (gB (κ:=λb=>mp [(14,2)] 0 (K81 b)) (f84.map (mp [(14,2)] 0) R R) hx74) ?_))))
 rintro _ w146 ⟨k147,rfl,e148,f149,hn150⟩
 obtain⟨K151,S152,m153⟩:=Ji e148 15 R
 refine⟨tv,Jd (Js1 (κ:=K151) [0,2,6,10] (some 12) [(1,2),(3,2),(7,2),(10,2),(0,0),(2,0),(4,0),(5,2),(6,0),(8,0),(9,1),(11,1)] [(12,1)] (by kernel_rfl) (by kernel_rfl) λw157 S156=>Jd3 R U104 R Z29 (Jd3 R U116 R Z2 (Jn 2 R ?_)))⟩
 have f158:=f44.stp (S51.tr (S54.tr (S64.tr (S70.tr (S82.tr (S152.tr S156)))))) R R
 refine Jg R (Jd2 (cs:=[.slice ao s1.2.2.1.length ap,.slice ah s1.2.2.2.1.length al,.slice aq s1.2.2.2.2.length aw]) I108 Z108 R R R (haC f158.cells R)) (Jg R (Jc2 I29 R R (hvC ((f72.stp (S82.tr (S152.tr S156)) R R).ld 0 R R) R)) ?_)
 have f160:=f73.stp (S82.tr (S152.tr S156)) R R
 have S001:=(S64.tr (S70.tr (S82.tr (S152.tr S156))))
 refine Jg R (Jc2 I2 R R (hvC (f160.ld 0 R R) R)) (Ob h λx80 hx80 h=>Jc3 R g0_0 hx80 U29 Z2 (Jg R (Jc2 I2 R R (hvC ((g0_0.stp (S3.tr (S7.tr (S11.tr (S17.tr (S21.tr (S24.tr (S39.tr (S51.tr (S54.tr (S64.tr (S70.tr (S82.tr (S152.tr S156))))))))))))) R R).gInt hx80) R)) (Jg R (Jd2 (cs:=[vi x31.At,.slice ae48_0 x31.Record.length ue48_0]) I116 Z116 R R R (haC f160.cells R)) (Ob h λx84 hx84 h=>WO.callV R R R R R R R R C139 (nP (κ:=Mk K151) (p0:=x31) (Ji3 (f56.stp S001 R R)) (Ji3 (f57.stp S001 R R)) ((f58.stp S001 R R).map (mp [] 0) R R) hx84) ?_))))
 rintro _ w165 ⟨k166,rfl,e167⟩
 obtain⟨K168,S169,m170⟩:=Ji e167 18 R
 refine⟨(S169.cl R),?_⟩
 obtain⟨K173,S174,z175⟩:=dg K168 w165 17
 have S002:=(S51.tr (S54.tr (S64.tr (S70.tr (S82.tr (S152.tr (S156.tr (S169.tr S174))))))))
 refine Ob h λx86 hx86 h=>Jh R R R C186 (Ret.cast (by simp only[(hn150),List.cons_append,List.nil_append]) (nC (κ:=λb=>mp [(7,2),(8,3),(9,4)] 1 (K173 b)) (p0:=(⟨(⟨s1.2.2.1,s1.2.2.2.1⟩:Arena),s1.2.2.2.2⟩:Parity)) ((f41.stp S002 R R).map (mp [(7,2),(8,3),(9,4)] 1) R R) ((f42.stp S002 R R).map (mp [(7,2),(8,3),(9,4)] 1) R R) ((f43.stp S002 R R).map (mp [(7,2),(8,3),(9,4)] 1) R R) (Jl2 (Sl.st z175 ((f149.mx (bH _) m153 R (R:15+2=17)).stp (S156.tr S169) R R).rdc) (mp [(7,2),(8,3),(9,4)] 1) R R) hx86)) ?_
 rintro _ w180 ⟨k181,aU,aM,aQ,aN,aI,aJ,rfl,e182,f183,f184,f185⟩
 obtain⟨K186,S187,m188,z189⟩:=Jj e182 20 R
 have S003:=(S169.tr (S174.tr S187))
 refine⟨(S003.cl R),Jt1 (Jj1 (κ:=K186) 6 (vc:=[.slice aU x86.Arena.Owner.length aM,.slice aQ x86.Arena.Next.length aN,.slice aI x86.Prio.length aJ]) R R R R R R R Z108 R R (f158.stp S003 R R) R λw194 S195 f196=>⟨tv,Jo (Jz (Jp (Jf3 R ?_)))⟩)⟩
 cases h
 exact Jz1 λa ha=>⟨k,_,Ja3 _,⟨(λb=>ren [(25,7),(26,8),(27,9)] (K186 b)),((s6.1:(List Place)),((IntKind.i64.wrap (s1.2.1+1)):Int),(x86.Arena.Owner:(List Int)),(x86.Arena.Next:(List (List Int))),(x86.Prio:(List Int))),aB,az,aU,aM,aQ,aN,aI,aJ,R,(Jy2 ((S39.tr (S51.tr (S54.tr (S64.tr (S70.tr (S82.tr (S152.tr (S156.tr (S169.tr (S174.tr (S187.tr S195))))))))))).wk R) [(25,7),(26,8),(27,9)] R),((f83.stp (S152.tr (S156.tr (S169.tr (S174.tr (S187.tr S195))))) R R).map (ren [(25,7),(26,8),(27,9)]) R R),(((f183.mx (bH _) m188 R (R:20+5=25)).stp S195 R R).map (ren [(25,7),(26,8),(27,9)]) R R),(((f184.mxz z189 m188 R (R:20+6=26)).stp S195 R R).map (ren [(25,7),(26,8),(27,9)]) R R),(((f185.mx (bH _) m188 R (R:20+7=27)).stp S195 R R).map (ren [(25,7),(26,8),(27,9)]) R R),(f196.map (ren [(25,7),(26,8),(27,9)]) R R),hk46⟩,(ha.mm R)⟩
 refine JT λh=>Jx R (Je [2,1,2,2] R (Jf R (bI (parts:=[]) (cells:=[.slice none 0 0,.slice none 0 0,.slice none 0 0]) R R (by kernel_rfl)) (Jj1 (κ:=K81) 4 (vc:=[.slice none 0 0,.slice none 0 0,.slice none 0 0]) R R R R R R R Z108 R R (f12.stp (S17.tr (S21.tr (S24.tr (S39.tr (S51.tr (S54.tr (S64.tr (S70.tr S82)))))))) R R) R λw142 S143 f144=>⟨tv,Jb 2 R (Ju (Jw (Ja1 (Jw (Jw ?_)))))⟩)))
 cases h
 obtain rfl:=Option.some.inj hk46
 have h:=hK27
 dsimp only[aft]at h
 refine Ja1 (Jq2 (Jw (Ja2 (l:=[.cell 8 108,.tmp 9,.tmp 10]) V136 (bL R f144 I108 Z108 R (Jp2 R (Jp2 R R))) R ?_)))
 cases h
 exact⟨K81,none,0,none,0,none,0,none,0,R,(hE.stp (S3.tr (S7.tr (S11.tr (S17.tr (S21.tr (S24.tr (S39.tr (S51.tr (S54.tr (S64.tr (S70.tr (S82.tr S143)))))))))))) R R),Ow.nil,Ow.nil,Ow.nil,Ow.nil⟩
 rintro _ w29 ⟨K30,s3,aC,aA,ad,aa,ae,af,ab,ac,rfl,S31,f32,f33,f34,f35,f36,rfl⟩
 have h:=hK27
 dsimp only[aft]at h
 refine Jp (Je [1,2,1,2,2] R (Jl tv R R R R (Jd2 (cs:=[.slice ad s3.2.2.1.length aa,.slice ae s3.2.2.2.1.length af,.slice ab s3.2.2.2.2.length ac]) I108 Z108 R R R (haE f36.cells)) (Jn 1 R (Jj1 (κ:=K30) 4 (vc:=[.slice ad s3.2.2.1.length aa,.slice ae s3.2.2.2.1.length af,.slice ab s3.2.2.2.2.length ac]) R R R R R R R Z108 R R (f12.stp (S17.tr (S21.tr (S24.tr S31))) R R) R λw202 S203 f204=>⟨tv,Jb 2 R (Ju (Ja2 (l:=[.cell 8 108,.tmp 9,.tmp 10]) V136 (bL R f204 I108 Z108 R (Jp2 R (Jp2 R R))) R ?_))⟩))))
 cases h
 exact⟨(λb=>ren [(7,2),(8,3),(9,4)] (K30 b)),ad,aa,ae,af,ab,ac,aC,aA,R,((hE.stp (S3.tr (S7.tr (S11.tr (S17.tr (S21.tr (S24.tr (S31.tr S203))))))) R R).map (ren [(7,2),(8,3),(9,4)]) R R),((f33.stp S203 R R).map (ren [(7,2),(8,3),(9,4)]) R R),((f34.stp S203 R R).map (ren [(7,2),(8,3),(9,4)]) R R),((f35.stp S203 R R).map (ren [(7,2),(8,3),(9,4)]) R R),((f32.stp S203 R R).map (ren [(7,2),(8,3),(9,4)]) R R)⟩
end Go.Proofs.YtpcjbkgbnoocaaaGreat
