/- The walks, part 3. By program. -/
import Derived.Test.YtpcjbkgbnoocaaaGreatFnsMEI
import Derived.Test.YtpcjbkgbnoocaaaGreatAlEI
set_option linter.unusedVariables false
set_option linter.unusedSimpArgs false
open Go.IntKind renaming wrap → t5
open Sum renaming inr → t9, inl → vF
open Int renaming toNat → vH
namespace Go.Proofs.YtpcjbkgbnoocaaaGreat
open Go Go.Wk Go.Proofs
set_option maxRecDepth 100000
set_option maxHeartbeats 1000000
theorem lW {w:World}{κ:Col}{a0 u0}{p0:(List Int)}(g0:Rd (Rp.int .i64) κ w 0 a0 u0 p0){r:(List Int)}(h:gT p0=some r):Ret Tryz.prog 128 [.slice a0 p0.length u0] w (λv w'=>∃(κ':Col) (ra0:Option Addr) (ru0:Nat),v= .slice ra0 r.length ru0/\Ent κ w κ' w'/\Oc E6 2 κ' w' 2 ra0 ru0 r):=by
 unfold gT at h
 refine Ret.enter F128 R N128 R ?_
 dsimp only[envOf]
 have hE:=Ent.refl κ w
 refine Je3 R (Jg3 [2,2,1,2] 1 R (Jf R (Je2 U29 R R) (Ob h λx7 hx7 h=>Jl1 (κ:=κ) (E:=E6) (z:=(0:Int)) 2 R R R R R R R Y29 Tryzinfo2 R R R R R (λ_ _ _=>R) (Ju2 hx7) λa7 u7 w1 K2 S3 f4=>⟨tv,Jb 1 R (Jq (Je3 R ?_))⟩)))
 have hN5:(p0.length:Int)<=9223372036854775807:=g0.len_le
 refine Ob h λq2 hq7 hK6=>?_
 clear h
 refine Jx1 (λL w'=>∃κ',∃s3:(List Int),L=[(3,.slice a7 x7.length u7)]/\Stp [2] K2 w1 κ' w'/\Oc E6 2 κ' w' 2 a7 u7 s3/\x7.length=s3.length/\q2=t9 s3) ?_ ?_
 refine Jv (Jy1 (λk L w'=>∃κ' v4,∃s1:(List Int),L=[(0,.slice a0 p0.length u0),(3,.slice a7 x7.length u7),(4,vi v4)]/\Stp [2] K2 w1 κ' w'/\Oc E6 2 κ' w' 2 a7 u7 s1/\x7.length=s1.length/\0<=v4/\vH ((p0.length:Int)-v4)=k/\cntM (fl p0) k v4 s1=some q2) ⟨_,_,⟨K2,0,(x7:(List Int)),R,Jj3,f4,R,(by decide),(by simp),hq7⟩,(KM R)⟩ ?_)
 rintro k _ w13 ⟨K14,v4,s1,rfl,S15,f16,hn17,hj5,hJ5,h⟩
 rcases k with _ | k
 have hk18:=h;obtain⟨o5,h⟩:=bO (t9 (vF s1):(List Int)⊕(((List Int))⊕((List Int))))
 have hc5:decide (v4<(p0.length:Int))=false:=Jo2 (by omega)
 refine Jq (Jg3 [2,2,2,2] 2 R (Jf R (Je2 U29 R R) (Jb 1 R (Jw2 R hc5 (Jc1 (Jt (Jt ?_)))))))
 cases h
 have h:=hk18
 refine Jb1 ?_
 cases h
 exact Jw1 _ ⟨K14,(s1:(List Int)),R,S15.wk R,f16,hn17,R⟩ (KM R)
 obtain⟨o5,h,hk18⟩:=BI h;unfold fl at h
 have hc5:decide (v4<(p0.length:Int))=true:=Jn2 (by omega)
 refine Jq (Jg3 [2,2,2,2] 2 R (Jf R (Je2 U29 R R) (Jb 1 R (Jv2 R hc5 (Js (Jp (Jq (Jv (Jh3 [2,2,2,2,2,1,2,1] 4 R (Ob h λx18 hx18 h=>Jc3 R g0 hx18 U29 Z2 (Jb3 R I2 ((g0.stp (S3.tr S15) R R).gInt hx18) (Ob h λx20 hx20 h=>Jf R (Jf2 f16.rdc hx20 U29 Z2 R R hn17 R) (Ob h λy10 hy10 h=>Jk1 (κ:=K14) (E:=E6) 2 [] R R R R R R R R Z2 R R R R f16 hy10 λw20 K21 S22 f23=>⟨tv,?_⟩)))))))))))))
 have hn24:x7.length=y10.length:=hn17.trans (Jt2 hy10).2.2.2.symm
 refine Jo (Jz (Jp (Jf3 R ?_)))
 have hw5:t5 .i64 (v4+1)=v4+1:=wr1 hj5 (Jm2 hc5) hN5
 rw[hw5]
 have hc5:=Jm2 hc5
 cases h
 exact Jz1 λa ha=>⟨k,_,Ja3 _,⟨K21,v4+1,(y10:(List Int)),R,(S15.tr S22).wk R,f23,hn24,by omega,by omega,hk18⟩,(ha.mm R)⟩
 rintro _ w8 ⟨K9,s3,rfl,S10,f11,hn12,rfl⟩
 have h:=hK6
 dsimp only[aft]at h
 refine Jp (Je3 R (Ju (Ja2 (l:=[.tmp 2]) V128 (Jp2 R R) R ?_)))
 cases h
 exact⟨K9,a7,u7,(by simp only[hn12]),(hE.stp (S3.tr S10) R R),f11⟩
theorem cO {w:World}{κ:Col}{p0:Int}{p1:Int}{p2:Int}  {r:Bool}(h:eo p0 p1 p2=some r):Ret Tryz.prog 57 [vi p0,vi p1,vi p2] w (λv w'=>∃(κ':Col),v= .bool r/\Ent κ w κ' w'):=by
 unfold eo at h
 refine Ret.enter F57 R N57 R ?_
 dsimp only[envOf]
 have hE:=Ent.refl κ w
 refine Je3 R (Jg3 [2,2,2,2,2,2,2,2,2] 4 R (Ob h λp14 h hK1=>Ju1 [(4,2),(5,2),(6,2),(7,2)] [(8,2)] (λL w'=>L=[(6,.bool false),(14,.bool p14)]/\∃κ',Stp [] κ w κ' w') tv ?_ ?_))
 revert h
 cases ht2:decide (p1<=p0)
 refine JF λh=>Jn 4 R ?_
 cases h
 exact Jv1 _ tv ⟨R,_,Jj3⟩ (KM R)
 refine JT λh=>Jn 4 R ?_
 cases h
 exact Jv1 _ tv ⟨R,_,Jj3⟩ (KM R)
 rintro _ w3 _ ⟨rfl,K4,S5⟩
 have h:=hK1
 refine Jb 1 R (Ju (Ja2 (l:=[.tmp 6]) V57 (Jp2 R R) R ?_))
 cases h
 exact⟨K4,R,(hE.stp S5 R R)⟩
theorem kM {w:World}{κ:Col}{a0 u0}{p0:(List Int)}{p1:Int}(g0:Rd (Rp.int .i64) κ w 0 a0 u0 p0){r:Bool}(h:jb p0 p1=some r):Ret Tryz.prog 171 [.slice a0 p0.length u0,vi p1] w (λv w'=>∃(κ':Col),v= .bool r/\Ent κ w κ' w'):=by
 unfold jb at h
 refine Ret.enter F171 R N171 R ?_
 dsimp only[envOf]
 have hE:=Ent.refl κ w
 refine Je3 R (Jq (Je3 R ?_))
 have hN1:(p0.length:Int)<=9223372036854775807:=g0.len_le
 refine Ob h λq2 hq3 hK2=>?_
 clear h
 refine Jx1 (λL w'=>∃κ',L=[]/\Stp [] κ w κ' w'/\q2=t9 ()) ?_ ?_
 refine Jv (Jy1 (λk L w'=>∃κ' v5,L=[(0,.slice a0 p0.length u0),(1,vi p1),(5,vi v5)]/\Stp [] κ w κ' w'/\0<=v5/\vH ((p0.length:Int)-v5)=k/\cntM (ib p0 p1) k v5 ()=some q2) ⟨_,_,⟨κ,0,R,Jj3,(by decide),(by simp),hq3⟩,(KM R)⟩ ?_)
 rintro k _ w7 ⟨K8,v5,rfl,S9,hj1,hJ1,h⟩
 rcases k with _ | k
 have hk10:=h;obtain⟨o1,h⟩:=bO (t9 (vF ()):Bool⊕((Unit)⊕(Unit)))
 have hc1:decide (v5<(p0.length:Int))=false:=Jo2 (by omega)
 refine Jq (Jg3 [2,2,2,2] 2 R (Jf R (Je2 U29 R R) (Jb 1 R (Jw2 R hc1 (Jc1 (Jt (Jt ?_)))))))
 cases h
 have h:=hk10
 refine Jb1 ?_
 cases h
 exact Jw1 _ ⟨K8,R,S9.wk R,R⟩ KN
 obtain⟨o1,h,hk10⟩:=BI h;unfold ib at h
 have hc1:decide (v5<(p0.length:Int))=true:=Jn2 (by omega)
 refine Jq (Jg3 [2,2,2,2] 2 R (Jf R (Je2 U29 R R) (Jb 1 R (Jv2 R hc1 (Js (Jp (Jq (Jv (Jg3 [2,2,2,1,2,2] 2 R (Ob h λx14 hx14 h=>Jc3 R g0 hx14 U29 Z2 (Jb3 R I2 ((g0.stp S9 R R).gInt hx14) (Jb 2 R ?_))))))))))))
 revert h
 cases ht12:(x14==p1)
 refine JF λh=>Jy R (Js (Jz (Jp (Jf3 R ?_))))
 have hw1:t5 .i64 (v5+1)=v5+1:=wr1 hj1 (Jm2 hc1) hN1
 rw[hw1]
 have hc1:=Jm2 hc1
 cases h
 exact Jz1 λa ha=>⟨k,_,Ja3 _,⟨K8,v5+1,R,S9.wk R,by omega,by omega,hk10⟩,(ha.mm R)⟩
 refine JT λh=>Jx R (Je3 R (Ju (Ja1 (Jw (Jw ?_)))))
 cases h
 obtain rfl:=Option.some.inj hk10
 have h:=hK2
 dsimp only[aft]at h
 refine Ja1 (Jq2 (Jw (Ja2 (l:=[.tmp 4]) V171 (Jp2 R R) R ?_)))
 cases h
 exact⟨K8,R,(hE.stp S9 R R)⟩
 rintro _ w4 ⟨K5,rfl,S6,rfl⟩
 have h:=hK2
 dsimp only[aft]at h
 refine Jp (Je3 R (Ju (Ja2 (l:=[.tmp 4]) V171 (Jp2 R R) R ?_)))
 cases h
 exact⟨K5,R,(hE.stp S6 R R)⟩
theorem n5 {w:World}{κ:Col}{a0 u0}{p0:(List Int)}(g0:Rd (Rp.int .i64) κ w 0 a0 u0 p0){r:(List Int)}(h:ia p0=some r):Ret Tryz.prog 123 [.slice a0 p0.length u0] w (λv w'=>∃(κ':Col) (ra0:Option Addr) (ru0:Nat),v= .slice ra0 r.length ru0/\Ent κ w κ' w'/\Oc E6 2 κ' w' 2 ra0 ru0 r):=by
 unfold ia at h
 refine Ret.enter F123 R N123 R ?_
 dsimp only[envOf]
 have hE:=Ent.refl κ w
 refine Je3 R (Je [1,2] R (Jo1 (κ:=κ) (E:=E6) 2 R R R R R Y29 Tryzinfo2 R λa7 u7 w1 K2 S3 f4=>⟨tv,Jb 1 R (Jq (Je3 R ?_))⟩))
 have hN5:(p0.length:Int)<=9223372036854775807:=g0.len_le
 refine Ob h λq2 hq7 hK6=>?_
 clear h
 refine Jx1 (λL w'=>∃κ',∃s3:(List Int),∃ad ac,L=[(3,.slice ad s3.length ac)]/\Stp [3] K2 w1 κ' w'/\Oc E6 2 κ' w' 2 ad ac s3/\q2=t9 s3) ?_ ?_
 refine Jv (Jy1 (λk L w'=>∃κ' v4,∃s1:(List Int),∃aa ab,L=[(0,.slice a0 p0.length u0),(3,.slice aa s1.length ab),(4,vi v4)]/\Stp [3] K2 w1 κ' w'/\Oc E6 2 κ' w' 2 aa ab s1/\0<=v4/\vH ((p0.length:Int)-v4)=k/\cntM (eQ p0) k v4 s1=some q2) ⟨_,_,⟨K2,0,(([]:List Int):(List Int)),a7,u7,R,Jj3,f4,(by decide),(by simp),hq7⟩,(KM R)⟩ ?_)
 rintro k _ w12 ⟨K13,v4,s1,aa,ab,rfl,S14,f15,hj5,hJ5,h⟩
 rcases k with _ | k
 have hk16:=h;obtain⟨o5,h⟩:=bO (t9 (vF s1):(List Int)⊕(((List Int))⊕((List Int))))
 have hc5:decide (v4<(p0.length:Int))=false:=Jo2 (by omega)
 refine Jq (Jg3 [2,2,2,2] 2 R (Jf R (Je2 U29 R R) (Jb 1 R (Jw2 R hc5 (Jc1 (Jt (Jt ?_)))))))
 cases h
 have h:=hk16
 refine Jb1 ?_
 cases h
 exact Jw1 _ ⟨K13,(s1:(List Int)),aa,ab,R,S14.wk R,f15,R⟩ (KM R)
 obtain⟨o5,h,hk16⟩:=BI h;unfold eQ at h
 have hc5:decide (v4<(p0.length:Int))=true:=Jn2 (by omega)
 refine Jq (Jg3 [2,2,2,2] 2 R (Jf R (Je2 U29 R R) (Jb 1 R (Jv2 R hc5 (Js (Jp (Jq (Jv (Jg3 [2,2,2] 1 R (Jf R (Je2 U29 R R) (Jb 1 R (Jq (Ob h λq5 hq19 hK18=>?_)))))))))))))
 clear h
 refine Jx1 (λL w'=>∃κ' s6,L=[(0,.slice a0 p0.length u0),(3,.slice aa s1.length ab),(4,vi v4),(5,vi s6)]/\Stp [] K13 w12 κ' w'/\q5=t9 s6) ?_ ?_
 refine Jv (Jy1 (λk L w'=>∃κ' s4,L=[(0,.slice a0 p0.length u0),(3,.slice aa s1.length ab),(4,vi v4),(5,vi s4)]/\Stp [] K13 w12 κ' w'/\whileM (eq p0 v4 s1) k s4=some q5) ⟨_,_,⟨K13,((s1.length:Int):Int),R,Jj3,hq19⟩,(KM R)⟩ ?_)
 rintro k _ w23 ⟨K24,s4,rfl,S25,h⟩
 rcases k with _ | k
 cases h
 obtain⟨o17,h,hk26⟩:=BI h;unfold eq at h
 refine Jq (Jq (Js1 (κ:=K24) [0,2] none [(0,2),(1,2),(2,2),(3,2),(4,2),(5,2),(6,2),(8,2),(9,2),(10,2),(7,0),(11,0),(12,2),(13,2)] [] (by kernel_rfl) (by kernel_rfl) λw28 S27=>Jn 3 R (Ob h λp29 h hK29=>Ju1 [(3,2),(4,2),(5,2),(6,2),(8,2),(9,2),(10,2),(7,0),(11,0),(12,2),(13,2)] [] (λL w'=>L=[(0,.slice a0 p0.length u0),(3,.slice aa s1.length ab),(4,vi v4),(5,vi s4),(29,.bool p29)]/\∃κ',Stp [] K24 w28 κ' w') (Cl.refl _ _ _) ?_ ?_)))
 revert h
 cases ht30:decide (0<s4)
 refine JF λh=>Jn 7 R (Je1 R R R R (Je1 R R R R (Jn 2 R ?_)))
 cases h
 exact Jv1 _ (Cl.refl _ _ _) ⟨R,_,Jj3⟩ (KM R)
 refine JT λh=>Jn 3 R (Ob h λx22 hx22 h=>Jc3 R f15.rdc hx22 U29 Z2 (Jn 2 R (Ob h λx26 hx26 h=>Jc3 R g0 hx26 U29 Z2 (Jg R (Jc2 I2 R R (hvC ((f15.stp (S25.tr S27) R R).rdc.gInt hx22) R)) (Jg R (Jc2 I2 R R (hvC ((g0.stp (S3.tr (S14.tr (S25.tr S27))) R R).gInt hx26) R)) (Jn 2 R ?_))))))
 cases h
 exact Jv1 _ (Cl.refl _ _ _) ⟨R,_,Jj3⟩ (KM R)
 rintro _ w33 _ ⟨rfl,K34,S35⟩
 have h:=hK29
 refine Jt1 (Jd ?_)
 revert h
 cases ht36:p29
 refine JF λh=>Jy R (Jc1 (Jt (Jt ?_)))
 cases h
 have h:=hk26
 refine Jb1 ?_
 cases h
 exact Jw1 _ ⟨K34,(s4:Int),R,(S25.tr (S27.tr S35)).wk R,R⟩ (KM R)
 refine JT λh=>Jx R (Js (Jp (Jv (Jf3 R (Jz ?_)))))
 cases h
 exact Jz1 λa ha=>⟨k,_,Ja3 _,⟨K34,((IntKind.i64.wrap (s4-1)):Int),R,(S25.tr (S27.tr S35)).wk R,hk26⟩,(ha.mm R)⟩
 rintro _ w20 ⟨K21,s6,rfl,S22,rfl⟩
 have h:=hK18
 dsimp only[aft]at h
 refine Jp (Je [1,2,2,2,1,2] R (Jo1 (κ:=K21) (E:=E6) 3 R R R R R Y29 Tryzinfo2 R λan ah w37 K38 S39 f40=>⟨tv,Jn 2 R (Ob h λx35 hx35 h=>Jf R (kV (k1:= .i64) (k2:= .i64) U29 Z2 (.inl ⟨R,R⟩) (.inr ⟨_,R,R⟩) hx35 f15.rdc.1 R R R) ?_)⟩))
 have f42:=f15.stp (S22.tr S39) R R
 refine Ob h λx36 hx36 h=>Jm1 (κ:=K38) (E:=E6) 3 [] R R R R R R R R R Y29 Tryzinfo2 R R R R f40 (Sl.srcP (bR _) (f42.rdc.sub hx35)) bJ hx36 R λak aj w43 K44 S45 f46=>⟨tv,Jb 1 R (Jg3 [2,2,2,2,1,1,1,2] 3 R (Ob h λx40 hx40 h=>Jc3 R g0 hx40 U29 Z2 (Jb3 R I2 ((g0.stp (S3.tr (S14.tr (S22.tr (S39.tr S45)))) R R).gInt hx40) (Jn1 (κ:=K44) (E:=E6) 4 [] (parts:=[(0,.tmp 41)]) (cells:=[vi x40]) (xs:=([x40]:List Int)) R R R R R R Y29 Tryzinfo2 R R R R R R R R R R ⟨[vi x40],[],Zl K44 w43 [],Zl K44 w43 [],R,Zl.sp (l1:=[]) (l2:=[]) R,Zl.sr (l1:=[]) (l2:=[]),R,R⟩ λao am w48 K49 S50 f51=>⟨tv,Ob h λx43 hx43 h=>Jm1 (κ:=K49) (E:=E6) 3 [] R R R R R R R R R Y29 Tryzinfo2 R R R R (f46.stp S50 R R) (Sl.srcP (bR _) f51.rdc) bJ hx43 R λai al w53 K54 S55 f56=>⟨tv,Jb 1 R (Jh3 [2,2,2,2,1,2] 3 R (Ob h λx47 hx47 h=>Jf R (kV (k1:= .i64) (k2:= .i64) U29 Z2 (.inr ⟨_,R,R⟩) (.inl ⟨R,R⟩) hx47 f42.rdc.1 R R R) (Ob h λx48 hx48 h=>Jm1 (κ:=K54) (E:=E6) 3 [] R R R R R R R R R Y29 Tryzinfo2 R R R R f56 (Sl.srcP (bR _) ((f42.stp (S45.tr (S50.tr S55)) R R).rdc.sub hx47)) bJ hx48 R λae af w59 K60 S61 f62=>⟨tv,Jc 1 R (Jz (Jp (Jf3 R ?_)))⟩)))⟩⟩))))⟩
 have hw5:t5 .i64 (v4+1)=v4+1:=wr1 hj5 (Jm2 hc5) hN5
 rw[hw5]
 have hc5:=Jm2 hc5
 cases h
 exact Jz1 λa ha=>⟨k,_,Ja3 _,⟨(λb=>ren [(3,2)] (K60 b)),v4+1,(x48:(List Int)),ae,af,R,(Jy2 ((S14.tr (S22.tr (S39.tr (S45.tr (S50.tr (S55.tr S61)))))).wk R) [(3,2)] R),(f62.map (ren [(3,2)]) R R),by omega,by omega,hk16⟩,(ha.mm R)⟩
 rintro _ w8 ⟨K9,s3,ad,ac,rfl,S10,f11,rfl⟩
 have h:=hK6
 dsimp only[aft]at h
 refine Jp (Je3 R (Ju (Ja2 (l:=[.tmp 2]) V123 (Jp2 R R) R ?_)))
 cases h
 exact⟨K9,ad,ac,R,(hE.stp (S3.tr S10) R R),f11⟩
theorem nv {w:World}{κ:Col}{aa ak ad af ai ae ac ab aj ah}{p0:l7Game}{p1:Int}{p2:Int}(g0_0:Rd (Rp.int .i64) κ w 0 aa ak p0.owner) (g0_1:Rd (Rp.int .i64) κ w 0 ad af p0.prio) (g0_2:Rd (Rp.sl (Rp.int .i64)) κ w 0 ai ae p0.next) (g0_3:Rd (Rp.sl (Rp.int .i64)) κ w 0 ac ab p0.prev) (g0_4:Rd (Rp.int .i64) κ w 0 aj ah p0.pick){r:Bool}(h:ke p0 p1 p2=some r):Ret Tryz.prog 251 [.agg #[.slice aa p0.owner.length ak,.slice ad p0.prio.length af,.slice ai p0.next.length ae,.slice ac p0.prev.length ab,.slice aj p0.pick.length ah],vi p1,vi p2] w (λv w'=>∃(κ':Col),v= .bool r/\Ent κ w κ' w'):=by
 unfold ke at h
 refine Ret.enter F251 R N251 R ?_
 dsimp only[envOf]
 have hE:=Ent.refl κ w
 refine Je [1,2] R (Jf1 (κ:=κ) 2 R R R R R R R λb3 w1 K2 S3 f4=>⟨tv,Jb 1 R (Je [2,1,2,2,1,2,2,2,1,2,2,1,2,2,2,2] R (Jd3 R U191 R Z29 (Jb3 R I29 (f4.ld 4 R R) (Jn 1 R (Ob h λx10 hx10 h=>Jc3 R g0_4 hx10 U29 Z2 ?_)))))⟩)
 have f5:=g0_4.stp S3 R R
 refine Jb3 R I2 (f5.gInt hx10) (Jn 2 R (Ob h λp21 h hK6=>Ju1 [(7,2),(8,1),(9,2),(10,2),(11,1),(12,2),(13,2),(14,2)] [(15,2)] (λL w'=>L=[(6,.bool false),(21,.bool p21)]/\∃κ',Stp [] K2 w1 κ' w') tv ?_ ?_))
 revert h
 cases ht7:decide (x10<0)
 refine JF λh=>Jd3 R U191 R Z29 (Jb3 R I29 (f4.ld 4 R R) (Jn 1 R (Ob h λx17 hx17 h=>Jc3 R f5 hx17 U29 Z2 (Jb3 R I2 (f5.gInt hx17) (Jn 3 R ?_)))))
 cases h
 exact Jv1 _ tv ⟨R,_,Jj3⟩ (KM R)
 refine JT λh=>Jn 1 R (Jd1 R R R R (Jn 2 R (Jd1 R R R R (Jn 3 R ?_))))
 cases h
 exact Jv1 _ tv ⟨R,_,Jj3⟩ (KM R)
 rintro _ w8 _ ⟨rfl,K9,S10⟩
 have h:=hK6
 refine Jb 1 R (Ju (Ja2 (l:=[.tmp 6]) V251 (Jp2 R R) R ?_))
 cases h
 exact⟨K9,R,(hE.stp (S3.tr S10) R R)⟩
theorem rU {w:World}{κ:Col}{p0:Int}  {r:(List Bool)}(h:mD p0=some r):Ret Tryz.prog 214 [vi p0] w (λv w'=>∃(κ':Col) (ra0:Option Addr) (ru0:Nat),v= .slice ra0 r.length ru0/\Ent κ w κ' w'/\Oc Ep.bool 4 κ' w' 2 ra0 ru0 r):=by
 unfold mD at h
 refine Ret.enter F214 R N214 R ?_
 dsimp only[envOf]
 have hE:=Ent.refl κ w
 refine Je3 R (Jg3 [2,1,2] 1 R (Ob h λx6 hx6 h=>Jl1 (κ:=κ) (E:=Ep.bool) (z:=(false:Bool)) 2 R R R R R R R Y193 Tryzinfo4 R R R R R (λ_ _ _=>R) (Ju2 hx6) λa6 u6 w1 K2 S3 f4=>⟨tv,Jb 1 R (Jq (Je3 R (Ob h λ_ hr5 h=>?_)))⟩))
 have hN5:=iF hr5
 refine Ob h λq2 hq7 hK6=>?_
 clear h
 refine Jx1 (λL w'=>∃κ',∃s3:(List Bool),L=[(3,.slice a6 x6.length u6)]/\Stp [2] K2 w1 κ' w'/\Oc Ep.bool 4 κ' w' 2 a6 u6 s3/\x6.length=s3.length/\q2=t9 s3) ?_ ?_
 refine Jv (Jy1 (λk L w'=>∃κ' v4,∃s1:(List Bool),L=[(0,vi p0),(3,.slice a6 x6.length u6),(4,vi v4)]/\Stp [2] K2 w1 κ' w'/\Oc Ep.bool 4 κ' w' 2 a6 u6 s1/\x6.length=s1.length/\0<=v4/\vH (p0-v4)=k/\cntM jF k v4 s1=some q2) ⟨_,_,⟨K2,0,(x6:(List Bool)),R,Jj3,f4,R,(by decide),(by simp),hq7⟩,(KM R)⟩ ?_)
 rintro k _ w13 ⟨K14,v4,s1,rfl,S15,f16,hn17,hj5,hJ5,h⟩
 rcases k with _ | k
 have hk18:=h;obtain⟨o5,h⟩:=bO (t9 (vF s1):(List Bool)⊕(((List Bool))⊕((List Bool))))
 have hc5:decide (v4<p0)=false:=Jo2 (by omega)
 refine Jq (Je3 R (Jw2 R hc5 (Jc1 (Jt (Jt ?_)))))
 cases h
 have h:=hk18
 refine Jb1 ?_
 cases h
 exact Jw1 _ ⟨K14,(s1:(List Bool)),R,S15.wk R,f16,hn17,R⟩ (KM R)
 obtain⟨o5,h,hk18⟩:=BI h;unfold jF at h
 have hc5:decide (v4<p0)=true:=Jn2 (by omega)
 refine Jq (Je3 R (Jv2 R hc5 (Js (Jp (Jq (Jv (Jh3 [2,2,2,1] 2 R (Ob h λx14 hx14 h=>Jf R (Jf2 f16.rdc hx14 U193 Z4 R R hn17 R) (Ob h λy237 hy237 h=>Jk1 (κ:=K14) (E:=Ep.bool) 2 [] R R R R R R R R Z4 R R R R f16 hy237 λw19 K20 S21 f22=>⟨tv,?_⟩)))))))))
 have hn23:x6.length=y237.length:=hn17.trans (Jt2 hy237).2.2.2.symm
 refine Jo (Jz (Jp (Jf3 R ?_)))
 have hw5:t5 .i64 (v4+1)=v4+1:=wr1 hj5 (Jm2 hc5) hN5
 rw[hw5]
 have hc5:=Jm2 hc5
 cases h
 exact Jz1 λa ha=>⟨k,_,Ja3 _,⟨K20,v4+1,(y237:(List Bool)),R,(S15.tr S21).wk R,f22,hn23,by omega,by omega,hk18⟩,(ha.mm R)⟩
 rintro _ w8 ⟨K9,s3,rfl,S10,f11,hn12,rfl⟩
 have h:=hK6
 dsimp only[aft]at h
 refine Jp (Je3 R (Ju (Ja2 (l:=[.tmp 2]) V214 (Jp2 R R) R ?_)))
 cases h
 exact⟨K9,a6,u6,(by simp only[hn12]),(hE.stp (S3.tr S10) R R),f11⟩
theorem oQ {w:World}{κ:Col}{p0:Int}  {r:Bool}(h:jL p0=some r):Ret Tryz.prog 218 [vi p0] w (λv w'=>∃(κ':Col),v= .bool r/\Ent κ w κ' w'):=by
 unfold jL at h
 refine Ret.enter F218 R N218 R ?_
 dsimp only[envOf]
 have hE:=Ent.refl κ w
 refine Je3 R (Jg3 [2,2,2,2,2,2,2,2,2,2,2] 3 R (Ob h λp8 h hK1=>Ju1 [(3,2),(4,2),(5,2)] [(6,2),(7,2),(8,2),(9,2),(10,2)] (λL w'=>L=[(0,vi p0),(2,.bool false),(8,.bool p8)]/\∃κ',Stp [] κ w κ' w') tv ?_ ?_))
 revert h
 cases ht2:(p0==2)
 refine JF λh=>Jn 3 R ?_
 cases h
 exact Jv1 _ tv ⟨R,_,Jj3⟩ (KM R)
 refine JT λh=>Jn 3 R ?_
 cases h
 exact Jv1 _ tv ⟨R,_,Jj3⟩ (KM R)
 rintro _ w3 _ ⟨rfl,K4,S5⟩
 have h:=hK1
 refine Jn 1 R (Ob h λp12 h hK6=>Ju1 [(7,2),(8,2),(9,2)] [(10,2)] (λL w'=>L=[(2,.bool false),(12,.bool p12)]/\∃κ',Stp [] K4 w3 κ' w') tv ?_ ?_)
 revert h
 cases ht7:p8
 refine JF λh=>Jn 3 R ?_
 cases h
 exact Jv1 _ tv ⟨R,_,Jj3⟩ (KM R)
 refine JT λh=>Jn 3 R ?_
 cases h
 exact Jv1 _ tv ⟨R,_,Jj3⟩ (KM R)
 rintro _ w8 _ ⟨rfl,K9,S10⟩
 have h:=hK6
 refine Jb 1 R (Ju (Ja2 (l:=[.tmp 2]) V218 (Jp2 R R) R ?_))
 cases h
 exact⟨K9,R,(hE.stp (S5.tr S10) R R)⟩
theorem m5 {w:World}{κ:Col}{p0:Int}{p1:Int}{p2:Bool}{p3:Bool}  {r:Int}(h:fB p0 p1 p2 p3=some r):Ret Tryz.prog 182 [vi p0,vi p1,.bool p2,.bool p3] w (λv w'=>∃(κ':Col),v=vi r/\Ent κ w κ' w'):=by
 unfold fB at h
 refine Ret.enter F182 R N182 R ?_
 dsimp only[envOf]
 have hE:=Ent.refl κ w
 refine Je3 R (Je3 R (Jq (Je3 R (Ob h λq1 h hK1=>Jx1 (λL w'=>∃κ',L=[(0,vi p0),(1,vi p1),(3,.bool p3),(9,vi q1),(10,vi 0)]/\Stp [] κ w κ' w') ?_ ?_))))
 revert h
 cases ht5:p2
 refine JF λh=>Jy R (Js ?_)
 cases h
 exact Jw1 _ ⟨κ,R,Jj3⟩ (KM R)
 refine JT λh=>Jx R (Jf3 R ?_)
 cases h
 exact Jw1 _ ⟨κ,R,Jj3⟩ (KM R)
 rintro _ w2 ⟨K3,rfl,S4⟩
 have h:=hK1
 refine Jp (Jq (Je3 R (Ob h λq2 h hK6=>Jx1 (λL w'=>∃κ',L=[(0,vi p0),(1,vi p1),(3,.bool q2.1),(9,vi q1),(10,vi q2.2)]/\Stp [] K3 w2 κ' w') ?_ ?_)))
 revert h
 cases ht10:p3
 refine JF λh=>Jy R (Js ?_)
 cases h
 exact Jw1 _ ⟨K3,R,Jj3⟩ (KM R)
 refine JT λh=>Jx R (Jf3 R ?_)
 cases h
 exact Jw1 _ ⟨K3,R,Jj3⟩ (KM R)
 rintro _ w7 ⟨K8,rfl,S9⟩
 have h:=hK6
 refine Jp (Jq (Je3 R (Jv (Je3 R ?_))))
 revert h
 cases ht11:(p0==1)
 refine JF λh=>Jy R (Je3 R ?_)
 revert h
 cases ht13:(p0==2)
 refine JF λh=>Jy R (Je3 R ?_)
 revert h
 cases ht27:(p0==3)
 refine JF λh=>Jy R (Je3 R ?_)
 revert h
 cases ht31:(p0==4)
 refine JF λh=>Jy R (Je3 R ?_)
 revert h
 cases ht33:(p0==5)
 refine JF λh=>Jy R (Je3 R ?_)
 revert h
 cases ht35:(p0==6)
 refine JF λh=>Jy R (Js (Jz (Jp (Je3 R (Ju (Ja2 (l:=[.tmp 8]) V182 (Jp2 R R) R ?_))))))
 cases h
 exact⟨K8,R,(hE.stp (S4.tr S9) R R)⟩
 refine JT λh=>Jx R (Jg3 [2,2,2,2] 2 R (Jf R (qA R R R) (Jb 1 R (Ju (Ja1 (Jw (Ja2 (l:=[.tmp 8]) V182 (Jp2 R R) R ?_)))))))
 cases h
 exact⟨K8,R,(hE.stp (S4.tr S9) R R)⟩
 refine JT λh=>Jx R (Je3 R (Ju (Ja1 (Jw (Ja2 (l:=[.tmp 8]) V182 (Jp2 R R) R ?_)))))
 cases h
 exact⟨K8,R,(hE.stp (S4.tr S9) R R)⟩
 refine JT λh=>Jx R (Je3 R (Ju (Ja1 (Jw (Ja2 (l:=[.tmp 8]) V182 (Jp2 R R) R ?_)))))
 cases h
 exact⟨K8,R,(hE.stp (S4.tr S9) R R)⟩
 refine JT λh=>Jx R (Jq (Je3 R ?_))
 revert h
 cases ht28:q2.1
 refine JF λh=>Jy R (Js (Jp (Jg3 [2,2,2,2] 2 R (Jf R (qA R R R) (Jb 1 R (Ju (Ja1 (Jw (Ja2 (l:=[.tmp 8]) V182 (Jp2 R R) R ?_)))))))))
 cases h
 exact⟨K8,R,(hE.stp (S4.tr S9) R R)⟩
 refine JT λh=>Jx R (Je3 R (Ju (Jw (Ja1 (Jw (Ja2 (l:=[.tmp 8]) V182 (Jp2 R R) R ?_))))))
 cases h
 exact⟨K8,R,(hE.stp (S4.tr S9) R R)⟩
 refine JT λh=>Jx R (Jq (Jg3 [2,2,2,2,2,2,2,2,2,2] 3 R (Ob h λp31 h hK14=>Ju1 [(3,2),(4,2),(5,2),(6,2),(7,2),(8,2),(9,2)] [] (λL w'=>L=[(9,vi q1),(31,.bool p31)]/\∃κ',Stp [] K8 w7 κ' w') tv ?_ ?_)))
 revert h
 cases ht15:(p1==2)
 refine JF λh=>Jn 3 R (Ob h λp30 h hK16=>Ju1 [(6,2),(7,2),(8,2)] [(9,2)] (λL w'=>L=[(9,vi q1),(24,.bool false),(30,.bool p30)]/\∃κ',Stp [] K8 w7 κ' w') tv ?_ ?_)
 revert h
 cases ht17:(p1==1)
 refine JF λh=>Jn 3 R ?_
 cases h
 exact Jv1 _ tv ⟨R,_,Jj3⟩ (KM R)
 refine JT λh=>Jn 3 R ?_
 cases h
 exact Jv1 _ tv ⟨R,_,Jj3⟩ (KM R)
 rintro _ w18 _ ⟨rfl,K19,S20⟩
 have h:=hK16
 refine Jn 1 R ?_
 cases h
 exact Jv1 _ tv ⟨R,_,S20.wk R⟩ (KM R)
 refine JT λh=>Jn 7 R ?_
 cases h
 exact Jv1 _ tv ⟨R,_,Jj3⟩ (KM R)
 rintro _ w21 _ ⟨rfl,K22,S23⟩
 have h:=hK14
 refine Jd ?_
 revert h
 cases ht24:p31
 refine JF λh=>Jy R (Js (Jp (Je3 R (Ju (Ja1 (Jw (Ja2 (l:=[.tmp 8]) V182 (Jp2 R R) R ?_)))))))
 cases h
 exact⟨K22,R,(hE.stp (S4.tr (S9.tr S23)) R R)⟩
 refine JT λh=>Jx R (Je3 R (Ju (Jw (Ja1 (Jw (Ja2 (l:=[.tmp 8]) V182 (Jp2 R R) R ?_))))))
 cases h
 exact⟨K22,R,(hE.stp (S4.tr (S9.tr S23)) R R)⟩
 refine JT λh=>Jx R (Jg3 [2,2,2,2,2] 3 R (Jf R (qA R R R) (Jb 1 R (Ju (Ja1 (Jw (Ja2 (l:=[.tmp 8]) V182 (Jp2 R R) R ?_)))))))
 cases h
 exact⟨K8,R,(hE.stp (S4.tr S9) R R)⟩
theorem gX {w:World}{κ:Col}{p0:Sig}  {r:Int}(h:fG p0=some r):Ret Tryz.prog 52 [.agg #[vi p0.In,vi p0.Out]] w (λv w'=>∃(κ':Col),v=vi r/\Ent κ w κ' w'):=by
 unfold fG at h
 refine Ret.enter F52 R N52 R ?_
 dsimp only[envOf]
 have hE:=Ent.refl κ w
 refine Je [1,2] R (Jf1 (κ:=κ) 2 R R R R R R R λb1 w1 K2 S3 f4=>⟨tv,Jb 1 R (Je [2,1,2,2] R (Jd3 R U25 R Z2 (Jb3 R I2 (f4.ld 0 R R) (Ob h λ_z5 hz5 h=>Jf R (qp R R R (sO hz5)) (Jb 1 R (Ju (Ja2 (l:=[.tmp 2]) V52 (Jp2 R R) R ?_)))))))⟩)
 cases h
 exact⟨K2,R,(hE.stp S3 R R)⟩
theorem o4 {w:World}{κ:Col}{ah ak ai aj}{p0:Pair}(g0_0:Rd (Rp.int .i64) κ w 0 ah ak p0.Ask) (g0_1:Rd (Rp.int .i64) κ w 0 ai aj p0.Give){r:Pair}(h:kn p0=some r):Ret Tryz.prog 135 [.agg #[.slice ah p0.Ask.length ak,.slice ai p0.Give.length aj]] w (λv w'=>∃(κ':Col) (ra0:Option Addr) (ru0:Nat) (ra1:Option Addr) (ru1:Nat),v= .agg #[.slice ra0 r.Ask.length ru0,.slice ra1 r.Give.length ru1]/\Ent κ w κ' w'/\Oc E6 2 κ' w' 2 ra0 ru0 r.Ask/\Oc E6 2 κ' w' 3 ra1 ru1 r.Give):=by
 unfold kn at h
 refine Ret.enter F135 R N135 R ?_
 dsimp only[envOf]
 have hE:=Ent.refl κ w
 refine Je [1,1] R (Jf1 (κ:=κ) 2 R R R R R R R λb1 w1 K2 S3 f4=>⟨tv,Jg1 (κ:=K2) 3 R R R R R X154 R λb2 w5 K6 S7 f8=>⟨tv,Jd (Jq (Ob h λx6 hx6 h=>Ob h λx10 hx10 h=>Jx1 (λL w'=>∃κ' af ac ad ae,L=[(2,.pointer (some ⟨b2,0,none⟩))]/\Stp [3,4,5] K6 w5 κ' w'/\Oc E6 2 κ' w' 4 af ac x6/\Oc E6 2 κ' w' 5 ad ae x10/\Bc κ' w' 3 b2 154 [.slice af x6.length ac,.slice ad x10.length ae]) ?_ ?_))⟩⟩)
 refine WC.rxt (κ:=K6) [2] none (by kernel_rfl) λw16 S17=>Jq1 (fuel:=6) [(1,2),(5,2),(2,0),(6,0)] (by kernel_rfl) (by kernel_rfl) R (Jd3 R U154 R Z29 (Jd3 R U154 R Z29 ?_))
 have f18:=f4.stp (S7.tr S17) R R
 refine Jg R (Jc2 I29 R R (hvC (f18.ld 0 R R) R)) (Jg R (Jc2 I29 R R (hvC (f18.ld 1 R R) R)) (Jp1 (WA.fork2 (fuel:=5) 0 4 (by kernel_rfl) R ?_ ?_)))
 refine Jo1 (κ:=K6) (E:=E6) 4 R R R R R Y29 Tryzinfo2 R λa3 u3 w19 K20 S21 f22=>⟨(S21.cl R),Jp1 (WA.fork2 (fuel:=4) 3 4 (by kernel_rfl) R ?_ ?_)⟩
 have S001:=(S3.tr (S7.tr (S17.tr S21)))
 exact Jm1 (κ:=K20) (E:=E6) 4 [] R R R R R R R R R Y29 Tryzinfo2 R R R R f22 (Sl.srcP (bR _) (g0_0.stp S001 R R)) bJ hx6 R λa6 u6 w24 K25 S26 f27=>⟨((S21.tr S26).cl R),Jp1 (Jq1 (fuel:=0) [(4,1),(7,1),(8,2),(9,1)] (by kernel_rfl) (by kernel_rfl) R (Jo1 (κ:=K25) (E:=E6) 5 R R R R R Y29 Tryzinfo2 R λa7 u7 w28 K29 S30 f31=>⟨((S21.tr (S26.tr S30)).cl R),Jm1 (κ:=K29) (E:=E6) 5 [] R R R R R R R R R Y29 Tryzinfo2 R R R R f31 (Sl.srcP (bR _) (g0_1.stp (S001.tr (S26.tr S30)) R R)) bJ hx10 R λaa ab w33 K34 S35 f36=>⟨((S21.tr (S26.tr (S30.tr S35))).cl R),Jf R (bI (parts:=[(0,.tmp 6),(1,.tmp 10)]) (cells:=[.slice a6 x6.length u6,.slice aa x10.length ab]) R R (by kernel_rfl)) (Jj1 (κ:=K34) 3 (vc:=[.slice a6 x6.length u6,.slice aa x10.length ab]) R R R R R R R Z154 R R (f8.stp (S17.tr (S21.tr (S26.tr (S30.tr S35)))) R R) R λw38 S39 f40=>⟨((S21.tr (S26.tr (S30.tr (S35.tr S39)))).cl R),Jp1 (Jr1 [] (by kernel_rfl) (by kernel_rfl) R (Jo (Jw1 _ ⟨K34,a6,u6,aa,ab,R,(S17.tr (S21.tr (S26.tr (S30.tr (S35.tr S39))))).wk R,(f27.stp (S30.tr (S35.tr S39)) R R),(f36.stp S39 R R),f40⟩ (KM R))))⟩)⟩⟩))⟩
 have S002:=(S3.tr (S7.tr (S17.tr S21)))
 exact Jo1 (κ:=K20) (E:=E6) 5 R R R R R Y29 Tryzinfo2 R λa7 u7 w43 K44 S45 f46=>⟨((S21.tr S45).cl R),Jp1 (Jq1 (fuel:=0) [(3,1),(7,1),(8,2),(9,1)] (by kernel_rfl) (by kernel_rfl) R (Jm1 (κ:=K44) (E:=E6) 4 [] R R R R R R R R R Y29 Tryzinfo2 R R R R (f22.stp S45 R R) (Sl.srcP (bR _) (g0_0.stp (S002.tr S45) R R)) bJ hx6 R λa6 u6 w49 K50 S51 f52=>⟨((S21.tr (S45.tr S51)).cl R),Jm1 (κ:=K50) (E:=E6) 5 [] R R R R R R R R R Y29 Tryzinfo2 R R R R (f46.stp S51 R R) (Sl.srcP (bR _) (g0_1.stp (S002.tr (S45.tr S51)) R R)) bJ hx10 R λaa ab w55 K56 S57 f58=>⟨((S21.tr (S45.tr (S51.tr S57))).cl R),Jf R (bI (parts:=[(0,.tmp 6),(1,.tmp 10)]) (cells:=[.slice a6 x6.length u6,.slice aa x10.length ab]) R R (by kernel_rfl)) (Jj1 (κ:=K56) 3 (vc:=[.slice a6 x6.length u6,.slice aa x10.length ab]) R R R R R R R Z154 R R (f8.stp (S17.tr (S21.tr (S45.tr (S51.tr S57)))) R R) R λw60 S61 f62=>⟨((S21.tr (S45.tr (S51.tr (S57.tr S61)))).cl R),Jp1 (Jr1 [] (by kernel_rfl) (by kernel_rfl) R (Jo (Jw1 _ ⟨K56,a6,u6,aa,ab,R,(S17.tr (S21.tr (S45.tr (S51.tr (S57.tr S61))))).wk R,(f52.stp (S57.tr S61) R R),(f58.stp S61 R R),f62⟩ (KM R))))⟩)⟩⟩))⟩
 exact Jo1 (κ:=K6) (E:=E6) 4 R R R R R Y29 Tryzinfo2 R λa7 u7 w65 K66 S67 f68=>⟨(S67.cl R),Jp1 (Jq1 (fuel:=0) [(0,1),(3,1),(7,1),(8,2),(9,1)] (by kernel_rfl) (by kernel_rfl) R (Jo1 (κ:=K66) (E:=E6) 5 R R R R R Y29 Tryzinfo2 R λa3 u3 w69 K70 S71 f72=>⟨((S67.tr S71).cl R),Jm1 (κ:=K70) (E:=E6) 5 [] R R R R R R R R R Y29 Tryzinfo2 R R R R f72 (Sl.srcP (bR _) (g0_0.stp (S3.tr (S7.tr (S17.tr (S67.tr S71)))) R R)) bJ hx6 R λa6 u6 w74 K75 S76 f77=>⟨((S67.tr (S71.tr S76)).cl R),Jm1 (κ:=K75) (E:=E6) 4 [] R R R R R R R R R Y29 Tryzinfo2 R R R R (f68.stp (S71.tr S76) R R) (Sl.srcP (bR _) (g0_1.stp (S3.tr (S7.tr (S17.tr (S67.tr (S71.tr S76))))) R R)) bJ hx10 R λaa ab w80 K81 S82 f83=>⟨((S67.tr (S71.tr (S76.tr S82))).cl R),Jf R (bI (parts:=[(0,.tmp 6),(1,.tmp 10)]) (cells:=[.slice a6 x6.length u6,.slice aa x10.length ab]) R R (by kernel_rfl)) (Jj1 (κ:=K81) 3 (vc:=[.slice a6 x6.length u6,.slice aa x10.length ab]) R R R R R R R Z154 R R (f8.stp (S17.tr (S67.tr (S71.tr (S76.tr S82)))) R R) R λw85 S86 f87=>⟨((S67.tr (S71.tr (S76.tr (S82.tr S86)))).cl R),Jp1 (Jr1 [] (by kernel_rfl) (by kernel_rfl) R (Jo (Jw1 _ ⟨(λb=>ren [(5,4),(4,5)] (K81 b)),a6,u6,aa,ab,R,(Jy2 ((S17.tr (S67.tr (S71.tr (S76.tr (S82.tr S86))))).wk R) [(5,4),(4,5)] R),((f77.stp (S82.tr S86) R R).map (ren [(5,4),(4,5)]) R R),((f83.stp S86 R R).map (ren [(5,4),(4,5)]) R R),(f87.map (ren [(5,4),(4,5)]) R R)⟩ (KM R))))⟩)⟩⟩⟩))⟩
 rintro _ w9 ⟨K10,af,ac,ad,ae,rfl,S11,f13,f14,f15⟩
 refine Jp (Ju (Ja2 (l:=[.cell 2 154]) V135 (bL R f15 I154 Z154 R R) R ?_))
 cases h
 exact⟨(λb=>ren [(4,2),(5,3)] (K10 b)),af,ac,ad,ae,R,((hE.stp (S3.tr (S7.tr S11)) R R).map (ren [(4,2),(5,3)]) R R),(f13.map (ren [(4,2),(5,3)]) R R),(f14.map (ren [(4,2),(5,3)]) R R)⟩
theorem mZ {w:World}{κ:Col}{ab ad aa ac}{p0:Arena}(g0_0:Rd (Rp.int .i64) κ w 0 ab ad p0.Owner) (g0_1:Rd (Rp.sl (Rp.int .i64)) κ w 0 aa ac p0.Next){r:Int}(h:kG p0=some r):Ret Tryz.prog 193 [.agg #[.slice ab p0.Owner.length ad,.slice aa p0.Next.length ac]] w (λv w'=>∃(κ':Col),v=vi r/\Ent κ w κ' w'):=by
 unfold kG at h
 refine Ret.enter F193 R N193 R ?_
 dsimp only[envOf]
 have hE:=Ent.refl κ w
 refine Je [1,2] R (Jf1 (κ:=κ) 2 R R R R R R R λb1 w1 K2 S3 f4=>⟨tv,Jb 1 R (Je [2,1,2,2] R (Jd3 R U104 R Z29 (Jb3 R I29 (f4.ld 0 R R) (Jf R (Je2 U29 R R) (Jb 1 R (Ju (Ja2 (l:=[.tmp 2]) V193 (Jp2 R R) R ?_)))))))⟩)
 cases h
 exact⟨K2,R,(hE.stp S3 R R)⟩
theorem kg {w:World}{κ:Col}{a0 u0}{p0:(List Int)}{a1 u1}{p1:(List Int)}(g0:Rd (Rp.int .i64) κ w 0 a0 u0 p0) (g1:Rd (Rp.int .i64) κ w 0 a1 u1 p1){r:Bool}(h:cJ p0 p1=some r):Ret Tryz.prog 65 [.slice a0 p0.length u0,.slice a1 p1.length u1] w (λv w'=>∃(κ':Col),v= .bool r/\Ent κ w κ' w'):=by
 unfold cJ at h
 refine Ret.enter F65 R N65 R ?_
 dsimp only[envOf]
 have hE:=Ent.refl κ w
 refine Je3 R (Jq (Jg3 [2,2,2,2,2] 1 R (Jf R (Je2 U29 R R) (Jn 1 R (Jf R (Je2 U29 R R) (Jb 1 R ?_))))))
 revert h
 cases ht1:((p0.length:Int) !=(p1.length:Int))
 refine JF λh=>Jy R (Js (Jp (Jq (Jg3 [2,2,2] 1 R (Jf R (Je2 U29 R R) (Jb 1 R ?_))))))
 have hN2:(p0.length:Int)<=9223372036854775807:=g0.len_le
 refine Ob h λq2 hq4 hK3=>?_
 clear h
 refine Jx1 (λL w'=>∃κ',L=[]/\Stp [] κ w κ' w'/\q2=t9 ()) ?_ ?_
 refine Jv (Jy1 (λk L w'=>∃κ' v13,L=[(0,.slice a0 p0.length u0),(1,.slice a1 p1.length u1),(12,vi (p0.length:Int)),(13,vi v13)]/\Stp [] κ w κ' w'/\0<=v13/\vH ((p0.length:Int)-v13)=k/\cntM (cB p0 p1) k v13 ()=some q2) ⟨_,_,⟨κ,0,R,Jj3,(by decide),(by simp),hq4⟩,(KM R)⟩ ?_)
 rintro k _ w8 ⟨K9,v13,rfl,S10,hj2,hJ2,h⟩
 rcases k with _ | k
 have hk11:=h;obtain⟨o2,h⟩:=bO (t9 (vF ()):Bool⊕((Unit)⊕(Unit)))
 have hc2:decide (v13<(p0.length:Int))=false:=Jo2 (by omega)
 refine Je3 R (Jq (Jw2 R hc2 (Jc1 (Jt (Jt ?_)))))
 cases h
 have h:=hk11
 refine Jb1 ?_
 cases h
 exact Jw1 _ ⟨K9,R,S10.wk R,R⟩ KN
 obtain⟨o2,h,hk11⟩:=BI h;unfold cB at h
 have hc2:decide (v13<(p0.length:Int))=true:=Jn2 (by omega)
 refine Je3 R (Jq (Jv2 R hc2 (Js (Jp (Jq (Jv (Je3 R (Jq (Js1 (κ:=K9) [0] none [(0,2),(1,2),(2,2),(4,2),(5,2),(6,2),(3,0),(7,0),(8,2)] [] (by kernel_rfl) (by kernel_rfl) λw13 S12=>Jn 2 R (Ob h λx18 hx18 h=>Jc3 R g0 hx18 U29 Z2 (Jn 2 R (Ob h λx22 hx22 h=>Jc3 R g1 hx22 U29 Z2 (Jg R (Jc2 I2 R R (hvC ((g0.stp (S10.tr S12) R R).gInt hx18) R)) (Jg R (Jc2 I2 R R (hvC ((g1.stp (S10.tr S12) R R).gInt hx22) R)) (Jn 1 R (Jt1 (Jd ?_)))))))))))))))))
 revert h
 cases ht16:(x18 !=x22)
 refine JF λh=>Jy R (Js (Jz (Jp (Jf3 R ?_))))
 have hw2:t5 .i64 (v13+1)=v13+1:=wr1 hj2 (Jm2 hc2) hN2
 rw[hw2]
 have hc2:=Jm2 hc2
 cases h
 exact Jz1 λa ha=>⟨k,_,Ja3 _,⟨K9,v13+1,R,(S10.tr S12).wk R,by omega,by omega,hk11⟩,(ha.mm R)⟩
 refine JT λh=>Jx R (Je3 R (Ju (Ja1 (Jw (Jw ?_)))))
 cases h
 obtain rfl:=Option.some.inj hk11
 have h:=hK3
 dsimp only[aft]at h
 refine Ja1 (Jq2 (Jw (Ja2 (l:=[.tmp 4]) V65 (Jp2 R R) R ?_)))
 cases h
 exact⟨K9,R,(hE.stp (S10.tr S12) R R)⟩
 rintro _ w5 ⟨K6,rfl,S7,rfl⟩
 have h:=hK3
 dsimp only[aft]at h
 refine Jp (Je3 R (Ju (Ja2 (l:=[.tmp 4]) V65 (Jp2 R R) R ?_)))
 cases h
 exact⟨K6,R,(hE.stp S7 R R)⟩
 refine JT λh=>Jx R (Je3 R (Ju (Jw (Ja2 (l:=[.tmp 4]) V65 (Jp2 R R) R ?_))))
 cases h
 exact⟨κ,R,hE⟩
theorem rA {w:World}{κ:Col}{ac af ad ae}{p0:Arena}{a1 u1}{p1:(List Int)}(g0_0:Rd (Rp.int .i64) κ w 0 ac af p0.Owner) (g0_1:Rd (Rp.sl (Rp.int .i64)) κ w 0 ad ae p0.Next) (g1:Rd (Rp.int .i64) κ w 0 a1 u1 p1){r:(List Bool)}(h:lw p0 p1=some r):Ret Tryz.prog 188 [.agg #[.slice ac p0.Owner.length af,.slice ad p0.Next.length ae],.slice a1 p1.length u1] w (λv w'=>∃(κ':Col) (ra0:Option Addr) (ru0:Nat),v= .slice ra0 r.length ru0/\Ent κ w κ' w'/\Oc Ep.bool 4 κ' w' 2 ra0 ru0 r):=by
 unfold lw at h
 refine Ret.enter F188 R N188 R ?_
 dsimp only[envOf]
 have hE:=Ent.refl κ w
 refine Je [1,2] R (Jf1 (κ:=κ) 2 R R R R R R R λb2 w1 K2 S3 f4=>⟨tv,Jb 1 R (Je [2,1,2,1,2] R (Jd3 R U104 R Z29 (Jb3 R I29 (f4.ld 0 R R) (Jf R (Je2 U29 R R) (Ob h λx11 hx11 h=>Jl1 (κ:=K2) (E:=Ep.bool) (z:=(false:Bool)) 3 R R R R R R R Y193 Tryzinfo4 R R R R R (λ_ _ _=>R) (Ju2 hx11) λaa ab w5 K6 S7 f8=>⟨tv,Jb 1 R (Jq (Jg3 [2,2,2] 1 R (Jf R (Je2 U29 R R) (Jb 1 R ?_))))⟩)))))⟩)
 have hN9:(p1.length:Int)<=9223372036854775807:=g1.len_le
 refine Ob h λq2 hq11 hK10=>?_
 clear h
 refine Jx1 (λL w'=>∃κ',∃s3:(List Bool),L=[(5,.slice aa x11.length ab)]/\Stp [3] K6 w5 κ' w'/\Oc Ep.bool 4 κ' w' 3 aa ab s3/\x11.length=s3.length/\q2=t9 s3) ?_ ?_
 refine Jv (Jy1 (λk L w'=>∃κ' v14,∃s1:(List Bool),L=[(5,.slice aa x11.length ab),(12,.slice a1 p1.length u1),(13,vi (p1.length:Int)),(14,vi v14)]/\Stp [3] K6 w5 κ' w'/\Oc Ep.bool 4 κ' w' 3 aa ab s1/\x11.length=s1.length/\0<=v14/\vH ((p1.length:Int)-v14)=k/\cntM (iz p1) k v14 s1=some q2) ⟨_,_,⟨K6,0,(x11:(List Bool)),R,Jj3,f8,R,(by decide),(by simp),hq11⟩,(KM R)⟩ ?_)
 rintro k _ w17 ⟨K18,v14,s1,rfl,S19,f20,hn21,hj9,hJ9,h⟩
 rcases k with _ | k
 have hk22:=h;obtain⟨o9,h⟩:=bO (t9 (vF s1):(List Bool)⊕(((List Bool))⊕((List Bool))))
 have hc9:decide (v14<(p1.length:Int))=false:=Jo2 (by omega)
 refine Je3 R (Jq (Jw2 R hc9 (Jc1 (Jt (Jt ?_)))))
 cases h
 have h:=hk22
 refine Jb1 ?_
 cases h
 exact Jw1 _ ⟨K18,(s1:(List Bool)),R,S19.wk R,f20,hn21,R⟩ (KM R)
 obtain⟨o9,h,hk22⟩:=BI h;unfold iz at h
 have hc9:decide (v14<(p1.length:Int))=true:=Jn2 (by omega)
 refine Je3 R (Jq (Jv2 R hc9 (Js (Jp (Jq (Jv (Je [2,1,2] R (Ob h λx16 hx16 h=>Jc3 R g1 hx16 U29 Z2 (Jb3 R I2 ((g1.stp (S3.tr (S7.tr S19)) R R).gInt hx16) (Jb 1 R (Jh3 [2,2,2,1] 2 R (Ob h λx20 hx20 h=>Jf R (Jf2 f20.rdc hx20 U193 Z4 R R hn21 R) (Ob h λy396 hy396 h=>Jk1 (κ:=K18) (E:=Ep.bool) 3 [] R R R R R R R R Z4 R R R R f20 hy396 λw24 K25 S26 f27=>⟨tv,?_⟩)))))))))))))
 have hn28:x11.length=y396.length:=hn21.trans (Jt2 hy396).2.2.2.symm
 refine Jo (Jz (Jp (Jf3 R ?_)))
 have hw9:t5 .i64 (v14+1)=v14+1:=wr1 hj9 (Jm2 hc9) hN9
 rw[hw9]
 have hc9:=Jm2 hc9
 cases h
 exact Jz1 λa ha=>⟨k,_,Ja3 _,⟨K25,v14+1,(y396:(List Bool)),R,(S19.tr S26).wk R,f27,hn28,by omega,by omega,hk22⟩,(ha.mm R)⟩
 rintro _ w12 ⟨K13,s3,rfl,S14,f15,hn16,rfl⟩
 have h:=hK10
 dsimp only[aft]at h
 refine Jp (Je3 R (Ju (Ja2 (l:=[.tmp 4]) V188 (Jp2 R R) R ?_)))
 cases h
 exact⟨(λb=>ren [(3,2)] (K13 b)),aa,ab,(by simp only[hn16]),((hE.stp (S3.tr (S7.tr S14)) R R).map (ren [(3,2)]) R R),(f15.map (ren [(3,2)]) R R)⟩
theorem oh {w:World}{κ:Col}{a0 u0}{p0:(List (List Int))}(g0:Rd (Rp.sl (Rp.int .i64)) κ w 0 a0 u0 p0){r:(List (List Int))}(h:jI p0=some r):Ret Tryz.prog 254 [.slice a0 p0.length u0] w (λv w'=>∃(κ':Col) (ra0:Option Addr) (ru0:Nat),v= .slice ra0 r.length ru0/\Ent κ w κ' w'/\Oc (Ep.own E6 2) 29 κ' w' 2 ra0 ru0 r):=by
 unfold jI at h
 refine Ret.enter F254 R N254 R ?_
 dsimp only[envOf]
 have hE:=Ent.refl κ w
 refine Je3 R (Je [1,2] R (Jo1 (κ:=κ) (E:=(Ep.own E6 2)) 2 R R R R R Y26 Tryzinfo29 R λa6 u6 w1 K2 S3 f4=>⟨tv,Jb 1 R (Jq (Jg3 [2,2,2] 1 R (Jf R (Je2 U26 R R) (Jb 1 R ?_))))⟩))
 have hN5:(p0.length:Int)<=9223372036854775807:=g0.len_le
 refine Ob h λq2 hq7 hK6=>?_
 clear h
 refine Jx1 (λL w'=>∃κ',∃s3:(List (List Int)),∃ad ac,L=[(3,.slice ad s3.length ac)]/\Stp [2,3,4] K2 w1 κ' w'/\Oc (Ep.own E6 2) 29 κ' w' 2 ad ac s3/\q2=t9 s3) ?_ ?_
 refine Jv (Jy1 (λk L w'=>∃κ' v9,∃s1:(List (List Int)),∃aa ab,L=[(3,.slice aa s1.length ab),(7,.slice a0 p0.length u0),(8,vi (p0.length:Int)),(9,vi v9)]/\Stp [2,3,4] K2 w1 κ' w'/\Oc (Ep.own E6 2) 29 κ' w' 2 aa ab s1/\0<=v9/\vH ((p0.length:Int)-v9)=k/\cntM (ew p0) k v9 s1=some q2) ⟨_,_,⟨K2,0,(([]:List (List Int)):(List (List Int))),a6,u6,R,Jj3,f4,(by decide),(by simp),hq7⟩,(KM R)⟩ ?_)
 rintro k _ w12 ⟨K13,v9,s1,aa,ab,rfl,S14,f15,hj5,hJ5,h⟩
 rcases k with _ | k
 have hk16:=h;obtain⟨o5,h⟩:=bO (t9 (vF s1):(List (List Int))⊕(((List (List Int)))⊕((List (List Int)))))
 have hc5:decide (v9<(p0.length:Int))=false:=Jo2 (by omega)
 refine Je3 R (Jq (Jw2 R hc5 (Jc1 (Jt (Jt ?_)))))
 cases h
 have h:=hk16
 refine Jb1 ?_
 cases h
 exact Jw1 _ ⟨K13,(s1:(List (List Int))),aa,ab,R,S14.wk R,f15,R⟩ (KM R)
 obtain⟨o5,h,hk16⟩:=BI h;unfold ew at h
 have hc5:decide (v9<(p0.length:Int))=true:=Jn2 (by omega)
 refine Je3 R (Jq (Jv2 R hc5 (Js (Jp (Jq (Jv (Je [2,1,2] R (Ob h λx11 hx11 h=>Jc3 R g0 hx11 U26 Z29 ?_))))))))
 obtain⟨ax11,ux11,f18,hl19⟩:=(g0.stp (S3.tr S14) R R).gSl hx11
 refine Jb3 R I29 hl19 (Jb 1 R (Jh3 [2,1,2,1,1,1,2] 1 R (Jo1 (κ:=K13) (E:=E6) 3 R R R R R Y29 Tryzinfo2 R λaj am w20 K21 S22 f23=>⟨tv,Jn 1 R (Ob h λx16 hx16 h=>Jm1 (κ:=K21) (E:=E6) 3 [] R R R R R R R R R Y29 Tryzinfo2 R R R R f23 (Sl.srcP (bR _) (f18.stp S22 R R)) bJ hx16 R λaf ae w25 K26 S27 f28=>⟨tv,Jn1 (κ:=K26) (E:=(Ep.own E6 2)) 4 [3] (parts:=[(0,.tmp 16)]) (cells:=[.slice af x16.length ae]) (xs:=([x16]:List (List Int))) R R R R R R Y26 Tryzinfo29 R R R R R R R R R R ⟨[.slice af x16.length ae],[],Zl K26 w25 [3],Zl K26 w25 [],R,Zl.sp (l1:=[3]) (l2:=[]) R,Zl.sr (l1:=[3]) (l2:=[]),⟨_,_,R,f28⟩,R⟩ λak al w29 K30 S31 f32=>⟨tv,Ob h λx18 hx18 h=>Jm1 (κ:=K30) (E:=(Ep.own E6 2)) 2 [4] R R R R R R R R R Y26 Tryzinfo29 R R R R (f15.stp (S22.tr (S27.tr S31)) R R) f32.src (dc R) hx18 R λah ai w34 K35 S36 f37=>⟨tv,Jc 1 R (Jz (Jp (Jf3 R ?_)))⟩⟩⟩)⟩)))
 have hw5:t5 .i64 (v9+1)=v9+1:=wr1 hj5 (Jm2 hc5) hN5
 rw[hw5]
 have hc5:=Jm2 hc5
 cases h
 exact Jz1 λa ha=>⟨k,_,Ja3 _,⟨K35,v9+1,(x18:(List (List Int))),ah,ai,R,(S14.tr (S22.tr (S27.tr (S31.tr S36)))).wk R,f37,by omega,by omega,hk16⟩,(ha.mm R)⟩
 rintro _ w8 ⟨K9,s3,ad,ac,rfl,S10,f11,rfl⟩
 have h:=hK6
 dsimp only[aft]at h
 refine Jp (Je3 R (Ju (Ja2 (l:=[.tmp 2]) V254 (Jp2 R R) R ?_)))
 cases h
 exact⟨K9,ad,ac,R,(hE.stp (S3.tr S10) R R),f11⟩
theorem ma {w:World}{κ:Col}{a0 u0}{p0:(List Int)}{a1 u1}{p1:(List Int)}(g0:Rd (Rp.int .i64) κ w 0 a0 u0 p0) (g1:Rd (Rp.int .i64) κ w 0 a1 u1 p1){r:Bool}(h:gE p0 p1=some r):Ret Tryz.prog 82 [.slice a0 p0.length u0,.slice a1 p1.length u1] w (λv w'=>∃(κ':Col),v= .bool r/\Ent κ w κ' w'):=by
 unfold gE at h
 refine Ret.enter F82 R N82 R ?_
 dsimp only[envOf]
 have hE:=Ent.refl κ w
 refine Je3 R (Jq (Jg3 [2,2,2,2,2] 1 R (Jf R (Je2 U29 R R) (Jn 1 R (Jf R (Je2 U29 R R) (Jb 1 R ?_))))))
 revert h
 cases ht1:((p0.length:Int) !=(p1.length:Int))
 refine JF λh=>Jy R (Js (Jp (Jq (Je3 R ?_))))
 have hN2:(p0.length:Int)<=9223372036854775807:=g0.len_le
 refine Ob h λq2 hq4 hK3=>?_
 clear h
 refine Jx1 (λL w'=>∃κ',L=[]/\Stp [] κ w κ' w'/\q2=t9 ()) ?_ ?_
 refine Jv (Jy1 (λk L w'=>∃κ' v5,L=[(0,.slice a0 p0.length u0),(1,.slice a1 p1.length u1),(5,vi v5)]/\Stp [] κ w κ' w'/\0<=v5/\vH ((p0.length:Int)-v5)=k/\cntM (fg p0 p1) k v5 ()=some q2) ⟨_,_,⟨κ,0,R,Jj3,(by decide),(by simp),hq4⟩,(KM R)⟩ ?_)
 rintro k _ w8 ⟨K9,v5,rfl,S10,hj2,hJ2,h⟩
 rcases k with _ | k
 have hk11:=h;obtain⟨o2,h⟩:=bO (t9 (vF ()):Bool⊕((Unit)⊕(Unit)))
 have hc2:decide (v5<(p0.length:Int))=false:=Jo2 (by omega)
 refine Jq (Jg3 [2,2,2,2] 2 R (Jf R (Je2 U29 R R) (Jb 1 R (Jw2 R hc2 (Jc1 (Jt (Jt ?_)))))))
 cases h
 have h:=hk11
 refine Jb1 ?_
 cases h
 exact Jw1 _ ⟨K9,R,S10.wk R,R⟩ KN
 obtain⟨o2,h,hk11⟩:=BI h;unfold fg at h
 have hc2:decide (v5<(p0.length:Int))=true:=Jn2 (by omega)
 refine Jq (Jg3 [2,2,2,2] 2 R (Jf R (Je2 U29 R R) (Jb 1 R (Jv2 R hc2 (Js (Jp (Jq (Jv (Jq (Js1 (κ:=K9) [0] none [(0,2),(1,2),(2,2),(4,2),(5,2),(6,2),(3,0),(7,0),(8,2)] [] (by kernel_rfl) (by kernel_rfl) λw13 S12=>Jn 2 R (Ob h λx19 hx19 h=>Jc3 R g0 hx19 U29 Z2 (Jn 2 R (Ob h λx23 hx23 h=>Jc3 R g1 hx23 U29 Z2 (Jg R (Jc2 I2 R R (hvC ((g0.stp (S10.tr S12) R R).gInt hx19) R)) (Jg R (Jc2 I2 R R (hvC ((g1.stp (S10.tr S12) R R).gInt hx23) R)) (Jn 1 R (Jt1 (Jd ?_))))))))))))))))))
 revert h
 cases ht16:(x19 !=x23)
 refine JF λh=>Jy R (Js (Jz (Jp (Jf3 R ?_))))
 have hw2:t5 .i64 (v5+1)=v5+1:=wr1 hj2 (Jm2 hc2) hN2
 rw[hw2]
 have hc2:=Jm2 hc2
 cases h
 exact Jz1 λa ha=>⟨k,_,Ja3 _,⟨K9,v5+1,R,(S10.tr S12).wk R,by omega,by omega,hk11⟩,(ha.mm R)⟩
 refine JT λh=>Jx R (Je3 R (Ju (Ja1 (Jw (Jw ?_)))))
 cases h
 obtain rfl:=Option.some.inj hk11
 have h:=hK3
 dsimp only[aft]at h
 refine Ja1 (Jq2 (Jw (Ja2 (l:=[.tmp 4]) V82 (Jp2 R R) R ?_)))
 cases h
 exact⟨K9,R,(hE.stp (S10.tr S12) R R)⟩
 rintro _ w5 ⟨K6,rfl,S7,rfl⟩
 have h:=hK3
 dsimp only[aft]at h
 refine Jp (Je3 R (Ju (Ja2 (l:=[.tmp 4]) V82 (Jp2 R R) R ?_)))
 cases h
 exact⟨K6,R,(hE.stp S7 R R)⟩
 refine JT λh=>Jx R (Je3 R (Ju (Jw (Ja2 (l:=[.tmp 4]) V82 (Jp2 R R) R ?_))))
 cases h
 exact⟨κ,R,hE⟩
end Go.Proofs.YtpcjbkgbnoocaaaGreat
