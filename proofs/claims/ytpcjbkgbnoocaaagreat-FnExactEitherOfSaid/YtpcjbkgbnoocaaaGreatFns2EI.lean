/- The walks, part 2. By program. -/
import Derived.Test.YtpcjbkgbnoocaaaGreatFnsMEI
import Derived.Test.YtpcjbkgbnoocaaaGreatAlEI
set_option linter.unusedVariables false
set_option linter.unusedSimpArgs false
open Go.IntKind renaming wrap → t5
open Sum renaming inr → t9, inl → vF
open Int renaming toNat → vH
namespace Go.Proofs.YtpcjbkgbnoocaaaGreat
open Go Go.Wk Go.Proofs
set_option maxRecDepth 100000
set_option maxHeartbeats 1000000
theorem l9 {w:World}{κ:Col}{a0 u0}{p0:(List Int)}{p1:Int}(g0:Rd (Rp.int .i64) κ w 0 a0 u0 p0){r:Int}(h:gR p0 p1=some r):Ret Tryz.prog 113 [.slice a0 p0.length u0,vi p1] w (λv w'=>∃(κ':Col),v=vi r/\Ent κ w κ' w'):=by
 unfold gR at h
 refine Ret.enter F113 R N113 R ?_
 dsimp only[envOf]
 have hE:=Ent.refl κ w
 refine Je3 R (Jg3 [2,2,2,2,2] 2 R (Jf R (Je2 U29 R R) (Jb 2 R (Jq (Je3 R ?_)))))
 revert h
 cases ht1:decide ((IntKind.i64.wrap (p1-(p0.length:Int)))<0)
 refine JF λh=>Jy R (Js (Jp (Je3 R (Ju (Ja2 (l:=[.tmp 4]) V113 (Jp2 R R) R ?_)))))
 cases h
 exact⟨κ,R,hE⟩
 refine JT λh=>Jx R (Je3 R (Ju (Jw (Ja2 (l:=[.tmp 4]) V113 (Jp2 R R) R ?_))))
 cases h
 exact⟨κ,R,hE⟩
theorem oG {w:World}{κ:Col}{p0:Sig}  {r:Sig}(h:mu p0=some r):Ret Tryz.prog 19 [.agg #[vi p0.In,vi p0.Out]] w (λv w'=>∃(κ':Col),v= .agg #[vi r.In,vi r.Out]/\Ent κ w κ' w'):=by
 unfold mu at h
 refine Ret.enter F19 R N19 R ?_
 dsimp only[envOf]
 have hE:=Ent.refl κ w
 refine Je [1,1] R (Jf1 (κ:=κ) 2 R R R R R R R λb1 w1 K2 S3 f4=>⟨tv,Jg1 (κ:=K2) 3 R R R R R X25 R λb2 w5 K6 S7 f8=>⟨tv,Jd (Je [1] R (Jg1 (κ:=K6) 4 R R R R R X25 R λb3 w9 K10 S11 f12=>⟨tv,Jd (Je [2,1,2,1] R (Jd3 R U43 R Z2 ?_))⟩))⟩⟩)
 have f13:=f4.stp (S7.tr S11) R R
 refine Jb3 R I2 (f13.ld 0 R R) (Jd3 R U25 R Z2 (Ji1 (κ:=K10) 4 (off:=0) (vc:=[vi p0.In]) (cs':=[vi p0.In,vi 0]) R R R R R R R Z2 R R f12 R R λw14 S15 f16=>⟨tv,Jd (Je [2,1,2,1] R (Jd3 R U43 R Z2 (Jb3 R I2 ((f13.stp S15 R R).ld 1 R R) (Jd3 R U25 R Z2 (Ji1 (κ:=K10) 4 (off:=1) (vc:=[vi p0.Out]) (cs':=[vi p0.In,vi p0.Out]) R R R R R R R Z2 R R f16 R R λw18 S19 f20=>⟨tv,Jd (Je [1,1] R (Jl tv R R R R (Jd2 (cs:=[vi p0.In,vi p0.Out]) I25 Z25 R R R (haE f20.cells)) (Jj1 (κ:=K10) 3 (vc:=[vi p0.In,vi p0.Out]) R R R R R R R Z25 R R (f8.stp (S11.tr (S15.tr S19)) R R) R λw22 S23 f24=>⟨tv,Jd (Ju (Ja2 (l:=[.cell 2 25]) V19 (bL R f24 I25 Z25 R R) R ?_))⟩)))⟩)))))⟩))
 cases h
 exact⟨K10,R,(hE.stp (S3.tr (S7.tr (S11.tr (S15.tr (S19.tr S23))))) R R)⟩
theorem dt {w:World}{κ:Col}{p0:Int}  {r:Int}(h:cY p0=some r):Ret Tryz.prog 59 [vi p0] w (λv w'=>∃(κ':Col),v=vi r/\Ent κ w κ' w'):=by
 unfold cY at h
 refine Ret.enter F59 R N59 R ?_
 dsimp only[envOf]
 have hE:=Ent.refl κ w
 refine Je3 R (Je3 R (Jq (Ob h λq2 hq3 hK2=>?_)))
 clear h
 refine Jx1 (λL w'=>∃κ',∃s3:Int×Int,L=[(3,vi s3.2)]/\Stp [] κ w κ' w'/\q2=t9 s3) ?_ ?_
 refine Jv (Jy1 (λk L w'=>∃κ',∃s1:Int×Int,L=[(0,vi s1.1),(3,vi s1.2)]/\Stp [] κ w κ' w'/\whileM ef k s1=some q2) ⟨_,_,⟨κ,((p0:Int),(1:Int)),R,Jj3,hq3⟩,(KM R)⟩ ?_)
 rintro k _ w7 ⟨K8,s1,rfl,S9,h⟩
 rcases k with _ | k
 cases h
 obtain⟨o1,h,hk10⟩:=BI h;unfold ef at h
 refine Jq (Je3 R ?_)
 revert h
 cases ht11:decide (0<s1.1)
 refine JF λh=>Jy R (Jc1 (Jt (Jt ?_)))
 cases h
 have h:=hk10
 refine Jb1 ?_
 cases h
 exact Jw1 _ ⟨K8,((s1.1:Int),(s1.2:Int)),R,S9.wk R,R⟩ (KM R)
 refine JT λh=>Jx R (Js (Jp (Jq (Jv (Jf3 R (Jz (Jp (Jf3 R ?_))))))))
 cases h
 exact Jz1 λa ha=>⟨k,_,Ja3 _,⟨K8,(((IntKind.i64.wrap (s1.1-1)):Int),((IntKind.i64.wrap (s1.2 * 2)):Int)),R,S9.wk R,hk10⟩,(ha.mm R)⟩
 rintro _ w4 ⟨K5,s3,rfl,S6,rfl⟩
 have h:=hK2
 dsimp only[aft]at h
 refine Jp (Je3 R (Ju (Ja2 (l:=[.tmp 2]) V59 (Jp2 R R) R ?_)))
 cases h
 exact⟨K5,R,(hE.stp S6 R R)⟩
theorem jh {w:World}{κ:Col}{a0 u0}{p0:(List Int)}{p1:Int}(g0:Rd (Rp.int .i64) κ w 0 a0 u0 p0){r:Bool}(h:gY p0 p1=some r):Ret Tryz.prog 201 [.slice a0 p0.length u0,vi p1] w (λv w'=>∃(κ':Col),v= .bool r/\Ent κ w κ' w'):=by
 unfold gY at h
 refine Ret.enter F201 R N201 R ?_
 dsimp only[envOf]
 have hE:=Ent.refl κ w
 refine Je3 R (Jq (Je3 R ?_))
 have hN1:(p0.length:Int)<=9223372036854775807:=g0.len_le
 refine Ob h λq2 hq3 hK2=>?_
 clear h
 refine Jx1 (λL w'=>∃κ',L=[]/\Stp [] κ w κ' w'/\q2=t9 ()) ?_ ?_
 refine Jv (Jy1 (λk L w'=>∃κ' v5,L=[(0,.slice a0 p0.length u0),(1,vi p1),(5,vi v5)]/\Stp [] κ w κ' w'/\0<=v5/\vH ((p0.length:Int)-v5)=k/\cntM (jA p0 p1) k v5 ()=some q2) ⟨_,_,⟨κ,0,R,Jj3,(by decide),(by simp),hq3⟩,(KM R)⟩ ?_)
 rintro k _ w7 ⟨K8,v5,rfl,S9,hj1,hJ1,h⟩
 rcases k with _ | k
 have hk10:=h;obtain⟨o1,h⟩:=bO (t9 (vF ()):Bool⊕((Unit)⊕(Unit)))
 have hc1:decide (v5<(p0.length:Int))=false:=Jo2 (by omega)
 refine Jq (Jg3 [2,2,2,2] 2 R (Jf R (Je2 U29 R R) (Jb 1 R (Jw2 R hc1 (Jc1 (Jt (Jt ?_)))))))
 cases h
 have h:=hk10
 refine Jb1 ?_
 cases h
 exact Jw1 _ ⟨K8,R,S9.wk R,R⟩ KN
 obtain⟨o1,h,hk10⟩:=BI h;unfold jA at h
 have hc1:decide (v5<(p0.length:Int))=true:=Jn2 (by omega)
 refine Jq (Jg3 [2,2,2,2] 2 R (Jf R (Je2 U29 R R) (Jb 1 R (Jv2 R hc1 (Js (Jp (Jq (Jv (Jg3 [2,2,2,1,2,2] 2 R (Ob h λx14 hx14 h=>Jc3 R g0 hx14 U29 Z2 (Jb3 R I2 ((g0.stp S9 R R).gInt hx14) (Jb 2 R ?_))))))))))))
 revert h
 cases ht12:(x14==p1)
 refine JF λh=>Jy R (Js (Jz (Jp (Jf3 R ?_))))
 have hw1:t5 .i64 (v5+1)=v5+1:=wr1 hj1 (Jm2 hc1) hN1
 rw[hw1]
 have hc1:=Jm2 hc1
 cases h
 exact Jz1 λa ha=>⟨k,_,Ja3 _,⟨K8,v5+1,R,S9.wk R,by omega,by omega,hk10⟩,(ha.mm R)⟩
 refine JT λh=>Jx R (Je3 R (Ju (Ja1 (Jw (Jw ?_)))))
 cases h
 obtain rfl:=Option.some.inj hk10
 have h:=hK2
 dsimp only[aft]at h
 refine Ja1 (Jq2 (Jw (Ja2 (l:=[.tmp 4]) V201 (Jp2 R R) R ?_)))
 cases h
 exact⟨K8,R,(hE.stp S9 R R)⟩
 rintro _ w4 ⟨K5,rfl,S6,rfl⟩
 have h:=hK2
 dsimp only[aft]at h
 refine Jp (Je3 R (Ju (Ja2 (l:=[.tmp 4]) V201 (Jp2 R R) R ?_)))
 cases h
 exact⟨K5,R,(hE.stp S6 R R)⟩
theorem km {w:World}{κ:Col}{p0:Int}{p1:Int}  {r:Int}(h:iK p0 p1=some r):Ret Tryz.prog 159 [vi p0,vi p1] w (λv w'=>∃(κ':Col),v=vi r/\Ent κ w κ' w'):=by
 unfold iK at h
 refine Ret.enter F159 R N159 R ?_
 dsimp only[envOf]
 have hE:=Ent.refl κ w
 refine Je3 R (Jq (Je3 R ?_))
 revert h
 cases ht1:decide (p1<p0)
 refine JF λh=>Jy R (Js (Jp (Je3 R (Ju (Ja2 (l:=[.tmp 4]) V159 (Jp2 R R) R ?_)))))
 cases h
 exact⟨κ,R,hE⟩
 refine JT λh=>Jx R (Je3 R (Ju (Jw (Ja2 (l:=[.tmp 4]) V159 (Jp2 R R) R ?_))))
 cases h
 exact⟨κ,R,hE⟩
theorem rI {w:World}{κ:Col}{p0:Int}  {r:(List Int)}(h:mr p0=some r):Ret Tryz.prog 238 [vi p0] w (λv w'=>∃(κ':Col) (ra0:Option Addr) (ru0:Nat),v= .slice ra0 r.length ru0/\Ent κ w κ' w'/\Oc E6 2 κ' w' 2 ra0 ru0 r):=by
 unfold mr at h
 refine Ret.enter F238 R N238 R ?_
 dsimp only[envOf]
 have hE:=Ent.refl κ w
 refine Je3 R (Je [1,2] R (Jo1 (κ:=κ) (E:=E6) 2 R R R R R Y29 Tryzinfo2 R λa5 u5 w1 K2 S3 f4=>⟨tv,Jb 1 R (Jq (Je3 R (Ob h λq2 hq7 hK6=>?_)))⟩))
 clear h
 refine Jx1 (λL w'=>∃κ',∃s3:(List Int)×Int,∃ac ad,L=[(3,.slice ac s3.1.length ad)]/\Stp [2] K2 w1 κ' w'/\Oc E6 2 κ' w' 2 ac ad s3.1/\q2=t9 s3) ?_ ?_
 refine Jv (Jy1 (λk L w'=>∃κ',∃s1:(List Int)×Int,∃aa ab,L=[(0,vi p0),(3,.slice aa s1.1.length ab),(4,vi s1.2)]/\Stp [2] K2 w1 κ' w'/\Oc E6 2 κ' w' 2 aa ab s1.1/\whileM (jk p0) k s1=some q2) ⟨_,_,⟨K2,((([]:List Int):(List Int)),(0:Int)),a5,u5,R,Jj3,f4,hq7⟩,(KM R)⟩ ?_)
 rintro k _ w12 ⟨K13,s1,aa,ab,rfl,S14,f15,h⟩
 rcases k with _ | k
 cases h
 obtain⟨o5,h,hk16⟩:=BI h;unfold jk at h
 refine Jq (Jg3 [2,2,2,2,2,2,2] 4 R (Ob h λp12 h hK17=>Ju1 [(4,2),(5,2),(6,2)] [] (λL w'=>L=[(0,vi p0),(3,.slice aa s1.1.length ab),(4,vi s1.2),(12,.bool p12)]/\∃κ',Stp [] K13 w12 κ' w') tv ?_ ?_))
 revert h
 cases ht18:decide (s1.2<p0)
 refine JF λh=>Jn 3 R ?_
 cases h
 exact Jv1 _ tv ⟨R,_,Jj3⟩ (KM R)
 refine JT λh=>Jn 3 R ?_
 cases h
 exact Jv1 _ tv ⟨R,_,Jj3⟩ (KM R)
 rintro _ w19 _ ⟨rfl,K20,S21⟩
 have h:=hK17
 refine Jd ?_
 revert h
 cases ht22:p12
 refine JF λh=>Jy R (Jc1 (Jt (Jt ?_)))
 cases h
 have h:=hk16
 refine Jb1 ?_
 cases h
 exact Jw1 _ ⟨K20,((s1.1:(List Int)),(s1.2:Int)),aa,ab,R,(S14.tr S21).wk R,(f15.stp S21 R R),R⟩ (KM R)
 refine JT λh=>Jx R (Js (Jp (Jq (Jv (Jh3 [2,2,1,1,2] 2 R (Jn1 (κ:=K20) (E:=E6) 3 [] (parts:=[(0,.tmp 16)]) (cells:=[vi s1.2]) (xs:=([s1.2]:List Int)) R R R R R R Y29 Tryzinfo2 R R R R R R R R R R ⟨[vi s1.2],[],Zl K20 w19 [],Zl K20 w19 [],R,Zl.sp (l1:=[]) (l2:=[]) R,Zl.sr (l1:=[]) (l2:=[]),R,R⟩ λah ai w23 K24 S25 f26=>⟨tv,Ob h λx18 hx18 h=>Jm1 (κ:=K24) (E:=E6) 2 [] R R R R R R R R R Y29 Tryzinfo2 R R R R (f15.stp (S21.tr S25) R R) (Sl.srcP (bR _) f26.rdc) bJ hx18 R λae af w28 K29 S30 f31=>⟨tv,Jc 1 R (Jz (Jp (Jf3 R ?_)))⟩⟩))))))
 cases h
 exact Jz1 λa ha=>⟨k,_,Ja3 _,⟨K29,((x18:(List Int)),((IntKind.i64.wrap (s1.2+1)):Int)),ae,af,R,(S14.tr (S21.tr (S25.tr S30))).wk R,f31,hk16⟩,(ha.mm R)⟩
 rintro _ w8 ⟨K9,s3,ac,ad,rfl,S10,f11,rfl⟩
 have h:=hK6
 dsimp only[aft]at h
 refine Jp (Je3 R (Ju (Ja2 (l:=[.tmp 2]) V238 (Jp2 R R) R ?_)))
 cases h
 exact⟨K9,ac,ad,R,(hE.stp (S3.tr S10) R R),f11⟩
theorem ny {w:World}{κ:Col}{a0 u0}{p0:(List Bool)}{a1 u1}{p1:(List Bool)}(g0:Rd Rp.bool κ w 0 a0 u0 p0) (g1:Rd Rp.bool κ w 0 a1 u1 p1){r:(List Bool)}(h:j0 p0 p1=some r):Ret Tryz.prog 241 [.slice a0 p0.length u0,.slice a1 p1.length u1] w (λv w'=>∃(κ':Col) (ra0:Option Addr) (ru0:Nat),v= .slice ra0 r.length ru0/\Ent κ w κ' w'/\Oc Ep.bool 4 κ' w' 2 ra0 ru0 r):=by
 unfold j0 at h
 refine Ret.enter F241 R N241 R ?_
 dsimp only[envOf]
 have hE:=Ent.refl κ w
 refine Je3 R (Jg3 [2,2,1,2] 1 R (Jf R (Je2 U193 R R) (Ob h λx9 hx9 h=>Jl1 (κ:=κ) (E:=Ep.bool) (z:=(false:Bool)) 2 R R R R R R R Y193 Tryzinfo4 R R R R R (λ_ _ _=>R) (Ju2 hx9) λa9 u9 w1 K2 S3 f4=>⟨tv,Jb 1 R (Jq (Je3 R ?_))⟩)))
 have hN5:(p0.length:Int)<=9223372036854775807:=g0.len_le
 refine Ob h λq2 hq7 hK6=>?_
 clear h
 refine Jx1 (λL w'=>∃κ',∃s3:(List Bool),L=[(5,.slice a9 x9.length u9)]/\Stp [2] K2 w1 κ' w'/\Oc Ep.bool 4 κ' w' 2 a9 u9 s3/\x9.length=s3.length/\q2=t9 s3) ?_ ?_
 refine Jv (Jy1 (λk L w'=>∃κ' v6,∃s1:(List Bool),L=[(0,.slice a0 p0.length u0),(1,.slice a1 p1.length u1),(5,.slice a9 x9.length u9),(6,vi v6)]/\Stp [2] K2 w1 κ' w'/\Oc Ep.bool 4 κ' w' 2 a9 u9 s1/\x9.length=s1.length/\0<=v6/\vH ((p0.length:Int)-v6)=k/\cntM (ip p0 p1) k v6 s1=some q2) ⟨_,_,⟨K2,0,(x9:(List Bool)),R,Jj3,f4,R,(by decide),(by simp),hq7⟩,(KM R)⟩ ?_)
 rintro k _ w13 ⟨K14,v6,s1,rfl,S15,f16,hn17,hj5,hJ5,h⟩
 rcases k with _ | k
 have hk18:=h;obtain⟨o5,h⟩:=bO (t9 (vF s1):(List Bool)⊕(((List Bool))⊕((List Bool))))
 have hc5:decide (v6<(p0.length:Int))=false:=Jo2 (by omega)
 refine Jq (Jg3 [2,2,2,2] 2 R (Jf R (Je2 U193 R R) (Jb 1 R (Jw2 R hc5 (Jc1 (Jt (Jt ?_)))))))
 cases h
 have h:=hk18
 refine Jb1 ?_
 cases h
 exact Jw1 _ ⟨K14,(s1:(List Bool)),R,S15.wk R,f16,hn17,R⟩ (KM R)
 obtain⟨o5,h,hk18⟩:=BI h;unfold ip at h
 have hc5:decide (v6<(p0.length:Int))=true:=Jn2 (by omega)
 refine Jq (Jg3 [2,2,2,2] 2 R (Jf R (Je2 U193 R R) (Jb 1 R (Jv2 R hc5 (Js (Jp (Jq (Jv (Jh3 [2,2,2,2,2,1,2,2,2,2,1,2,2,2,1] 4 R (Ob h λx20 hx20 h=>Jc3 R g0 hx20 U193 Z4 (Jb3 R I4 ((g0.stp (S3.tr S15) R R).gBool hx20) (Jn 1 R (Ob h λp28 h hK20=>Ju1 [(7,2),(8,2),(9,2),(10,1),(11,2),(12,2)] [(13,2),(14,1)] (λL w'=>L=[(0,.slice a0 p0.length u0),(1,.slice a1 p1.length u1),(5,.slice a9 x9.length u9),(6,vi v6),(16,.slice a9 x9.length u9),(17,vi v6),(28,.bool p28)]/\∃κ',Stp [] K14 w13 κ' w') tv ?_ ?_)))))))))))))
 revert h
 cases ht21:x20
 refine JF λh=>Jn 3 R (Jd1 R R R R (Jn 2 R ?_))
 cases h
 exact Jv1 _ tv ⟨R,_,Jj3⟩ (KM R)
 refine JT λh=>Jn 2 R (Ob h λx25 hx25 h=>Jc3 R g1 hx25 U193 Z4 (Jb3 R I4 ((g1.stp (S3.tr S15) R R).gBool hx25) (Jn 2 R ?_)))
 cases h
 exact Jv1 _ tv ⟨R,_,Jj3⟩ (KM R)
 rintro _ w23 _ ⟨rfl,K24,S25⟩
 have h:=hK20
 refine Ob h λx29 hx29 h=>Jf R (Jf2 f16.rdc hx29 U193 Z4 R R hn17 R) (Ob h λy200 hy200 h=>Jk1 (κ:=K24) (E:=Ep.bool) 2 [] R R R R R R R R Z4 R R R R (f16.stp S25 R R) hy200 λw27 K28 S29 f30=>⟨tv,?_⟩)
 have hn31:x9.length=y200.length:=hn17.trans (Jt2 hy200).2.2.2.symm
 refine Jo (Jz (Jp (Jf3 R ?_)))
 have hw5:t5 .i64 (v6+1)=v6+1:=wr1 hj5 (Jm2 hc5) hN5
 rw[hw5]
 have hc5:=Jm2 hc5
 cases h
 exact Jz1 λa ha=>⟨k,_,Ja3 _,⟨K28,v6+1,(y200:(List Bool)),R,(S15.tr (S25.tr S29)).wk R,f30,hn31,by omega,by omega,hk18⟩,(ha.mm R)⟩
 rintro _ w8 ⟨K9,s3,rfl,S10,f11,hn12,rfl⟩
 have h:=hK6
 dsimp only[aft]at h
 refine Jp (Je3 R (Ju (Ja2 (l:=[.tmp 4]) V241 (Jp2 R R) R ?_)))
 cases h
 exact⟨K9,a9,u9,(by simp only[hn12]),(hE.stp (S3.tr S10) R R),f11⟩
theorem nt {w:World}{κ:Col}{p0:Int}  {r:(List Int)}(h:lu p0=some r):Ret Tryz.prog 127 [vi p0] w (λv w'=>∃(κ':Col) (ra0:Option Addr) (ru0:Nat),v= .slice ra0 r.length ru0/\Ent κ w κ' w'/\Oc E6 2 κ' w' 2 ra0 ru0 r):=by
 unfold lu at h
 refine Ret.enter F127 R N127 R ?_
 dsimp only[envOf]
 have hE:=Ent.refl κ w
 refine Je3 R (Je [1,2] R (Jo1 (κ:=κ) (E:=E6) 2 R R R R R Y29 Tryzinfo2 R λa5 u5 w1 K2 S3 f4=>⟨tv,Jb 1 R (Jq (Je3 R (Ob h λ_ hr5 h=>?_)))⟩))
 have hN5:=iF hr5
 refine Ob h λq2 hq7 hK6=>?_
 clear h
 refine Jx1 (λL w'=>∃κ',∃s3:(List Int),∃ac ad,L=[(3,.slice ac s3.length ad)]/\Stp [2] K2 w1 κ' w'/\Oc E6 2 κ' w' 2 ac ad s3/\q2=t9 s3) ?_ ?_
 refine Jv (Jy1 (λk L w'=>∃κ' v4,∃s1:(List Int),∃aa ab,L=[(0,vi p0),(3,.slice aa s1.length ab),(4,vi v4)]/\Stp [2] K2 w1 κ' w'/\Oc E6 2 κ' w' 2 aa ab s1/\0<=v4/\vH (p0-v4)=k/\cntM ig k v4 s1=some q2) ⟨_,_,⟨K2,0,(([]:List Int):(List Int)),a5,u5,R,Jj3,f4,(by decide),(by simp),hq7⟩,(KM R)⟩ ?_)
 rintro k _ w12 ⟨K13,v4,s1,aa,ab,rfl,S14,f15,hj5,hJ5,h⟩
 rcases k with _ | k
 have hk16:=h;obtain⟨o5,h⟩:=bO (t9 (vF s1):(List Int)⊕(((List Int))⊕((List Int))))
 have hc5:decide (v4<p0)=false:=Jo2 (by omega)
 refine Jq (Je3 R (Jw2 R hc5 (Jc1 (Jt (Jt ?_)))))
 cases h
 have h:=hk16
 refine Jb1 ?_
 cases h
 exact Jw1 _ ⟨K13,(s1:(List Int)),aa,ab,R,S14.wk R,f15,R⟩ (KM R)
 obtain⟨o5,h,hk16⟩:=BI h;unfold ig at h
 have hc5:decide (v4<p0)=true:=Jn2 (by omega)
 refine Jq (Je3 R (Jv2 R hc5 (Js (Jp (Jq (Jv (Jh3 [2,1,1,2] 1 R (Jn1 (κ:=K13) (E:=E6) 3 [] (parts:=[(0,.const (vi (-1)))]) (cells:=[vi (-1)]) (xs:=([(-1)]:List Int)) R R R R R R Y29 Tryzinfo2 R R R R R R R R R R ⟨[vi (-1)],[],Zl K13 w12 [],Zl K13 w12 [],R,Zl.sp (l1:=[]) (l2:=[]) R,Zl.sr (l1:=[]) (l2:=[]),R,R⟩ λah ai w17 K18 S19 f20=>⟨tv,Ob h λx13 hx13 h=>Jm1 (κ:=K18) (E:=E6) 2 [] R R R R R R R R R Y29 Tryzinfo2 R R R R (f15.stp S19 R R) (Sl.srcP (bR _) f20.rdc) bJ hx13 R λae af w22 K23 S24 f25=>⟨tv,Jc 1 R (Jz (Jp (Jf3 R ?_)))⟩⟩))))))))
 have hw5:t5 .i64 (v4+1)=v4+1:=wr1 hj5 (Jm2 hc5) hN5
 rw[hw5]
 have hc5:=Jm2 hc5
 cases h
 exact Jz1 λa ha=>⟨k,_,Ja3 _,⟨K23,v4+1,(x13:(List Int)),ae,af,R,(S14.tr (S19.tr S24)).wk R,f25,by omega,by omega,hk16⟩,(ha.mm R)⟩
 rintro _ w8 ⟨K9,s3,ac,ad,rfl,S10,f11,rfl⟩
 have h:=hK6
 dsimp only[aft]at h
 refine Jp (Je3 R (Ju (Ja2 (l:=[.tmp 2]) V127 (Jp2 R R) R ?_)))
 cases h
 exact⟨K9,ac,ad,R,(hE.stp (S3.tr S10) R R),f11⟩
theorem lQ {w:World}{κ:Col}{a0 u0}{p0:(List Int)}{p1:Int}(g0:Rd (Rp.int .i64) κ w 0 a0 u0 p0){r:(List Bool)}(h:eO p0 p1=some r):Ret Tryz.prog 176 [.slice a0 p0.length u0,vi p1] w (λv w'=>∃(κ':Col) (ra0:Option Addr) (ru0:Nat),v= .slice ra0 r.length ru0/\Ent κ w κ' w'/\Oc Ep.bool 4 κ' w' 2 ra0 ru0 r):=by
 unfold eO at h
 refine Ret.enter F176 R N176 R ?_
 dsimp only[envOf]
 have hE:=Ent.refl κ w
 refine Je3 R (Jg3 [2,2,1,2] 1 R (Jf R (Je2 U29 R R) (Ob h λx9 hx9 h=>Jl1 (κ:=κ) (E:=Ep.bool) (z:=(false:Bool)) 2 R R R R R R R Y193 Tryzinfo4 R R R R R (λ_ _ _=>R) (Ju2 hx9) λa9 u9 w1 K2 S3 f4=>⟨tv,Jb 1 R (Jq (Je3 R ?_))⟩)))
 have hN5:(p0.length:Int)<=9223372036854775807:=g0.len_le
 refine Ob h λq2 hq7 hK6=>?_
 clear h
 refine Jx1 (λL w'=>∃κ',∃s3:(List Bool),L=[(5,.slice a9 x9.length u9)]/\Stp [2] K2 w1 κ' w'/\Oc Ep.bool 4 κ' w' 2 a9 u9 s3/\x9.length=s3.length/\q2=t9 s3) ?_ ?_
 refine Jv (Jy1 (λk L w'=>∃κ' v6,∃s1:(List Bool),L=[(0,.slice a0 p0.length u0),(1,vi p1),(5,.slice a9 x9.length u9),(6,vi v6)]/\Stp [2] K2 w1 κ' w'/\Oc Ep.bool 4 κ' w' 2 a9 u9 s1/\x9.length=s1.length/\0<=v6/\vH ((p0.length:Int)-v6)=k/\cntM (fE p0 p1) k v6 s1=some q2) ⟨_,_,⟨K2,0,(x9:(List Bool)),R,Jj3,f4,R,(by decide),(by simp),hq7⟩,(KM R)⟩ ?_)
 rintro k _ w13 ⟨K14,v6,s1,rfl,S15,f16,hn17,hj5,hJ5,h⟩
 rcases k with _ | k
 have hk18:=h;obtain⟨o5,h⟩:=bO (t9 (vF s1):(List Bool)⊕(((List Bool))⊕((List Bool))))
 have hc5:decide (v6<(p0.length:Int))=false:=Jo2 (by omega)
 refine Jq (Jg3 [2,2,2,2] 2 R (Jf R (Je2 U29 R R) (Jb 1 R (Jw2 R hc5 (Jc1 (Jt (Jt ?_)))))))
 cases h
 have h:=hk18
 refine Jb1 ?_
 cases h
 exact Jw1 _ ⟨K14,(s1:(List Bool)),R,S15.wk R,f16,hn17,R⟩ (KM R)
 obtain⟨o5,h,hk18⟩:=BI h;unfold fE at h
 have hc5:decide (v6<(p0.length:Int))=true:=Jn2 (by omega)
 refine Jq (Jg3 [2,2,2,2] 2 R (Jf R (Je2 U29 R R) (Jb 1 R (Jv2 R hc5 (Js (Jp (Jq (Jv (Jh3 [2,2,2,2,2,1,2,2,2,1] 4 R (Ob h λx20 hx20 h=>Jc3 R g0 hx20 U29 Z2 (Jb3 R I2 ((g0.stp (S3.tr S15) R R).gInt hx20) (Jn 2 R (Ob h λx24 hx24 h=>Jf R (Jf2 f16.rdc hx24 U193 Z4 R R hn17 R) (Ob h λy249 hy249 h=>Jk1 (κ:=K14) (E:=Ep.bool) 2 [] R R R R R R R R Z4 R R R R f16 hy249 λw20 K21 S22 f23=>⟨tv,?_⟩))))))))))))))
 have hn24:x9.length=y249.length:=hn17.trans (Jt2 hy249).2.2.2.symm
 refine Jo (Jz (Jp (Jf3 R ?_)))
 have hw5:t5 .i64 (v6+1)=v6+1:=wr1 hj5 (Jm2 hc5) hN5
 rw[hw5]
 have hc5:=Jm2 hc5
 cases h
 exact Jz1 λa ha=>⟨k,_,Ja3 _,⟨K21,v6+1,(y249:(List Bool)),R,(S15.tr S22).wk R,f23,hn24,by omega,by omega,hk18⟩,(ha.mm R)⟩
 rintro _ w8 ⟨K9,s3,rfl,S10,f11,hn12,rfl⟩
 have h:=hK6
 dsimp only[aft]at h
 refine Jp (Je3 R (Ju (Ja2 (l:=[.tmp 4]) V176 (Jp2 R R) R ?_)))
 cases h
 exact⟨K9,a9,u9,(by simp only[hn12]),(hE.stp (S3.tr S10) R R),f11⟩
theorem mG {w:World}{κ:Col}{p0:Int}{c0:Int}{b1}(gb1:Bc κ w 0 b1 2 [vi c0]){r:Bool}(h:dP p0 c0=some r):Ret Tryz.prog 112 [vi p0,.pointer (some ⟨b1,0,none⟩)] w (λv w'=>∃(κ':Col),v= .bool r/\Ent κ w κ' w'):=by
 unfold dP at h
 refine Ret.enter F112 R N112 R ?_
 dsimp only[envOf]
 have hE:=Ent.refl κ w
 refine Je3 R (Jg3 [2,2,2,2,1,2,2,2] 3 R (Ob h λp10 h hK1=>Ju1 [(3,2),(4,1),(5,2),(6,2)] [(7,2)] (λL w'=>L=[(1,.pointer (some ⟨b1,0,none⟩)),(3,.bool false),(10,.bool p10)]/\∃κ',Stp [] κ w κ' w') tv ?_ ?_))
 revert h
 cases ht2:decide (p0<0)
 refine JF λh=>Jn 1 R (Jb3 R I2 (gb1.ld 0 R R) (Jn 2 R ?_))
 cases h
 exact Jv1 _ tv ⟨R,_,Jj3⟩ (KM R)
 refine JT λh=>Jn 1 R (Jd1 R R R R (Jn 2 R ?_))
 cases h
 exact Jv1 _ tv ⟨R,_,Jj3⟩ (KM R)
 rintro _ w3 _ ⟨rfl,K4,S5⟩
 have h:=hK1
 refine Jb 1 R (Ju (Ja2 (l:=[.tmp 3]) V112 (Jp2 R R) R ?_))
 cases h
 exact⟨K4,R,(hE.stp S5 R R)⟩
theorem nC {w:World}{κ:Col}{am al ak aj ai ah}{p0:Parity}{p1:Int}{p2:Int}{a3 u3}{p3:(List Int)}(g0_0_0:Oc E6 2 κ w 2 am al p0.Arena.Owner) (g0_0_1:Oc (Ep.fz (Rp.sl (Rp.int .i64))) 29 κ w 3 ak aj p0.Arena.Next) (g0_1:Oc E6 2 κ w 4 ai ah p0.Prio) (g3:Rd (Rp.int .i64) κ w 0 a3 u3 p3){r:Parity}(h:iN p0 p1 p2 p3=some r):Ret Tryz.prog 186 [.agg #[.slice am p0.Arena.Owner.length al,.slice ak p0.Arena.Next.length aj,.slice ai p0.Prio.length ah],vi p1,vi p2,.slice a3 p3.length u3] w (λv w'=>∃(κ':Col) (ra0:Option Addr) (ru0:Nat) (ra1:Option Addr) (ru1:Nat) (ra2:Option Addr) (ru2:Nat),v= .agg #[.slice ra0 r.Arena.Owner.length ru0,.slice ra1 r.Arena.Next.length ru1,.slice ra2 r.Prio.length ru2]/\Ent κ w κ' w'/\Oc E6 2 κ' w' 5 ra0 ru0 r.Arena.Owner/\Oc (Ep.fz (Rp.sl (Rp.int .i64))) 29 κ' w' 6 ra1 ru1 r.Arena.Next/\Oc E6 2 κ' w' 7 ra2 ru2 r.Prio):=by
 unfold iN at h
 refine Ret.enter F186 R N186 R ?_
 dsimp only[envOf]
 have hE:=Ent.refl κ w
 refine Je [1,1] R (Jf1 (κ:=κ) 5 R R R R R R R λb4 w1 K2 S3 f4=>⟨tv,Jg1 (κ:=K2) 6 R R R R R X108 R λb8 w5 K6 S7 f8=>⟨tv,Jd (Je [2,2,1,2,1,1,2,2,1] R (Jd3 R U108 R Z104 (Jd3 R U104 R Z29 ?_)))⟩⟩)
 have f9:=f4.stp S7 R R
 refine Jb3 R I29 (f9.ld 0 R R) (Jn 1 R (Jn1 (κ:=K6) (E:=E6) 7 [] (parts:=[(0,.tmp 12)]) (cells:=[vi p1]) (xs:=([p1]:List Int)) R R R R R R Y29 Tryzinfo2 R R R R R R R R R R ⟨[vi p1],[],Zl K6 w5 [],Zl K6 w5 [],R,Zl.sp (l1:=[]) (l2:=[]) R,Zl.sr (l1:=[]) (l2:=[]),R,R⟩ λar ao w10 K11 S12 f13=>⟨tv,Ob h λx14 hx14 h=>Jm1 (κ:=K11) (E:=E6) 2 [] R R R R R R R R R Y29 Tryzinfo2 R R R R (g0_0_0.stp (S3.tr (S7.tr S12)) R R) (Sl.srcP (bR _) f13.rdc) bJ hx14 R λab aa w15 K16 S17 f18=>⟨tv,Jd3 R U108 R Z104 (Jd3 R U104 R Z29 (Ji1 (κ:=K16) 5 (off:=0) (vc:=[.slice ab x14.length aa]) (cs':=[.slice ab x14.length aa,.slice ak p0.Arena.Next.length aj,.slice ai p0.Prio.length ah]) R R R R R R R Z29 R R (f9.stp (S12.tr S17) R R) R R λw20 S21 f22=>⟨tv,Jd (Je [2,2,1,2,1,1,2,2,1] R (Jd3 R U108 R Z104 (Jd3 R U104 R Z26 (Jb3 R I26 (f22.ld 1 R R) (Jn 1 R (Jn1 (κ:=K16) (E:=(Ep.fz (Rp.sl (Rp.int .i64)))) 8 [] (parts:=[(0,.tmp 20)]) (cells:=[.slice a3 p3.length u3]) (xs:=([p3]:List (List Int))) R R R R R R Y26 Tryzinfo29 R R R R R R R R R R ⟨[.slice a3 p3.length u3],[],Zl K16 w20 [],Zl K16 w20 [],R,Zl.sp (l1:=[]) (l2:=[]) R,Zl.sr (l1:=[]) (l2:=[]),⟨_,_,R,(Sl.z1 (g3.stp (S3.tr (S7.tr (S12.tr (S17.tr S21)))) R R))⟩,R⟩ λap aq w24 K25 S26 f27=>⟨tv,Ob h λx22 hx22 h=>Jm1 (κ:=K25) (E:=(Ep.fz (Rp.sl (Rp.int .i64)))) 3 [8] R R R R R R R R R Y26 Tryzinfo29 R R R R (g0_0_1.stp (S3.tr (S7.tr (S12.tr (S17.tr (S21.tr S26))))) R R) f27.src (dc R) hx22 R λad ac w29 K30 S31 f32=>⟨tv,Jd3 R U108 R Z104 (Jd3 R U104 R Z26 (Ji1 (κ:=K30) 5 (off:=1) (vc:=[.slice ad x22.length ac]) (cs':=[.slice ab x14.length aa,.slice ad x22.length ac,.slice ai p0.Prio.length ah]) R R R R R R R Z26 R R (f22.stp (S26.tr S31) R R) R R λw34 S35 f36=>⟨tv,Jd (Je [2,1,2,1,1,2,1] R (Jd3 R U108 R Z29 (Jb3 R I29 (f36.ld 2 R R) (Jn 1 R (Jn1 (κ:=K30) (E:=E6) 9 [] (parts:=[(0,.tmp 27)]) (cells:=[vi p2]) (xs:=([p2]:List Int)) R R R R R R Y29 Tryzinfo2 R R R R R R R R R R ⟨[vi p2],[],Zl K30 w34 [],Zl K30 w34 [],R,Zl.sp (l1:=[]) (l2:=[]) R,Zl.sr (l1:=[]) (l2:=[]),R,R⟩ λan au w37 K38 S39 f40=>⟨tv,Ob h λx29 hx29 h=>Jm1 (κ:=K38) (E:=E6) 4 [] R R R R R R R R R Y29 Tryzinfo2 R R R R (g0_1.stp (S3.tr (S7.tr (S12.tr (S17.tr (S21.tr (S26.tr (S31.tr (S35.tr S39)))))))) R R) (Sl.srcP (bR _) f40.rdc) bJ hx29 R λae af w42 K43 S44 f45=>⟨tv,Jd3 R U108 R Z29 ?_⟩⟩)))))⟩))⟩⟩))))))⟩))⟩⟩))
 refine Ji1 (κ:=K43) 5 (off:=2) (vc:=[.slice ae x29.length af]) (cs':=[.slice ab x14.length aa,.slice ad x22.length ac,.slice ae x29.length af]) R R R R R R R Z29 R R (f36.stp (S39.tr S44) R R) R R λw47 S48 f49=>⟨tv,Jd (Je [1,1] R (Jl tv R R R R (Jd2 (cs:=[.slice ab x14.length aa,.slice ad x22.length ac,.slice ae x29.length af]) I108 Z108 R R R (haE f49.cells)) (Jj1 (κ:=K43) 6 (vc:=[.slice ab x14.length aa,.slice ad x22.length ac,.slice ae x29.length af]) R R R R R R R Z108 R R (f8.stp (S12.tr (S17.tr (S21.tr (S26.tr (S31.tr (S35.tr (S39.tr (S44.tr S48)))))))) R R) R λw51 S52 f53=>⟨tv,Jd (Ju (Ja2 (l:=[.cell 8 108]) V186 (bL R f53 I108 Z108 R R) R ?_))⟩)))⟩
 cases h
 exact⟨(λb=>ren [(2,5),(3,6),(4,7)] (K43 b)),ab,aa,ad,ac,ae,af,R,((hE.stp (S3.tr (S7.tr (S12.tr (S17.tr (S21.tr (S26.tr (S31.tr (S35.tr (S39.tr (S44.tr (S48.tr S52))))))))))) R R).map (ren [(2,5),(3,6),(4,7)]) R R),((f18.stp (S21.tr (S26.tr (S31.tr (S35.tr (S39.tr (S44.tr (S48.tr S52))))))) R R).map (ren [(2,5),(3,6),(4,7)]) R R),((f32.stp (S35.tr (S39.tr (S44.tr (S48.tr S52)))) R R).map (ren [(2,5),(3,6),(4,7)]) R R),((f45.stp (S48.tr S52) R R).map (ren [(2,5),(3,6),(4,7)]) R R)⟩
theorem r8 {w:World}{κ:Col}{p0:Int}  {r:(List Int)}(h:n0 p0=some r):Ret Tryz.prog 192 [vi p0] w (λv w'=>∃(κ':Col) (ra0:Option Addr) (ru0:Nat),v= .slice ra0 r.length ru0/\Ent κ w κ' w'/\Oc E6 2 κ' w' 2 ra0 ru0 r):=by
 unfold n0 at h
 refine Ret.enter F192 R N192 R ?_
 dsimp only[envOf]
 have hE:=Ent.refl κ w
 refine Je3 R (Jq (Jg3 [2,2,2,2,2,2] 3 R (Ob h λp10 h hK1=>Ju1 [(3,2),(4,2),(5,2)] [] (λL w'=>L=[(0,vi p0),(10,.bool p10)]/\∃κ',Stp [] κ w κ' w') tv ?_ ?_)))
 revert h
 cases ht2:decide (p0<0)
 refine JF λh=>Jn 3 R ?_
 cases h
 exact Jv1 _ tv ⟨R,_,Jj3⟩ (KM R)
 refine JT λh=>Jn 3 R ?_
 cases h
 exact Jv1 _ tv ⟨R,_,Jj3⟩ (KM R)
 rintro _ w3 _ ⟨rfl,K4,S5⟩
 have h:=hK1
 refine Jd ?_
 revert h
 cases ht6:p10
 refine JF λh=>Jy R (Js (Jp (Je [1,2] R (Jo1 (κ:=K4) (E:=E6) 2 R R R R R Y29 Tryzinfo2 R λae ai w8 K9 S10 f11=>⟨tv,Jb 1 R (Jq (Je3 R (Ob h λ_ hr12 h=>?_)))⟩))))
 have hN12:=iF hr12
 refine Ob h λq2 hq14 hK13=>?_
 clear h
 refine Jx1 (λL w'=>∃κ',∃s3:(List Int),∃ac ad,L=[(3,.slice ac s3.length ad)]/\Stp [2] K9 w8 κ' w'/\Oc E6 2 κ' w' 2 ac ad s3/\q2=t9 s3) ?_ ?_
 refine Jv (Jy1 (λk L w'=>∃κ' v4,∃s1:(List Int),∃aa ab,L=[(0,vi p0),(3,.slice aa s1.length ab),(4,vi v4)]/\Stp [2] K9 w8 κ' w'/\Oc E6 2 κ' w' 2 aa ab s1/\0<=v4/\vH (p0-v4)=k/\cntM ji k v4 s1=some q2) ⟨_,_,⟨K9,0,(([]:List Int):(List Int)),ae,ai,R,Jj3,f11,(by decide),(by simp),hq14⟩,(KM R)⟩ ?_)
 rintro k _ w19 ⟨K20,v4,s1,aa,ab,rfl,S21,f22,hj12,hJ12,h⟩
 rcases k with _ | k
 have hk23:=h;obtain⟨o12,h⟩:=bO (t9 (vF s1):(List Int)⊕(((List Int))⊕((List Int))))
 have hc12:decide (v4<p0)=false:=Jo2 (by omega)
 refine Jq (Je3 R (Jw2 R hc12 (Jc1 (Jt (Jt ?_)))))
 cases h
 have h:=hk23
 refine Jb1 ?_
 cases h
 exact Jw1 _ ⟨K20,(s1:(List Int)),aa,ab,R,S21.wk R,f22,R⟩ (KM R)
 obtain⟨o12,h,hk23⟩:=BI h;unfold ji at h
 have hc12:decide (v4<p0)=true:=Jn2 (by omega)
 refine Jq (Je3 R (Jv2 R hc12 (Js (Jp (Jq (Jv (Jh3 [2,2,1,1,2] 2 R (Jn1 (κ:=K20) (E:=E6) 3 [] (parts:=[(0,.tmp 18)]) (cells:=[vi v4]) (xs:=([v4]:List Int)) R R R R R R Y29 Tryzinfo2 R R R R R R R R R R ⟨[vi v4],[],Zl K20 w19 [],Zl K20 w19 [],R,Zl.sp (l1:=[]) (l2:=[]) R,Zl.sr (l1:=[]) (l2:=[]),R,R⟩ λaj ak w24 K25 S26 f27=>⟨tv,Ob h λx20 hx20 h=>Jm1 (κ:=K25) (E:=E6) 2 [] R R R R R R R R R Y29 Tryzinfo2 R R R R (f22.stp S26 R R) (Sl.srcP (bR _) f27.rdc) bJ hx20 R λaf ah w29 K30 S31 f32=>⟨tv,Jc 1 R (Jz (Jp (Jf3 R ?_)))⟩⟩))))))))
 have hw12:t5 .i64 (v4+1)=v4+1:=wr1 hj12 (Jm2 hc12) hN12
 rw[hw12]
 have hc12:=Jm2 hc12
 cases h
 exact Jz1 λa ha=>⟨k,_,Ja3 _,⟨K30,v4+1,(x20:(List Int)),af,ah,R,(S21.tr (S26.tr S31)).wk R,f32,by omega,by omega,hk23⟩,(ha.mm R)⟩
 rintro _ w15 ⟨K16,s3,ac,ad,rfl,S17,f18,rfl⟩
 have h:=hK13
 dsimp only[aft]at h
 refine Jp (Je3 R (Ju (Ja2 (l:=[.tmp 2]) V192 (Jp2 R R) R ?_)))
 cases h
 exact⟨K16,ac,ad,R,(hE.stp (S5.tr (S10.tr S17)) R R),f18⟩
 refine JT λh=>Jx R (Je3 R (Ju (Jw (Ja2 (l:=[.tmp 2]) V192 (Jp2 R R) R ?_))))
 cases h
 exact⟨K4,none,0,R,(hE.stp S5 R R),Ow.nil⟩
theorem qh {w:World}{κ:Col}{ae af ac ad}{p0:Arena}(g0_0:Rd (Rp.int .i64) κ w 0 ae af p0.Owner) (g0_1:Rd (Rp.sl (Rp.int .i64)) κ w 0 ac ad p0.Next){r:(List (List Int))}(h:kb p0=some r):Ret Tryz.prog 187 [.agg #[.slice ae p0.Owner.length af,.slice ac p0.Next.length ad]] w (λv w'=>∃(κ':Col) (ra0:Option Addr) (ru0:Nat),v= .slice ra0 r.length ru0/\Ent κ w κ' w'/\Oc (Ep.own E6 2) 29 κ' w' 2 ra0 ru0 r):=by
 unfold kb at h
 refine Ret.enter F187 R N187 R ?_
 dsimp only[envOf]
 have hE:=Ent.refl κ w
 refine Je [1,2] R (Jf1 (κ:=κ) 2 R R R R R R R λb1 w1 K2 S3 f4=>⟨tv,Jb 1 R (Je [2,1,2,1,2] R (Jd3 R U104 R Z29 (Jb3 R I29 (f4.ld 0 R R) (Jf R (Je2 U29 R R) (Ob h λx11 hx11 h=>Jl1 (κ:=K2) (E:=(Ep.own E6 2)) (z:=(([]:List Int):(List Int))) 3 R R R R R R R Y26 Tryzinfo29 R R R R R (λ_ _ _=>⟨none,0,R,Ow.nil⟩) (Ju2 hx11) λaa ab w5 K6 S7 f8=>⟨tv,Jb 1 R (Jq (Je [2,1,2,2] R (Jd3 R U104 R Z26 (Jb3 R I26 ((f4.stp S7 R R).ld 1 R R) (Jf R (Je2 U26 R R) (Jb 1 R ?_))))))⟩)))))⟩)
 have hN10:(p0.Next.length:Int)<=9223372036854775807:=g0_1.len_le
 refine Ob h λq2 hq12 hK11=>?_
 clear h
 refine Jx1 (λL w'=>∃κ',∃s3:(List (List Int)),L=[(3,.slice aa x11.length ab)]/\Stp [3,5] K6 w5 κ' w'/\Oc (Ep.own E6 2) 29 κ' w' 3 aa ab s3/\x11.length=s3.length/\q2=t9 s3) ?_ ?_
 refine Jv (Jy1 (λk L w'=>∃κ' v15,∃s1:(List (List Int)),L=[(3,.slice aa x11.length ab),(13,.slice ac p0.Next.length ad),(14,vi (p0.Next.length:Int)),(15,vi v15)]/\Stp [3,5] K6 w5 κ' w'/\Oc (Ep.own E6 2) 29 κ' w' 3 aa ab s1/\x11.length=s1.length/\0<=v15/\vH ((p0.Next.length:Int)-v15)=k/\cntM (gn p0) k v15 s1=some q2) ⟨_,_,⟨K6,0,(x11:(List (List Int))),R,Jj3,f8,R,(by decide),(by simp),hq12⟩,(KM R)⟩ ?_)
 rintro k _ w18 ⟨K19,v15,s1,rfl,S20,f21,hn22,hj10,hJ10,h⟩
 rcases k with _ | k
 have hk23:=h;obtain⟨o10,h⟩:=bO (t9 (vF s1):(List (List Int))⊕(((List (List Int)))⊕((List (List Int)))))
 have hc10:decide (v15<(p0.Next.length:Int))=false:=Jo2 (by omega)
 refine Je3 R (Jq (Jw2 R hc10 (Jc1 (Jt (Jt ?_)))))
 cases h
 have h:=hk23
 refine Jb1 ?_
 cases h
 exact Jw1 _ ⟨K19,(s1:(List (List Int))),R,S20.wk R,f21,hn22,R⟩ (KM R)
 obtain⟨o10,h,hk23⟩:=BI h;unfold gn at h
 have hc10:decide (v15<(p0.Next.length:Int))=true:=Jn2 (by omega)
 refine Je3 R (Jq (Jv2 R hc10 (Js (Jp (Jq (Jv (Jg3 [2,2,1,2,2] 1 R (Ob h λx18 hx18 h=>Jc3 R g0_1 hx18 U26 Z29 ?_))))))))
 obtain⟨ax18,ux18,f25,hl26⟩:=(g0_1.stp (S3.tr (S7.tr S20)) R R).gSl hx18
 refine Jb3 R I29 hl26 (Jb 2 R (Jg3 [2,2,2] 1 R (Jf R (Je2 U29 R R) (Jb 1 R ?_))))
 have hN27:(x18.length:Int)<=9223372036854775807:=f25.len_le
 refine Ob h λq5 hq29 hK28=>?_
 clear h
 refine Jx1 (λL w'=>∃κ',∃s6:(List (List Int)),L=[(3,.slice aa x11.length ab),(13,.slice ac p0.Next.length ad),(14,vi (p0.Next.length:Int)),(15,vi v15)]/\Stp [3,5] K19 w18 κ' w'/\Oc (Ep.own E6 2) 29 κ' w' 3 aa ab s6/\x11.length=s6.length/\q5=t9 s6) ?_ ?_
 refine Jv (Jy1 (λk L w'=>∃κ' v22,∃s4:(List (List Int)),L=[(3,.slice aa x11.length ab),(4,vi v15),(13,.slice ac p0.Next.length ad),(14,vi (p0.Next.length:Int)),(15,vi v15),(20,.slice ax18 x18.length ux18),(21,vi (x18.length:Int)),(22,vi v22)]/\Stp [3,5] K19 w18 κ' w'/\Oc (Ep.own E6 2) 29 κ' w' 3 aa ab s4/\x11.length=s4.length/\0<=v22/\vH ((x18.length:Int)-v22)=k/\cntM (gA v15 x18) k v22 s4=some q5) ⟨_,_,⟨K19,0,(s1:(List (List Int))),R,Jj3,f21,hn22,(by decide),(by simp),hq29⟩,(KM R)⟩ ?_)
 rintro k _ w35 ⟨K36,v22,s4,rfl,S37,f38,hn39,hj27,hJ27,h⟩
 rcases k with _ | k
 have hk40:=h;obtain⟨o27,h⟩:=bO (t9 (vF s4):(List (List Int))⊕(((List (List Int)))⊕((List (List Int)))))
 have hc27:decide (v22<(x18.length:Int))=false:=Jo2 (by omega)
 refine Je3 R (Jq (Jw2 R hc27 (Jc1 (Jt (Jt ?_)))))
 cases h
 have h:=hk40
 refine Jb1 ?_
 cases h
 exact Jw1 _ ⟨K36,(s4:(List (List Int))),R,S37.wk R,f38,hn39,R⟩ (KM R)
 obtain⟨o27,h,hk40⟩:=BI h;unfold gA at h
 have hc27:decide (v22<(x18.length:Int))=true:=Jn2 (by omega)
 refine Je3 R (Jq (Jv2 R hc27 (Js (Jp (Jq (Jv (Je [2,1,2] R (Ob h λx24 hx24 h=>Jc3 R f25 hx24 U29 Z2 (Jb3 R I2 ((f25.stp S37 R R).gInt hx24) (Jb 1 R (Jh3 [2,2,2,2,2,1,2,1,1,2,1] 4 R (Ob h λx30 hx30 h=>Jf R (Jf2 f38.rdc hx30 U26 Z29 R R hn39 R) ?_))))))))))))
 obtain⟨ax30,ux30,f42,hl43⟩:=f38.rdc.gSl hx30
 refine Jb3 R I29 hl43 (Jn 1 R (Jn1 (κ:=K36) (E:=E6) 4 [] (parts:=[(0,.tmp 32)]) (cells:=[vi v15]) (xs:=([v15]:List Int)) R R R R R R Y29 Tryzinfo2 R R R R R R R R R R ⟨[vi v15],[],Zl K36 w35 [],Zl K36 w35 [],R,Zl.sp (l1:=[]) (l2:=[]) R,Zl.sr (l1:=[]) (l2:=[]),R,R⟩ λak aj w44 K45 S46 f47=>⟨tv,?_⟩))
 have f48:=f38.stp S46 R R
 obtain⟨K49,S50,f51,f52⟩:=f48.borrow hx30 (hl43 _ (Stp.ag S46 R)) 5 R R
 refine Ob h λx34 hx34 h=>Jm1 (κ:=K49) (E:=E6) 5 [] R R R R R R R R R Y29 Tryzinfo2 R R R R f51 (Sl.srcP (bR _) (f47.stp S50 R R).rdc) bJ hx34 R λai ah w54 K55 S56 f57=>⟨tv,Ob h λx35 hx35 h=>Jf R (Jf2 f48.rdc hx35 U26 Z29 R R hn39 R) (Ob h λy393 hy393 h=>WO.stH (κ:=K55) (E:=(Ep.own E6 2)) 3 [5] R R R R R R R R Z29 R ⟨_,_,R,f57⟩ R R (f52.stp S56 R R) hy393 λw59 K60 S61 f62=>⟨tv,?_⟩)⟩
 have hn63:x11.length=y393.length:=hn39.trans (Jt2 hy393).2.2.2.symm
 refine Jo (Jz (Jp (Jf3 R ?_)))
 have hw27:t5 .i64 (v22+1)=v22+1:=wr1 hj27 (Jm2 hc27) hN27
 rw[hw27]
 have hc27:=Jm2 hc27
 cases h
 exact Jz1 λa ha=>⟨k,_,Ja3 _,⟨K60,v22+1,(y393:(List (List Int))),R,(S37.tr (S46.tr (S50.tr (S56.tr S61)))).wk R,f62,hn63,by omega,by omega,hk40⟩,(ha.mm R)⟩
 rintro _ w30 ⟨K31,s6,rfl,S32,f33,hn34,rfl⟩
 have h:=hK28
 dsimp only[aft]at h
 refine Jz (Jp (Jf3 R ?_))
 have hw10:t5 .i64 (v15+1)=v15+1:=wr1 hj10 (Jm2 hc10) hN10
 rw[hw10]
 have hc10:=Jm2 hc10
 cases h
 exact Jz1 λa ha=>⟨k,_,Ja3 _,⟨K31,v15+1,(s6:(List (List Int))),R,(S20.tr S32).wk R,f33,hn34,by omega,by omega,hk23⟩,(ha.mm R)⟩
 rintro _ w13 ⟨K14,s3,rfl,S15,f16,hn17,rfl⟩
 have h:=hK11
 dsimp only[aft]at h
 refine Jp (Je3 R (Ju (Ja2 (l:=[.tmp 2]) V187 (Jp2 R R) R ?_)))
 cases h
 exact⟨(λb=>ren [(3,2)] (K14 b)),aa,ab,(by simp only[hn17]),((hE.stp (S3.tr (S7.tr S15)) R R).map (ren [(3,2)]) R R),(f16.map (ren [(3,2)]) R R)⟩
theorem qP {w:World}{κ:Col}{aa ad ab ac}{p0:Arena}(g0_0:Rd (Rp.int .i64) κ w 0 aa ad p0.Owner) (g0_1:Rd (Rp.sl (Rp.int .i64)) κ w 0 ab ac p0.Next){r:(List Int)}(h:kR p0=some r):Ret Tryz.prog 149 [.agg #[.slice aa p0.Owner.length ad,.slice ab p0.Next.length ac]] w (λv w'=>∃(κ':Col) (ra0:Option Addr) (ru0:Nat),v= .slice ra0 r.length ru0/\Ent κ w κ' w'/\Oc E6 2 κ' w' 2 ra0 ru0 r):=by
 unfold kR at h
 refine Ret.enter F149 R N149 R ?_
 dsimp only[envOf]
 have hE:=Ent.refl κ w
 refine Je [1,2] R (Jf1 (κ:=κ) 2 R R R R R R R λb1 w1 K2 S3 f4=>⟨tv,Jb 1 R (Je [2,1,2,1,2] R (Jd3 R U104 R Z29 (Jb3 R I29 (f4.ld 0 R R) (Jf R (Je2 U29 R R) (Ob h λx8 hx8 h=>Jl1 (κ:=K2) (E:=E6) (z:=(0:Int)) 3 R R R R R R R Y29 Tryzinfo2 R R R R R (λ_ _ _=>R) (Ju2 hx8) λa8 u8 w5 K6 S7 f8=>⟨tv,Jb 1 R (Jq (Jg3 [2,2,2] 1 R (Jf R (Je2 U29 R R) (Jb 1 R ?_))))⟩)))))⟩)
 have hN9:(x8.length:Int)<=9223372036854775807:=f8.len_le
 refine Ob h λq2 hq11 hK10=>?_
 clear h
 refine Jx1 (λL w'=>∃κ',∃s3:(List Int),L=[(3,.slice a8 x8.length u8)]/\Stp [3] K6 w5 κ' w'/\Oc E6 2 κ' w' 3 a8 u8 s3/\x8.length=s3.length/\q2=t9 s3) ?_ ?_
 refine Jv (Jy1 (λk L w'=>∃κ' v11,∃s1:(List Int),L=[(3,.slice a8 x8.length u8),(10,vi (x8.length:Int)),(11,vi v11)]/\Stp [3] K6 w5 κ' w'/\Oc E6 2 κ' w' 3 a8 u8 s1/\x8.length=s1.length/\0<=v11/\vH ((x8.length:Int)-v11)=k/\cntM jN k v11 s1=some q2) ⟨_,_,⟨K6,0,(x8:(List Int)),R,Jj3,f8,R,(by decide),(by simp),hq11⟩,(KM R)⟩ ?_)
 rintro k _ w17 ⟨K18,v11,s1,rfl,S19,f20,hn21,hj9,hJ9,h⟩
 rcases k with _ | k
 have hk22:=h;obtain⟨o9,h⟩:=bO (t9 (vF s1):(List Int)⊕(((List Int))⊕((List Int))))
 have hc9:decide (v11<(x8.length:Int))=false:=Jo2 (by omega)
 refine Je3 R (Jq (Jw2 R hc9 (Jc1 (Jt (Jt ?_)))))
 cases h
 have h:=hk22
 refine Jb1 ?_
 cases h
 exact Jw1 _ ⟨K18,(s1:(List Int)),R,S19.wk R,f20,hn21,R⟩ (KM R)
 obtain⟨o9,h,hk22⟩:=BI h;unfold jN at h
 have hc9:decide (v11<(x8.length:Int))=true:=Jn2 (by omega)
 refine Je3 R (Jq (Jv2 R hc9 (Js (Jp (Jq (Jv (Je3 R (Jh3 [2,2,2,1] 2 R (Ob h λx16 hx16 h=>Jf R (Jf2 f20.rdc hx16 U29 Z2 R R hn21 R) (Ob h λy441 hy441 h=>Jk1 (κ:=K18) (E:=E6) 3 [] R R R R R R R R Z2 R R R R f20 hy441 λw23 K24 S25 f26=>⟨tv,?_⟩))))))))))
 have hn27:x8.length=y441.length:=hn21.trans (Jt2 hy441).2.2.2.symm
 refine Jo (Jz (Jp (Jf3 R ?_)))
 have hw9:t5 .i64 (v11+1)=v11+1:=wr1 hj9 (Jm2 hc9) hN9
 rw[hw9]
 have hc9:=Jm2 hc9
 cases h
 exact Jz1 λa ha=>⟨k,_,Ja3 _,⟨K24,v11+1,(y441:(List Int)),R,(S19.tr S25).wk R,f26,hn27,by omega,by omega,hk22⟩,(ha.mm R)⟩
 rintro _ w12 ⟨K13,s3,rfl,S14,f15,hn16,rfl⟩
 have h:=hK10
 dsimp only[aft]at h
 refine Jp (Je3 R (Ju (Ja2 (l:=[.tmp 2]) V149 (Jp2 R R) R ?_)))
 cases h
 exact⟨(λb=>ren [(3,2)] (K13 b)),a8,u8,(by simp only[hn16]),((hE.stp (S3.tr (S7.tr S14)) R R).map (ren [(3,2)]) R R),(f15.map (ren [(3,2)]) R R)⟩
theorem pd {w:World}{κ:Col}{ac ah aj ak}{p0:Answer}{p1:Int}(g0_0:Rd (Rp.int .i64) κ w 0 ac ah p0.Won) (g0_1:Rd (Rp.int .i64) κ w 0 aj ak p0.Plan){r:(List Int)}(h:jp p0 p1=some r):Ret Tryz.prog 195 [.agg #[.slice ac p0.Won.length ah,.slice aj p0.Plan.length ak],vi p1] w (λv w'=>∃(κ':Col) (ra0:Option Addr) (ru0:Nat),v= .slice ra0 r.length ru0/\Ent κ w κ' w'/\Oc E6 2 κ' w' 2 ra0 ru0 r):=by
 unfold jp at h
 refine Ret.enter F195 R N195 R ?_
 dsimp only[envOf]
 have hE:=Ent.refl κ w
 refine Je [1,2] R (Jf1 (κ:=κ) 2 R R R R R R R λb2 w1 K2 S3 f4=>⟨tv,Jb 1 R (Jq (Je [2,1,2,2] R (Jd3 R U113 R Z29 (Jb3 R I29 (f4.ld 0 R R) (Jf R (Je2 U29 R R) (Jb 1 R ?_))))))⟩)
 revert h
 cases ht5:decide (256<(p0.Won.length:Int))
 refine JF λh=>Jy R (Js (Jp (Je [1,2] R (Jo1 (κ:=K2) (E:=E6) 3 R R R R R Y29 Tryzinfo2 R λal ao w7 K8 S9 f10=>⟨tv,Jb 1 R (Jq (Je [2,1,2,2] R (Jd3 R U113 R Z29 (Jb3 R I29 ((f4.stp S9 R R).ld 0 R R) (Jf R (Je2 U29 R R) (Jb 1 R ?_))))))⟩))))
 have hN12:(p0.Won.length:Int)<=9223372036854775807:=g0_0.len_le
 refine Ob h λq2 hq14 hK13=>?_
 clear h
 refine Jx1 (λL w'=>∃κ',∃s3:(List Int),∃af ai,L=[(5,.slice af s3.length ai)]/\Stp [3] K8 w7 κ' w'/\Oc E6 2 κ' w' 3 af ai s3/\q2=t9 s3) ?_ ?_
 refine Jv (Jy1 (λk L w'=>∃κ' v16,∃s1:(List Int),∃aa ab,L=[(1,vi p1),(5,.slice aa s1.length ab),(14,.slice ac p0.Won.length ah),(15,vi (p0.Won.length:Int)),(16,vi v16)]/\Stp [3] K8 w7 κ' w'/\Oc E6 2 κ' w' 3 aa ab s1/\0<=v16/\vH ((p0.Won.length:Int)-v16)=k/\cntM (fv p0 p1) k v16 s1=some q2) ⟨_,_,⟨K8,0,(([]:List Int):(List Int)),al,ao,R,Jj3,f10,(by decide),(by simp),hq14⟩,(KM R)⟩ ?_)
 rintro k _ w19 ⟨K20,v16,s1,aa,ab,rfl,S21,f22,hj12,hJ12,h⟩
 rcases k with _ | k
 have hk23:=h;obtain⟨o12,h⟩:=bO (t9 (vF s1):(List Int)⊕(((List Int))⊕((List Int))))
 have hc12:decide (v16<(p0.Won.length:Int))=false:=Jo2 (by omega)
 refine Je3 R (Jq (Jw2 R hc12 (Jc1 (Jt (Jt ?_)))))
 cases h
 have h:=hk23
 refine Jb1 ?_
 cases h
 exact Jw1 _ ⟨K20,(s1:(List Int)),aa,ab,R,S21.wk R,f22,R⟩ (KM R)
 obtain⟨o12,h,hk23⟩:=BI h;unfold fv at h
 have hc12:decide (v16<(p0.Won.length:Int))=true:=Jn2 (by omega)
 refine Je3 R (Jq (Jv2 R hc12 (Js (Jp (Jq (Jv (Jg3 [2,2,1,2,2] 1 R (Ob h λx19 hx19 h=>Jc3 R g0_0 hx19 U29 Z2 (Jb3 R I2 ((g0_0.stp (S3.tr (S9.tr S21)) R R).gInt hx19) (Jb 2 R (Je3 R (Ob h λq4 h hK25=>Jx1 (λL w'=>∃κ' ad ae,L=[(1,vi p1),(5,.slice ad q4.length ae),(14,.slice ac p0.Won.length ah),(15,vi (p0.Won.length:Int)),(16,vi v16)]/\Stp [3] K20 w19 κ' w'/\Oc E6 2 κ' w' 3 ad ae q4) ?_ ?_))))))))))))
 revert h
 cases ht30:(x19==p1)
 refine JF λh=>Jy R (Js ?_)
 cases h
 exact Jw1 _ ⟨K20,aa,ab,R,Jj3,f22⟩ (KM R)
 refine JT λh=>Jx R (Jh3 [2,2,1,1,2] 2 R (Jn1 (κ:=K20) (E:=E6) 4 [] (parts:=[(0,.tmp 25)]) (cells:=[vi v16]) (xs:=([v16]:List Int)) R R R R R R Y29 Tryzinfo2 R R R R R R R R R R ⟨[vi v16],[],Zl K20 w19 [],Zl K20 w19 [],R,Zl.sp (l1:=[]) (l2:=[]) R,Zl.sr (l1:=[]) (l2:=[]),R,R⟩ λap aq w31 K32 S33 f34=>⟨tv,Ob h λx27 hx27 h=>Jm1 (κ:=K32) (E:=E6) 3 [] R R R R R R R R R Y29 Tryzinfo2 R R R R (f22.stp S33 R R) (Sl.srcP (bR _) f34.rdc) bJ hx27 R λam an w36 K37 S38 f39=>⟨tv,Jc 1 R ?_⟩⟩))
 cases h
 exact Jw1 _ ⟨K37,am,an,R,(S33.tr S38).wk R,f39⟩ (KM R)
 rintro _ w26 ⟨K27,ad,ae,rfl,S28,f29⟩
 have h:=hK25
 refine Jz (Jp (Jf3 R ?_))
 have hw12:t5 .i64 (v16+1)=v16+1:=wr1 hj12 (Jm2 hc12) hN12
 rw[hw12]
 have hc12:=Jm2 hc12
 cases h
 exact Jz1 λa ha=>⟨k,_,Ja3 _,⟨K27,v16+1,(q4:(List Int)),ad,ae,R,(S21.tr S28).wk R,f29,by omega,by omega,hk23⟩,(ha.mm R)⟩
 rintro _ w15 ⟨K16,s3,af,ai,rfl,S17,f18,rfl⟩
 have h:=hK13
 dsimp only[aft]at h
 refine Jp (Je3 R (Ju (Ja2 (l:=[.tmp 4]) V195 (Jp2 R R) R ?_)))
 cases h
 exact⟨(λb=>ren [(3,2)] (K16 b)),af,ai,R,((hE.stp (S3.tr (S9.tr S17)) R R).map (ren [(3,2)]) R R),(f18.map (ren [(3,2)]) R R)⟩
 refine JT λh=>Jx R (Je3 R (Ju (Jw (Ja2 (l:=[.tmp 4]) V195 (Jp2 R R) R ?_))))
 cases h
 exact⟨K2,none,0,R,(hE.stp S3 R R),Ow.nil⟩
end Go.Proofs.YtpcjbkgbnoocaaaGreat
