/- The walks, part 2. By program. -/
import Derived.Test.YtpcjbkgbnoocaaaGreatFnsMCO
import Derived.Test.YtpcjbkgbnoocaaaGreatAlCO
set_option linter.unusedVariables false
set_option linter.unusedSimpArgs false
open Go.IntKind renaming wrap → hV
open Sum renaming inr → it, inl → sh
open Int renaming toNat → t5
namespace Go.Proofs.YtpcjbkgbnoocaaaGreat
open Go Go.Wk Go.Proofs
set_option maxRecDepth 100000
set_option maxHeartbeats 1000000
theorem kD {w:World}{κ:Col}{p0:Bool}  {r:Int}(h:fU p0=some r):Ret Tryz.prog 200 [.bool p0] w (λv w'=>∃(κ':Col),v=vi r/\Ent κ w κ' w'):=by
 unfold fU at h
 refine Ret.enter F200 R N200 R ?_
 dsimp only[envOf]
 have hE:=Ent.refl κ w
 refine Je3 R (Jq (Je3 R ?_))
 revert h
 cases ht1:p0
 refine JF λh=>Jy R (Js (Jp (Je3 R (Ju (Ja2 (l:=[.tmp 2]) V200 (Jp2 R R) R ?_)))))
 cases h
 exact⟨κ,R,hE⟩
 refine JT λh=>Jx R (Je3 R (Ju (Jw (Ja2 (l:=[.tmp 2]) V200 (Jp2 R R) R ?_))))
 cases h
 exact⟨κ,R,hE⟩
theorem db {w:World}{κ:Col}{a0 u0}{p0:(List Int)}(g0:Rd (Rp.int .i64) κ w 0 a0 u0 p0){r:(List Int)}(h:da p0=some r):Ret Tryz.prog 56 [.slice a0 p0.length u0] w (λv w'=>∃(κ':Col) (ra0:Option Addr) (ru0:Nat),v= .slice ra0 r.length ru0/\Ent κ w κ' w'/\Oc E6 2 κ' w' 2 ra0 ru0 r):=by
 unfold da at h
 refine Ret.enter F56 R N56 R ?_
 dsimp only[envOf]
 have hE:=Ent.refl κ w
 refine Je3 R (Je [1,2,1,2] R (Jo1 (κ:=κ) (E:=E6) 2 R R R R R Y29 Tryzinfo2 R λa3 u3 w1 K2 S3 f4=>⟨tv,Jn 1 R (Ob h λx5 hx5 h=>Jm1 (κ:=K2) (E:=E6) 2 [] R R R R R R R R R Y29 Tryzinfo2 R R R R f4 (Sl.srcP (bT _) (g0.stp S3 R R)) bJ hx5 R λa5 u5 w6 K7 S8 f9=>⟨tv,Jb 1 R (Ju (Ja2 (l:=[.tmp 2]) V56 (Jp2 R R) R ?_))⟩)⟩))
 cases h
 exact⟨K7,a5,u5,R,(hE.stp (S3.tr S8) R R),f9⟩
theorem kV {w:World}{κ:Col}{a0 u0}{p0:(List Int)}{p1:Int}(g0:Rd (Rp.int .i64) κ w 0 a0 u0 p0){r:Bool}(h:iY p0 p1=some r):Ret Tryz.prog 171 [.slice a0 p0.length u0,vi p1] w (λv w'=>∃(κ':Col),v= .bool r/\Ent κ w κ' w'):=by
 unfold iY at h
 refine Ret.enter F171 R N171 R ?_
 dsimp only[envOf]
 have hE:=Ent.refl κ w
 refine Je3 R (Jq (Je3 R ?_))
 have hN1:(p0.length:Int)<=9223372036854775807:=g0.len_le
 refine Ob h λq2 hq3 hK2=>?_
 clear h
 refine Jx1 (λL w'=>∃κ',L=[]/\Stp [] κ w κ' w'/\q2=it ()) ?_ ?_
 refine Jv (Jy1 (λk L w'=>∃κ' v5,L=[(0,.slice a0 p0.length u0),(1,vi p1),(5,vi v5)]/\Stp [] κ w κ' w'/\0<=v5/\t5 ((p0.length:Int)-v5)=k/\cntM (ic p0 p1) k v5 ()=some q2) ⟨_,_,⟨κ,0,R,Jj3,(by decide),(by simp),hq3⟩,(KM R)⟩ ?_)
 rintro k _ w7 ⟨K8,v5,rfl,S9,hj1,hJ1,h⟩
 rcases k with _ | k
 have hk10:=h;obtain⟨o1,h⟩:=bO (it (sh ()):Bool⊕((Unit)⊕(Unit)))
 have hc1:decide (v5<(p0.length:Int))=false:=Jo2 (by omega)
 refine Jq (Jg3 [2,2,2,2] 2 R (Jf R (Je2 U29 R R) (Jb 1 R (Jw2 R hc1 (Jc1 (Jt (Jt ?_)))))))
 cases h
 have h:=hk10
 refine Jb1 ?_
 cases h
 exact Jw1 _ ⟨K8,R,S9.wk R,R⟩ KN
 obtain⟨o1,h,hk10⟩:=BI h;unfold ic at h
 have hc1:decide (v5<(p0.length:Int))=true:=Jn2 (by omega)
 refine Jq (Jg3 [2,2,2,2] 2 R (Jf R (Je2 U29 R R) (Jb 1 R (Jv2 R hc1 (Js (Jp (Jq (Jv (Jg3 [2,2,2,1,2,2] 2 R (Ob h λx14 hx14 h=>Jc3 R g0 hx14 U29 Z2 (Jb3 R I2 ((g0.stp S9 R R).gInt hx14) (Jb 2 R ?_))))))))))))
 revert h
 cases ht12:(x14==p1)
 refine JF λh=>Jy R (Js (Jz (Jp (Jf3 R ?_))))
 have hw1:hV .i64 (v5+1)=v5+1:=wr1 hj1 (Jm2 hc1) hN1
 rw[hw1]
 have hc1:=Jm2 hc1
 cases h
 exact Jz1 λa ha=>⟨k,_,Ja3 _,⟨K8,v5+1,R,S9.wk R,by omega,by omega,hk10⟩,(ha.mm R)⟩
 refine JT λh=>Jx R (Je3 R (Ju (Ja1 (Jw (Jw ?_)))))
 cases h
 obtain rfl:=Option.some.inj hk10
 have h:=hK2
 dsimp only[aft]at h
 refine Ja1 (Jq2 (Jw (Ja2 (l:=[.tmp 4]) V171 (Jp2 R R) R ?_)))
 cases h
 exact⟨K8,R,(hE.stp S9 R R)⟩
 rintro _ w4 ⟨K5,rfl,S6,rfl⟩
 have h:=hK2
 dsimp only[aft]at h
 refine Jp (Je3 R (Ju (Ja2 (l:=[.tmp 4]) V171 (Jp2 R R) R ?_)))
 cases h
 exact⟨K5,R,(hE.stp S6 R R)⟩
theorem rY {w:World}{κ:Col}{p0:Int}  {r:(List Bool)}(h:ml p0=some r):Ret Tryz.prog 214 [vi p0] w (λv w'=>∃(κ':Col) (ra0:Option Addr) (ru0:Nat),v= .slice ra0 r.length ru0/\Ent κ w κ' w'/\Oc Ep.bool 4 κ' w' 2 ra0 ru0 r):=by
 unfold ml at h
 refine Ret.enter F214 R N214 R ?_
 dsimp only[envOf]
 have hE:=Ent.refl κ w
 refine Je3 R (Jg3 [2,1,2] 1 R (Ob h λx6 hx6 h=>Jl1 (κ:=κ) (E:=Ep.bool) (z:=(false:Bool)) 2 R R R R R R R Y193 Tryzinfo4 R R R R R (λ_ _ _=>R) (Ju2 hx6) λa6 u6 w1 K2 S3 f4=>⟨tv,Jb 1 R (Jq (Je3 R (Ob h λ_ hr5 h=>?_)))⟩))
 have hN5:=iz hr5
 refine Ob h λq2 hq7 hK6=>?_
 clear h
 refine Jx1 (λL w'=>∃κ',∃s3:(List Bool),L=[(3,.slice a6 x6.length u6)]/\Stp [2] K2 w1 κ' w'/\Oc Ep.bool 4 κ' w' 2 a6 u6 s3/\x6.length=s3.length/\q2=it s3) ?_ ?_
 refine Jv (Jy1 (λk L w'=>∃κ' v4,∃s1:(List Bool),L=[(0,vi p0),(3,.slice a6 x6.length u6),(4,vi v4)]/\Stp [2] K2 w1 κ' w'/\Oc Ep.bool 4 κ' w' 2 a6 u6 s1/\x6.length=s1.length/\0<=v4/\t5 (p0-v4)=k/\cntM iL k v4 s1=some q2) ⟨_,_,⟨K2,0,(x6:(List Bool)),R,Jj3,f4,R,(by decide),(by simp),hq7⟩,(KM R)⟩ ?_)
 rintro k _ w13 ⟨K14,v4,s1,rfl,S15,f16,hn17,hj5,hJ5,h⟩
 rcases k with _ | k
 have hk18:=h;obtain⟨o5,h⟩:=bO (it (sh s1):(List Bool)⊕(((List Bool))⊕((List Bool))))
 have hc5:decide (v4<p0)=false:=Jo2 (by omega)
 refine Jq (Je3 R (Jw2 R hc5 (Jc1 (Jt (Jt ?_)))))
 cases h
 have h:=hk18
 refine Jb1 ?_
 cases h
 exact Jw1 _ ⟨K14,(s1:(List Bool)),R,S15.wk R,f16,hn17,R⟩ (KM R)
 obtain⟨o5,h,hk18⟩:=BI h;unfold iL at h
 have hc5:decide (v4<p0)=true:=Jn2 (by omega)
 refine Jq (Je3 R (Jv2 R hc5 (Js (Jp (Jq (Jv (Jh3 [2,2,2,1] 2 R (Ob h λx14 hx14 h=>Jf R (Jf2 f16.rdc hx14 U193 Z4 R R hn17 R) (Ob h λy181 hy181 h=>Jk1 (κ:=K14) (E:=Ep.bool) 2 [] R R R R R R R R Z4 R R R R f16 hy181 λw19 K20 S21 f22=>⟨tv,?_⟩)))))))))
 have hn23:x6.length=y181.length:=hn17.trans (Jt2 hy181).2.2.2.symm
 refine Jo (Jz (Jp (Jf3 R ?_)))
 have hw5:hV .i64 (v4+1)=v4+1:=wr1 hj5 (Jm2 hc5) hN5
 rw[hw5]
 have hc5:=Jm2 hc5
 cases h
 exact Jz1 λa ha=>⟨k,_,Ja3 _,⟨K20,v4+1,(y181:(List Bool)),R,(S15.tr S21).wk R,f22,hn23,by omega,by omega,hk18⟩,(ha.mm R)⟩
 rintro _ w8 ⟨K9,s3,rfl,S10,f11,hn12,rfl⟩
 have h:=hK6
 dsimp only[aft]at h
 refine Jp (Je3 R (Ju (Ja2 (l:=[.tmp 2]) V214 (Jp2 R R) R ?_)))
 cases h
 exact⟨K9,a6,u6,(by simp only[hn12]),(hE.stp (S3.tr S10) R R),f11⟩
theorem mZ {w:World}{κ:Col}{ac ak af ab ae ah ai aa aj ad}{p0:l7Game}{p1:Int}{p2:Int}(g0_0:Rd (Rp.int .i64) κ w 0 ac ak p0.owner) (g0_1:Rd (Rp.int .i64) κ w 0 af ab p0.prio) (g0_2:Rd (Rp.sl (Rp.int .i64)) κ w 0 ae ah p0.next) (g0_3:Rd (Rp.sl (Rp.int .i64)) κ w 0 ai aa p0.prev) (g0_4:Rd (Rp.int .i64) κ w 0 aj ad p0.pick){r:Bool}(h:jV p0 p1 p2=some r):Ret Tryz.prog 251 [.agg #[.slice ac p0.owner.length ak,.slice af p0.prio.length ab,.slice ae p0.next.length ah,.slice ai p0.prev.length aa,.slice aj p0.pick.length ad],vi p1,vi p2] w (λv w'=>∃(κ':Col),v= .bool r/\Ent κ w κ' w'):=by
 unfold jV at h
 refine Ret.enter F251 R N251 R ?_
 dsimp only[envOf]
 have hE:=Ent.refl κ w
 refine Je [1,2] R (Jf1 (κ:=κ) 2 R R R R R R R λb3 w1 K2 S3 f4=>⟨tv,Jb 1 R (Je [2,1,2,2,1,2,2,2,1,2,2,1,2,2,2,2] R (Jd3 R U191 R Z29 (Jb3 R I29 (f4.ld 4 R R) (Jn 1 R (Ob h λx10 hx10 h=>Jc3 R g0_4 hx10 U29 Z2 ?_)))))⟩)
 have f5:=g0_4.stp S3 R R
 refine Jb3 R I2 (f5.gInt hx10) (Jn 2 R (Ob h λp21 h hK6=>Ju1 [(7,2),(8,1),(9,2),(10,2),(11,1),(12,2),(13,2),(14,2)] [(15,2)] (λL w'=>L=[(6,.bool false),(21,.bool p21)]/\∃κ',Stp [] K2 w1 κ' w') tv ?_ ?_))
 revert h
 cases ht7:decide (x10<0)
 refine JF λh=>Jd3 R U191 R Z29 (Jb3 R I29 (f4.ld 4 R R) (Jn 1 R (Ob h λx17 hx17 h=>Jc3 R f5 hx17 U29 Z2 (Jb3 R I2 (f5.gInt hx17) (Jn 3 R ?_)))))
 cases h
 exact Jv1 _ tv ⟨R,_,Jj3⟩ (KM R)
 refine JT λh=>Jn 1 R (Jd1 R R R R (Jn 2 R (Jd1 R R R R (Jn 3 R ?_))))
 cases h
 exact Jv1 _ tv ⟨R,_,Jj3⟩ (KM R)
 rintro _ w8 _ ⟨rfl,K9,S10⟩
 have h:=hK6
 refine Jb 1 R (Ju (Ja2 (l:=[.tmp 6]) V251 (Jp2 R R) R ?_))
 cases h
 exact⟨K9,R,(hE.stp (S3.tr S10) R R)⟩
theorem mW {w:World}{κ:Col}{a0 u0}{p0:(List Bool)}{a1 u1}{p1:(List Bool)}(g0:Rd Rp.bool κ w 0 a0 u0 p0) (g1:Rd Rp.bool κ w 0 a1 u1 p1){r:(List Bool)}(h:jM p0 p1=some r):Ret Tryz.prog 241 [.slice a0 p0.length u0,.slice a1 p1.length u1] w (λv w'=>∃(κ':Col) (ra0:Option Addr) (ru0:Nat),v= .slice ra0 r.length ru0/\Ent κ w κ' w'/\Oc Ep.bool 4 κ' w' 2 ra0 ru0 r):=by
 unfold jM at h
 refine Ret.enter F241 R N241 R ?_
 dsimp only[envOf]
 have hE:=Ent.refl κ w
 refine Je3 R (Jg3 [2,2,1,2] 1 R (Jf R (Je2 U193 R R) (Ob h λx9 hx9 h=>Jl1 (κ:=κ) (E:=Ep.bool) (z:=(false:Bool)) 2 R R R R R R R Y193 Tryzinfo4 R R R R R (λ_ _ _=>R) (Ju2 hx9) λa9 u9 w1 K2 S3 f4=>⟨tv,Jb 1 R (Jq (Je3 R ?_))⟩)))
 have hN5:(p0.length:Int)<=9223372036854775807:=g0.len_le
 refine Ob h λq2 hq7 hK6=>?_
 clear h
 refine Jx1 (λL w'=>∃κ',∃s3:(List Bool),L=[(5,.slice a9 x9.length u9)]/\Stp [2] K2 w1 κ' w'/\Oc Ep.bool 4 κ' w' 2 a9 u9 s3/\x9.length=s3.length/\q2=it s3) ?_ ?_
 refine Jv (Jy1 (λk L w'=>∃κ' v6,∃s1:(List Bool),L=[(0,.slice a0 p0.length u0),(1,.slice a1 p1.length u1),(5,.slice a9 x9.length u9),(6,vi v6)]/\Stp [2] K2 w1 κ' w'/\Oc Ep.bool 4 κ' w' 2 a9 u9 s1/\x9.length=s1.length/\0<=v6/\t5 ((p0.length:Int)-v6)=k/\cntM (g9 p0 p1) k v6 s1=some q2) ⟨_,_,⟨K2,0,(x9:(List Bool)),R,Jj3,f4,R,(by decide),(by simp),hq7⟩,(KM R)⟩ ?_)
 rintro k _ w13 ⟨K14,v6,s1,rfl,S15,f16,hn17,hj5,hJ5,h⟩
 rcases k with _ | k
 have hk18:=h;obtain⟨o5,h⟩:=bO (it (sh s1):(List Bool)⊕(((List Bool))⊕((List Bool))))
 have hc5:decide (v6<(p0.length:Int))=false:=Jo2 (by omega)
 refine Jq (Jg3 [2,2,2,2] 2 R (Jf R (Je2 U193 R R) (Jb 1 R (Jw2 R hc5 (Jc1 (Jt (Jt ?_)))))))
 cases h
 have h:=hk18
 refine Jb1 ?_
 cases h
 exact Jw1 _ ⟨K14,(s1:(List Bool)),R,S15.wk R,f16,hn17,R⟩ (KM R)
 obtain⟨o5,h,hk18⟩:=BI h;unfold g9 at h
 have hc5:decide (v6<(p0.length:Int))=true:=Jn2 (by omega)
 refine Jq (Jg3 [2,2,2,2] 2 R (Jf R (Je2 U193 R R) (Jb 1 R (Jv2 R hc5 (Js (Jp (Jq (Jv (Jh3 [2,2,2,2,2,1,2,2,2,2,1,2,2,2,1] 4 R (Ob h λx20 hx20 h=>Jc3 R g0 hx20 U193 Z4 (Jb3 R I4 ((g0.stp (S3.tr S15) R R).gBool hx20) (Jn 1 R (Ob h λp28 h hK20=>Ju1 [(7,2),(8,2),(9,2),(10,1),(11,2),(12,2)] [(13,2),(14,1)] (λL w'=>L=[(0,.slice a0 p0.length u0),(1,.slice a1 p1.length u1),(5,.slice a9 x9.length u9),(6,vi v6),(16,.slice a9 x9.length u9),(17,vi v6),(28,.bool p28)]/\∃κ',Stp [] K14 w13 κ' w') tv ?_ ?_)))))))))))))
 revert h
 cases ht21:x20
 refine JF λh=>Jn 3 R (Jd1 R R R R (Jn 2 R ?_))
 cases h
 exact Jv1 _ tv ⟨R,_,Jj3⟩ (KM R)
 refine JT λh=>Jn 2 R (Ob h λx25 hx25 h=>Jc3 R g1 hx25 U193 Z4 (Jb3 R I4 ((g1.stp (S3.tr S15) R R).gBool hx25) (Jn 2 R ?_)))
 cases h
 exact Jv1 _ tv ⟨R,_,Jj3⟩ (KM R)
 rintro _ w23 _ ⟨rfl,K24,S25⟩
 have h:=hK20
 refine Ob h λx29 hx29 h=>Jf R (Jf2 f16.rdc hx29 U193 Z4 R R hn17 R) (Ob h λy203 hy203 h=>Jk1 (κ:=K24) (E:=Ep.bool) 2 [] R R R R R R R R Z4 R R R R (f16.stp S25 R R) hy203 λw27 K28 S29 f30=>⟨tv,?_⟩)
 have hn31:x9.length=y203.length:=hn17.trans (Jt2 hy203).2.2.2.symm
 refine Jo (Jz (Jp (Jf3 R ?_)))
 have hw5:hV .i64 (v6+1)=v6+1:=wr1 hj5 (Jm2 hc5) hN5
 rw[hw5]
 have hc5:=Jm2 hc5
 cases h
 exact Jz1 λa ha=>⟨k,_,Ja3 _,⟨K28,v6+1,(y203:(List Bool)),R,(S15.tr (S25.tr S29)).wk R,f30,hn31,by omega,by omega,hk18⟩,(ha.mm R)⟩
 rintro _ w8 ⟨K9,s3,rfl,S10,f11,hn12,rfl⟩
 have h:=hK6
 dsimp only[aft]at h
 refine Jp (Je3 R (Ju (Ja2 (l:=[.tmp 4]) V241 (Jp2 R R) R ?_)))
 cases h
 exact⟨K9,a9,u9,(by simp only[hn12]),(hE.stp (S3.tr S10) R R),f11⟩
theorem lK {w:World}{κ:Col}{a0 u0}{p0:(List Int)}{p1:Int}(g0:Rd (Rp.int .i64) κ w 0 a0 u0 p0){r:(List Bool)}(h:eH p0 p1=some r):Ret Tryz.prog 176 [.slice a0 p0.length u0,vi p1] w (λv w'=>∃(κ':Col) (ra0:Option Addr) (ru0:Nat),v= .slice ra0 r.length ru0/\Ent κ w κ' w'/\Oc Ep.bool 4 κ' w' 2 ra0 ru0 r):=by
 unfold eH at h
 refine Ret.enter F176 R N176 R ?_
 dsimp only[envOf]
 have hE:=Ent.refl κ w
 refine Je3 R (Jg3 [2,2,1,2] 1 R (Jf R (Je2 U29 R R) (Ob h λx9 hx9 h=>Jl1 (κ:=κ) (E:=Ep.bool) (z:=(false:Bool)) 2 R R R R R R R Y193 Tryzinfo4 R R R R R (λ_ _ _=>R) (Ju2 hx9) λa9 u9 w1 K2 S3 f4=>⟨tv,Jb 1 R (Jq (Je3 R ?_))⟩)))
 have hN5:(p0.length:Int)<=9223372036854775807:=g0.len_le
 refine Ob h λq2 hq7 hK6=>?_
 clear h
 refine Jx1 (λL w'=>∃κ',∃s3:(List Bool),L=[(5,.slice a9 x9.length u9)]/\Stp [2] K2 w1 κ' w'/\Oc Ep.bool 4 κ' w' 2 a9 u9 s3/\x9.length=s3.length/\q2=it s3) ?_ ?_
 refine Jv (Jy1 (λk L w'=>∃κ' v6,∃s1:(List Bool),L=[(0,.slice a0 p0.length u0),(1,vi p1),(5,.slice a9 x9.length u9),(6,vi v6)]/\Stp [2] K2 w1 κ' w'/\Oc Ep.bool 4 κ' w' 2 a9 u9 s1/\x9.length=s1.length/\0<=v6/\t5 ((p0.length:Int)-v6)=k/\cntM (fB p0 p1) k v6 s1=some q2) ⟨_,_,⟨K2,0,(x9:(List Bool)),R,Jj3,f4,R,(by decide),(by simp),hq7⟩,(KM R)⟩ ?_)
 rintro k _ w13 ⟨K14,v6,s1,rfl,S15,f16,hn17,hj5,hJ5,h⟩
 rcases k with _ | k
 have hk18:=h;obtain⟨o5,h⟩:=bO (it (sh s1):(List Bool)⊕(((List Bool))⊕((List Bool))))
 have hc5:decide (v6<(p0.length:Int))=false:=Jo2 (by omega)
 refine Jq (Jg3 [2,2,2,2] 2 R (Jf R (Je2 U29 R R) (Jb 1 R (Jw2 R hc5 (Jc1 (Jt (Jt ?_)))))))
 cases h
 have h:=hk18
 refine Jb1 ?_
 cases h
 exact Jw1 _ ⟨K14,(s1:(List Bool)),R,S15.wk R,f16,hn17,R⟩ (KM R)
 obtain⟨o5,h,hk18⟩:=BI h;unfold fB at h
 have hc5:decide (v6<(p0.length:Int))=true:=Jn2 (by omega)
 refine Jq (Jg3 [2,2,2,2] 2 R (Jf R (Je2 U29 R R) (Jb 1 R (Jv2 R hc5 (Js (Jp (Jq (Jv (Jh3 [2,2,2,2,2,1,2,2,2,1] 4 R (Ob h λx20 hx20 h=>Jc3 R g0 hx20 U29 Z2 (Jb3 R I2 ((g0.stp (S3.tr S15) R R).gInt hx20) (Jn 2 R (Ob h λx24 hx24 h=>Jf R (Jf2 f16.rdc hx24 U193 Z4 R R hn17 R) (Ob h λy222 hy222 h=>Jk1 (κ:=K14) (E:=Ep.bool) 2 [] R R R R R R R R Z4 R R R R f16 hy222 λw20 K21 S22 f23=>⟨tv,?_⟩))))))))))))))
 have hn24:x9.length=y222.length:=hn17.trans (Jt2 hy222).2.2.2.symm
 refine Jo (Jz (Jp (Jf3 R ?_)))
 have hw5:hV .i64 (v6+1)=v6+1:=wr1 hj5 (Jm2 hc5) hN5
 rw[hw5]
 have hc5:=Jm2 hc5
 cases h
 exact Jz1 λa ha=>⟨k,_,Ja3 _,⟨K21,v6+1,(y222:(List Bool)),R,(S15.tr S22).wk R,f23,hn24,by omega,by omega,hk18⟩,(ha.mm R)⟩
 rintro _ w8 ⟨K9,s3,rfl,S10,f11,hn12,rfl⟩
 have h:=hK6
 dsimp only[aft]at h
 refine Jp (Je3 R (Ju (Ja2 (l:=[.tmp 4]) V176 (Jp2 R R) R ?_)))
 cases h
 exact⟨K9,a9,u9,(by simp only[hn12]),(hE.stp (S3.tr S10) R R),f11⟩
theorem gj {w:World}{κ:Col}{p0:Sig}  {r:Int}(h:dN p0=some r):Ret Tryz.prog 130 [.agg #[vi p0.In,vi p0.Out]] w (λv w'=>∃(κ':Col),v=vi r/\Ent κ w κ' w'):=by
 unfold dN at h
 refine Ret.enter F130 R N130 R ?_
 dsimp only[envOf]
 have hE:=Ent.refl κ w
 refine Je [1,2] R (Jf1 (κ:=κ) 2 R R R R R R R λb1 w1 K2 S3 f4=>⟨tv,Jb 1 R (Je [2,1,2,1,2,2,2] R (Jd3 R U25 R Z2 (Jb3 R I2 (f4.ld 0 R R) (Jd3 R U25 R Z2 (Jb3 R I2 (f4.ld 1 R R) (Jn 1 R (Ob h λ_z8 hz8 h=>Jf R (pS R R R (sA hz8)) (Jb 1 R (Ju (Ja2 (l:=[.tmp 2]) V130 (Jp2 R R) R ?_))))))))))⟩)
 cases h
 exact⟨K2,R,(hE.stp S3 R R)⟩
theorem n7 {w:World}{κ:Col}{p0:Int}  {r:Bool}(h:jA p0=some r):Ret Tryz.prog 218 [vi p0] w (λv w'=>∃(κ':Col),v= .bool r/\Ent κ w κ' w'):=by
 unfold jA at h
 refine Ret.enter F218 R N218 R ?_
 dsimp only[envOf]
 have hE:=Ent.refl κ w
 refine Je3 R (Jg3 [2,2,2,2,2,2,2,2,2,2,2] 3 R (Ob h λp8 h hK1=>Ju1 [(3,2),(4,2),(5,2)] [(6,2),(7,2),(8,2),(9,2),(10,2)] (λL w'=>L=[(0,vi p0),(2,.bool false),(8,.bool p8)]/\∃κ',Stp [] κ w κ' w') tv ?_ ?_))
 revert h
 cases ht2:(p0==2)
 refine JF λh=>Jn 3 R ?_
 cases h
 exact Jv1 _ tv ⟨R,_,Jj3⟩ (KM R)
 refine JT λh=>Jn 3 R ?_
 cases h
 exact Jv1 _ tv ⟨R,_,Jj3⟩ (KM R)
 rintro _ w3 _ ⟨rfl,K4,S5⟩
 have h:=hK1
 refine Jn 1 R (Ob h λp12 h hK6=>Ju1 [(7,2),(8,2),(9,2)] [(10,2)] (λL w'=>L=[(2,.bool false),(12,.bool p12)]/\∃κ',Stp [] K4 w3 κ' w') tv ?_ ?_)
 revert h
 cases ht7:p8
 refine JF λh=>Jn 3 R ?_
 cases h
 exact Jv1 _ tv ⟨R,_,Jj3⟩ (KM R)
 refine JT λh=>Jn 3 R ?_
 cases h
 exact Jv1 _ tv ⟨R,_,Jj3⟩ (KM R)
 rintro _ w8 _ ⟨rfl,K9,S10⟩
 have h:=hK6
 refine Jb 1 R (Ju (Ja2 (l:=[.tmp 2]) V218 (Jp2 R R) R ?_))
 cases h
 exact⟨K9,R,(hE.stp (S5.tr S10) R R)⟩
theorem nr {w:World}{κ:Col}{al am aj ak ai ah}{p0:Parity}{p1:Int}{p2:Int}{a3 u3}{p3:(List Int)}(g0_0_0:Oc E6 2 κ w 2 al am p0.Arena.Owner) (g0_0_1:Oc (Ep.fz (Rp.sl (Rp.int .i64))) 29 κ w 3 aj ak p0.Arena.Next) (g0_1:Oc E6 2 κ w 4 ai ah p0.Prio) (g3:Rd (Rp.int .i64) κ w 0 a3 u3 p3){r:Parity}(h:iD p0 p1 p2 p3=some r):Ret Tryz.prog 186 [.agg #[.slice al p0.Arena.Owner.length am,.slice aj p0.Arena.Next.length ak,.slice ai p0.Prio.length ah],vi p1,vi p2,.slice a3 p3.length u3] w (λv w'=>∃(κ':Col) (ra0:Option Addr) (ru0:Nat) (ra1:Option Addr) (ru1:Nat) (ra2:Option Addr) (ru2:Nat),v= .agg #[.slice ra0 r.Arena.Owner.length ru0,.slice ra1 r.Arena.Next.length ru1,.slice ra2 r.Prio.length ru2]/\Ent κ w κ' w'/\Oc E6 2 κ' w' 5 ra0 ru0 r.Arena.Owner/\Oc (Ep.fz (Rp.sl (Rp.int .i64))) 29 κ' w' 6 ra1 ru1 r.Arena.Next/\Oc E6 2 κ' w' 7 ra2 ru2 r.Prio):=by
 unfold iD at h
 refine Ret.enter F186 R N186 R ?_
 dsimp only[envOf]
 have hE:=Ent.refl κ w
 refine Je [1,1] R (Jf1 (κ:=κ) 5 R R R R R R R λb4 w1 K2 S3 f4=>⟨tv,Jg1 (κ:=K2) 6 R R R R R X108 R λb8 w5 K6 S7 f8=>⟨tv,Jd (Je [2,2,1,2,1,1,2,2,1] R (Jd3 R U108 R Z104 (Jd3 R U104 R Z29 ?_)))⟩⟩)
 have f9:=f4.stp S7 R R
 refine Jb3 R I29 (f9.ld 0 R R) (Jn 1 R (Jn1 (κ:=K6) (E:=E6) 7 [] (parts:=[(0,.tmp 12)]) (cells:=[vi p1]) (xs:=([p1]:List Int)) R R R R R R Y29 Tryzinfo2 R R R R R R R R R R ⟨[vi p1],[],Zl K6 w5 [],Zl K6 w5 [],R,Zl.sp (l1:=[]) (l2:=[]) R,Zl.sr (l1:=[]) (l2:=[]),R,R⟩ λap ao w10 K11 S12 f13=>⟨tv,Ob h λx14 hx14 h=>Jm1 (κ:=K11) (E:=E6) 2 [] R R R R R R R R R Y29 Tryzinfo2 R R R R (g0_0_0.stp (S3.tr (S7.tr S12)) R R) (Sl.srcP (bT _) f13.rdc) bJ hx14 R λaa ab w15 K16 S17 f18=>⟨tv,Jd3 R U108 R Z104 (Jd3 R U104 R Z29 (Ji1 (κ:=K16) 5 (off:=0) (vc:=[.slice aa x14.length ab]) (cs':=[.slice aa x14.length ab,.slice aj p0.Arena.Next.length ak,.slice ai p0.Prio.length ah]) R R R R R R R Z29 R R (f9.stp (S12.tr S17) R R) R R λw20 S21 f22=>⟨tv,Jd (Je [2,2,1,2,1,1,2,2,1] R (Jd3 R U108 R Z104 (Jd3 R U104 R Z26 (Jb3 R I26 (f22.ld 1 R R) (Jn 1 R (Jn1 (κ:=K16) (E:=(Ep.fz (Rp.sl (Rp.int .i64)))) 8 [] (parts:=[(0,.tmp 20)]) (cells:=[.slice a3 p3.length u3]) (xs:=([p3]:List (List Int))) R R R R R R Y26 Tryzinfo29 R R R R R R R R R R ⟨[.slice a3 p3.length u3],[],Zl K16 w20 [],Zl K16 w20 [],R,Zl.sp (l1:=[]) (l2:=[]) R,Zl.sr (l1:=[]) (l2:=[]),⟨_,_,R,(Sl.z1 (g3.stp (S3.tr (S7.tr (S12.tr (S17.tr S21)))) R R))⟩,R⟩ λar au w24 K25 S26 f27=>⟨tv,Ob h λx22 hx22 h=>Jm1 (κ:=K25) (E:=(Ep.fz (Rp.sl (Rp.int .i64)))) 3 [8] R R R R R R R R R Y26 Tryzinfo29 R R R R (g0_0_1.stp (S3.tr (S7.tr (S12.tr (S17.tr (S21.tr S26))))) R R) f27.src (cZ R) hx22 R λac ad w29 K30 S31 f32=>⟨tv,Jd3 R U108 R Z104 (Jd3 R U104 R Z26 (Ji1 (κ:=K30) 5 (off:=1) (vc:=[.slice ac x22.length ad]) (cs':=[.slice aa x14.length ab,.slice ac x22.length ad,.slice ai p0.Prio.length ah]) R R R R R R R Z26 R R (f22.stp (S26.tr S31) R R) R R λw34 S35 f36=>⟨tv,Jd (Je [2,1,2,1,1,2,1] R (Jd3 R U108 R Z29 (Jb3 R I29 (f36.ld 2 R R) (Jn 1 R (Jn1 (κ:=K30) (E:=E6) 9 [] (parts:=[(0,.tmp 27)]) (cells:=[vi p2]) (xs:=([p2]:List Int)) R R R R R R Y29 Tryzinfo2 R R R R R R R R R R ⟨[vi p2],[],Zl K30 w34 [],Zl K30 w34 [],R,Zl.sp (l1:=[]) (l2:=[]) R,Zl.sr (l1:=[]) (l2:=[]),R,R⟩ λan aq w37 K38 S39 f40=>⟨tv,Ob h λx29 hx29 h=>Jm1 (κ:=K38) (E:=E6) 4 [] R R R R R R R R R Y29 Tryzinfo2 R R R R (g0_1.stp (S3.tr (S7.tr (S12.tr (S17.tr (S21.tr (S26.tr (S31.tr (S35.tr S39)))))))) R R) (Sl.srcP (bT _) f40.rdc) bJ hx29 R λae af w42 K43 S44 f45=>⟨tv,Jd3 R U108 R Z29 ?_⟩⟩)))))⟩))⟩⟩))))))⟩))⟩⟩))
 refine Ji1 (κ:=K43) 5 (off:=2) (vc:=[.slice ae x29.length af]) (cs':=[.slice aa x14.length ab,.slice ac x22.length ad,.slice ae x29.length af]) R R R R R R R Z29 R R (f36.stp (S39.tr S44) R R) R R λw47 S48 f49=>⟨tv,Jd (Je [1,1] R (Jl tv R R R R (Jd2 (cs:=[.slice aa x14.length ab,.slice ac x22.length ad,.slice ae x29.length af]) I108 Z108 R R R (haE f49.cells)) (Jj1 (κ:=K43) 6 (vc:=[.slice aa x14.length ab,.slice ac x22.length ad,.slice ae x29.length af]) R R R R R R R Z108 R R (f8.stp (S12.tr (S17.tr (S21.tr (S26.tr (S31.tr (S35.tr (S39.tr (S44.tr S48)))))))) R R) R λw51 S52 f53=>⟨tv,Jd (Ju (Ja2 (l:=[.cell 8 108]) V186 (bL R f53 I108 Z108 R R) R ?_))⟩)))⟩
 cases h
 exact⟨(λb=>ren [(2,5),(3,6),(4,7)] (K43 b)),aa,ab,ac,ad,ae,af,R,((hE.stp (S3.tr (S7.tr (S12.tr (S17.tr (S21.tr (S26.tr (S31.tr (S35.tr (S39.tr (S44.tr (S48.tr S52))))))))))) R R).map (ren [(2,5),(3,6),(4,7)]) R R),((f18.stp (S21.tr (S26.tr (S31.tr (S35.tr (S39.tr (S44.tr (S48.tr S52))))))) R R).map (ren [(2,5),(3,6),(4,7)]) R R),((f32.stp (S35.tr (S39.tr (S44.tr (S48.tr S52)))) R R).map (ren [(2,5),(3,6),(4,7)]) R R),((f45.stp (S48.tr S52) R R).map (ren [(2,5),(3,6),(4,7)]) R R)⟩
theorem rV {w:World}{κ:Col}{p0:Int}  {r:(List Int)}(h:nF p0=some r):Ret Tryz.prog 192 [vi p0] w (λv w'=>∃(κ':Col) (ra0:Option Addr) (ru0:Nat),v= .slice ra0 r.length ru0/\Ent κ w κ' w'/\Oc E6 2 κ' w' 2 ra0 ru0 r):=by
 unfold nF at h
 refine Ret.enter F192 R N192 R ?_
 dsimp only[envOf]
 have hE:=Ent.refl κ w
 refine Je3 R (Jq (Jg3 [2,2,2,2,2,2] 3 R (Ob h λp10 h hK1=>Ju1 [(3,2),(4,2),(5,2)] [] (λL w'=>L=[(0,vi p0),(10,.bool p10)]/\∃κ',Stp [] κ w κ' w') tv ?_ ?_)))
 revert h
 cases ht2:decide (p0<0)
 refine JF λh=>Jn 3 R ?_
 cases h
 exact Jv1 _ tv ⟨R,_,Jj3⟩ (KM R)
 refine JT λh=>Jn 3 R ?_
 cases h
 exact Jv1 _ tv ⟨R,_,Jj3⟩ (KM R)
 rintro _ w3 _ ⟨rfl,K4,S5⟩
 have h:=hK1
 refine Jd ?_
 revert h
 cases ht6:p10
 refine JF λh=>Jy R (Js (Jp (Je [1,2] R (Jo1 (κ:=K4) (E:=E6) 2 R R R R R Y29 Tryzinfo2 R λah ae w8 K9 S10 f11=>⟨tv,Jb 1 R (Jq (Je3 R (Ob h λ_ hr12 h=>?_)))⟩))))
 have hN12:=iz hr12
 refine Ob h λq2 hq14 hK13=>?_
 clear h
 refine Jx1 (λL w'=>∃κ',∃s3:(List Int),∃aa ad,L=[(3,.slice aa s3.length ad)]/\Stp [2] K9 w8 κ' w'/\Oc E6 2 κ' w' 2 aa ad s3/\q2=it s3) ?_ ?_
 refine Jv (Jy1 (λk L w'=>∃κ' v4,∃s1:(List Int),∃ab ac,L=[(0,vi p0),(3,.slice ab s1.length ac),(4,vi v4)]/\Stp [2] K9 w8 κ' w'/\Oc E6 2 κ' w' 2 ab ac s1/\0<=v4/\t5 (p0-v4)=k/\cntM jq k v4 s1=some q2) ⟨_,_,⟨K9,0,(([]:List Int):(List Int)),ah,ae,R,Jj3,f11,(by decide),(by simp),hq14⟩,(KM R)⟩ ?_)
 rintro k _ w19 ⟨K20,v4,s1,ab,ac,rfl,S21,f22,hj12,hJ12,h⟩
 rcases k with _ | k
 have hk23:=h;obtain⟨o12,h⟩:=bO (it (sh s1):(List Int)⊕(((List Int))⊕((List Int))))
 have hc12:decide (v4<p0)=false:=Jo2 (by omega)
 refine Jq (Je3 R (Jw2 R hc12 (Jc1 (Jt (Jt ?_)))))
 cases h
 have h:=hk23
 refine Jb1 ?_
 cases h
 exact Jw1 _ ⟨K20,(s1:(List Int)),ab,ac,R,S21.wk R,f22,R⟩ (KM R)
 obtain⟨o12,h,hk23⟩:=BI h;unfold jq at h
 have hc12:decide (v4<p0)=true:=Jn2 (by omega)
 refine Jq (Je3 R (Jv2 R hc12 (Js (Jp (Jq (Jv (Jh3 [2,2,1,1,2] 2 R (Jn1 (κ:=K20) (E:=E6) 3 [] (parts:=[(0,.tmp 18)]) (cells:=[vi v4]) (xs:=([v4]:List Int)) R R R R R R Y29 Tryzinfo2 R R R R R R R R R R ⟨[vi v4],[],Zl K20 w19 [],Zl K20 w19 [],R,Zl.sp (l1:=[]) (l2:=[]) R,Zl.sr (l1:=[]) (l2:=[]),R,R⟩ λak aj w24 K25 S26 f27=>⟨tv,Ob h λx20 hx20 h=>Jm1 (κ:=K25) (E:=E6) 2 [] R R R R R R R R R Y29 Tryzinfo2 R R R R (f22.stp S26 R R) (Sl.srcP (bT _) f27.rdc) bJ hx20 R λaf ai w29 K30 S31 f32=>⟨tv,Jc 1 R (Jz (Jp (Jf3 R ?_)))⟩⟩))))))))
 have hw12:hV .i64 (v4+1)=v4+1:=wr1 hj12 (Jm2 hc12) hN12
 rw[hw12]
 have hc12:=Jm2 hc12
 cases h
 exact Jz1 λa ha=>⟨k,_,Ja3 _,⟨K30,v4+1,(x20:(List Int)),af,ai,R,(S21.tr (S26.tr S31)).wk R,f32,by omega,by omega,hk23⟩,(ha.mm R)⟩
 rintro _ w15 ⟨K16,s3,aa,ad,rfl,S17,f18,rfl⟩
 have h:=hK13
 dsimp only[aft]at h
 refine Jp (Je3 R (Ju (Ja2 (l:=[.tmp 2]) V192 (Jp2 R R) R ?_)))
 cases h
 exact⟨K16,aa,ad,R,(hE.stp (S5.tr (S10.tr S17)) R R),f18⟩
 refine JT λh=>Jx R (Je3 R (Ju (Jw (Ja2 (l:=[.tmp 2]) V192 (Jp2 R R) R ?_))))
 cases h
 exact⟨K4,none,0,R,(hE.stp S5 R R),Ow.nil⟩
theorem qm {w:World}{κ:Col}{ae af ad ac}{p0:Arena}(g0_0:Rd (Rp.int .i64) κ w 0 ae af p0.Owner) (g0_1:Rd (Rp.sl (Rp.int .i64)) κ w 0 ad ac p0.Next){r:(List (List Int))}(h:jL p0=some r):Ret Tryz.prog 187 [.agg #[.slice ae p0.Owner.length af,.slice ad p0.Next.length ac]] w (λv w'=>∃(κ':Col) (ra0:Option Addr) (ru0:Nat),v= .slice ra0 r.length ru0/\Ent κ w κ' w'/\Oc (Ep.own E6 2) 29 κ' w' 2 ra0 ru0 r):=by
 unfold jL at h
 refine Ret.enter F187 R N187 R ?_
 dsimp only[envOf]
 have hE:=Ent.refl κ w
 refine Je [1,2] R (Jf1 (κ:=κ) 2 R R R R R R R λb1 w1 K2 S3 f4=>⟨tv,Jb 1 R (Je [2,1,2,1,2] R (Jd3 R U104 R Z29 (Jb3 R I29 (f4.ld 0 R R) (Jf R (Je2 U29 R R) (Ob h λx11 hx11 h=>Jl1 (κ:=K2) (E:=(Ep.own E6 2)) (z:=(([]:List Int):(List Int))) 3 R R R R R R R Y26 Tryzinfo29 R R R R R (λ_ _ _=>⟨none,0,R,Ow.nil⟩) (Ju2 hx11) λab aa w5 K6 S7 f8=>⟨tv,Jb 1 R (Jq (Je [2,1,2,2] R (Jd3 R U104 R Z26 (Jb3 R I26 ((f4.stp S7 R R).ld 1 R R) (Jf R (Je2 U26 R R) (Jb 1 R ?_))))))⟩)))))⟩)
 have hN10:(p0.Next.length:Int)<=9223372036854775807:=g0_1.len_le
 refine Ob h λq2 hq12 hK11=>?_
 clear h
 refine Jx1 (λL w'=>∃κ',∃s3:(List (List Int)),L=[(3,.slice ab x11.length aa)]/\Stp [3,5] K6 w5 κ' w'/\Oc (Ep.own E6 2) 29 κ' w' 3 ab aa s3/\x11.length=s3.length/\q2=it s3) ?_ ?_
 refine Jv (Jy1 (λk L w'=>∃κ' v15,∃s1:(List (List Int)),L=[(3,.slice ab x11.length aa),(13,.slice ad p0.Next.length ac),(14,vi (p0.Next.length:Int)),(15,vi v15)]/\Stp [3,5] K6 w5 κ' w'/\Oc (Ep.own E6 2) 29 κ' w' 3 ab aa s1/\x11.length=s1.length/\0<=v15/\t5 ((p0.Next.length:Int)-v15)=k/\cntM (gl p0) k v15 s1=some q2) ⟨_,_,⟨K6,0,(x11:(List (List Int))),R,Jj3,f8,R,(by decide),(by simp),hq12⟩,(KM R)⟩ ?_)
 rintro k _ w18 ⟨K19,v15,s1,rfl,S20,f21,hn22,hj10,hJ10,h⟩
 rcases k with _ | k
 have hk23:=h;obtain⟨o10,h⟩:=bO (it (sh s1):(List (List Int))⊕(((List (List Int)))⊕((List (List Int)))))
 have hc10:decide (v15<(p0.Next.length:Int))=false:=Jo2 (by omega)
 refine Je3 R (Jq (Jw2 R hc10 (Jc1 (Jt (Jt ?_)))))
 cases h
 have h:=hk23
 refine Jb1 ?_
 cases h
 exact Jw1 _ ⟨K19,(s1:(List (List Int))),R,S20.wk R,f21,hn22,R⟩ (KM R)
 obtain⟨o10,h,hk23⟩:=BI h;unfold gl at h
 have hc10:decide (v15<(p0.Next.length:Int))=true:=Jn2 (by omega)
 refine Je3 R (Jq (Jv2 R hc10 (Js (Jp (Jq (Jv (Jg3 [2,2,1,2,2] 1 R (Ob h λx18 hx18 h=>Jc3 R g0_1 hx18 U26 Z29 ?_))))))))
 obtain⟨ax18,ux18,f25,hl26⟩:=(g0_1.stp (S3.tr (S7.tr S20)) R R).gSl hx18
 refine Jb3 R I29 hl26 (Jb 2 R (Jg3 [2,2,2] 1 R (Jf R (Je2 U29 R R) (Jb 1 R ?_))))
 have hN27:(x18.length:Int)<=9223372036854775807:=f25.len_le
 refine Ob h λq5 hq29 hK28=>?_
 clear h
 refine Jx1 (λL w'=>∃κ',∃s6:(List (List Int)),L=[(3,.slice ab x11.length aa),(13,.slice ad p0.Next.length ac),(14,vi (p0.Next.length:Int)),(15,vi v15)]/\Stp [3,5] K19 w18 κ' w'/\Oc (Ep.own E6 2) 29 κ' w' 3 ab aa s6/\x11.length=s6.length/\q5=it s6) ?_ ?_
 refine Jv (Jy1 (λk L w'=>∃κ' v22,∃s4:(List (List Int)),L=[(3,.slice ab x11.length aa),(4,vi v15),(13,.slice ad p0.Next.length ac),(14,vi (p0.Next.length:Int)),(15,vi v15),(20,.slice ax18 x18.length ux18),(21,vi (x18.length:Int)),(22,vi v22)]/\Stp [3,5] K19 w18 κ' w'/\Oc (Ep.own E6 2) 29 κ' w' 3 ab aa s4/\x11.length=s4.length/\0<=v22/\t5 ((x18.length:Int)-v22)=k/\cntM (gg v15 x18) k v22 s4=some q5) ⟨_,_,⟨K19,0,(s1:(List (List Int))),R,Jj3,f21,hn22,(by decide),(by simp),hq29⟩,(KM R)⟩ ?_)
 rintro k _ w35 ⟨K36,v22,s4,rfl,S37,f38,hn39,hj27,hJ27,h⟩
 rcases k with _ | k
 have hk40:=h;obtain⟨o27,h⟩:=bO (it (sh s4):(List (List Int))⊕(((List (List Int)))⊕((List (List Int)))))
 have hc27:decide (v22<(x18.length:Int))=false:=Jo2 (by omega)
 refine Je3 R (Jq (Jw2 R hc27 (Jc1 (Jt (Jt ?_)))))
 cases h
 have h:=hk40
 refine Jb1 ?_
 cases h
 exact Jw1 _ ⟨K36,(s4:(List (List Int))),R,S37.wk R,f38,hn39,R⟩ (KM R)
 obtain⟨o27,h,hk40⟩:=BI h;unfold gg at h
 have hc27:decide (v22<(x18.length:Int))=true:=Jn2 (by omega)
 refine Je3 R (Jq (Jv2 R hc27 (Js (Jp (Jq (Jv (Je [2,1,2] R (Ob h λx24 hx24 h=>Jc3 R f25 hx24 U29 Z2 (Jb3 R I2 ((f25.stp S37 R R).gInt hx24) (Jb 1 R (Jh3 [2,2,2,2,2,1,2,1,1,2,1] 4 R (Ob h λx30 hx30 h=>Jf R (Jf2 f38.rdc hx30 U26 Z29 R R hn39 R) ?_))))))))))))
 obtain⟨ax30,ux30,f42,hl43⟩:=f38.rdc.gSl hx30
 refine Jb3 R I29 hl43 (Jn 1 R (Jn1 (κ:=K36) (E:=E6) 4 [] (parts:=[(0,.tmp 32)]) (cells:=[vi v15]) (xs:=([v15]:List Int)) R R R R R R Y29 Tryzinfo2 R R R R R R R R R R ⟨[vi v15],[],Zl K36 w35 [],Zl K36 w35 [],R,Zl.sp (l1:=[]) (l2:=[]) R,Zl.sr (l1:=[]) (l2:=[]),R,R⟩ λah ai w44 K45 S46 f47=>⟨tv,?_⟩))
 have f48:=f38.stp S46 R R
 obtain⟨K49,S50,f51,f52⟩:=f48.borrow hx30 (hl43 _ (Stp.ag S46 R)) 5 R R
 refine Ob h λx34 hx34 h=>Jm1 (κ:=K49) (E:=E6) 5 [] R R R R R R R R R Y29 Tryzinfo2 R R R R f51 (Sl.srcP (bT _) (f47.stp S50 R R).rdc) bJ hx34 R λaj ak w54 K55 S56 f57=>⟨tv,Ob h λx35 hx35 h=>Jf R (Jf2 f48.rdc hx35 U26 Z29 R R hn39 R) (Ob h λy347 hy347 h=>WO.stH (κ:=K55) (E:=(Ep.own E6 2)) 3 [5] R R R R R R R R Z29 R ⟨_,_,R,f57⟩ R R (f52.stp S56 R R) hy347 λw59 K60 S61 f62=>⟨tv,?_⟩)⟩
 have hn63:x11.length=y347.length:=hn39.trans (Jt2 hy347).2.2.2.symm
 refine Jo (Jz (Jp (Jf3 R ?_)))
 have hw27:hV .i64 (v22+1)=v22+1:=wr1 hj27 (Jm2 hc27) hN27
 rw[hw27]
 have hc27:=Jm2 hc27
 cases h
 exact Jz1 λa ha=>⟨k,_,Ja3 _,⟨K60,v22+1,(y347:(List (List Int))),R,(S37.tr (S46.tr (S50.tr (S56.tr S61)))).wk R,f62,hn63,by omega,by omega,hk40⟩,(ha.mm R)⟩
 rintro _ w30 ⟨K31,s6,rfl,S32,f33,hn34,rfl⟩
 have h:=hK28
 dsimp only[aft]at h
 refine Jz (Jp (Jf3 R ?_))
 have hw10:hV .i64 (v15+1)=v15+1:=wr1 hj10 (Jm2 hc10) hN10
 rw[hw10]
 have hc10:=Jm2 hc10
 cases h
 exact Jz1 λa ha=>⟨k,_,Ja3 _,⟨K31,v15+1,(s6:(List (List Int))),R,(S20.tr S32).wk R,f33,hn34,by omega,by omega,hk23⟩,(ha.mm R)⟩
 rintro _ w13 ⟨K14,s3,rfl,S15,f16,hn17,rfl⟩
 have h:=hK11
 dsimp only[aft]at h
 refine Jp (Je3 R (Ju (Ja2 (l:=[.tmp 2]) V187 (Jp2 R R) R ?_)))
 cases h
 exact⟨(λb=>ren [(3,2)] (K14 b)),ab,aa,(by simp only[hn17]),((hE.stp (S3.tr (S7.tr S15)) R R).map (ren [(3,2)]) R R),(f16.map (ren [(3,2)]) R R)⟩
theorem rN {w:World}{κ:Col}{ab af ae ac ad aa}{p0:Parity}{a1 u1}{p1:(List Int)}(g0_0_0:Rd (Rp.int .i64) κ w 0 ab af p0.Arena.Owner) (g0_0_1:Rd (Rp.sl (Rp.int .i64)) κ w 0 ae ac p0.Arena.Next) (g0_1:Rd (Rp.int .i64) κ w 0 ad aa p0.Prio) (g1:Rd (Rp.int .i64) κ w 0 a1 u1 p1){r:Int}(h:mw p0 p1=some r):Ret Tryz.prog 232 [.agg #[.slice ab p0.Arena.Owner.length af,.slice ae p0.Arena.Next.length ac,.slice ad p0.Prio.length aa],.slice a1 p1.length u1] w (λv w'=>∃(κ':Col),v=vi r/\Ent κ w κ' w'):=by
 unfold mw at h
 refine Ret.enter F232 R N232 R ?_
 dsimp only[envOf]
 have hE:=Ent.refl κ w
 refine Je [1,2] R (Jf1 (κ:=κ) 2 R R R R R R R λb2 w1 K2 S3 f4=>⟨tv,Jb 1 R (Je3 R (Jq (Jg3 [2,2,2] 1 R (Jf R (Je2 U29 R R) (Jb 1 R ?_)))))⟩)
 have hN5:(p1.length:Int)<=9223372036854775807:=g1.len_le
 refine Ob h λq2 hq7 hK6=>?_
 clear h
 refine Jx1 (λL w'=>∃κ' s3,L=[(5,vi s3)]/\Stp [] K2 w1 κ' w'/\q2=it s3) ?_ ?_
 refine Jv (Jy1 (λk L w'=>∃κ' v10 s1,L=[(2,.pointer (some ⟨b2,0,none⟩)),(5,vi s1),(8,.slice a1 p1.length u1),(9,vi (p1.length:Int)),(10,vi v10)]/\Stp [] K2 w1 κ' w'/\0<=v10/\t5 ((p1.length:Int)-v10)=k/\cntM (i8 p0 p1) k v10 s1=some q2) ⟨_,_,⟨K2,0,((-1):Int),R,Jj3,(by decide),(by simp),hq7⟩,(KM R)⟩ ?_)
 rintro k _ w11 ⟨K12,v10,s1,rfl,S13,hj5,hJ5,h⟩
 rcases k with _ | k
 have hk14:=h;obtain⟨o5,h⟩:=bO (it (sh s1):Int⊕((Int)⊕(Int)))
 have hc5:decide (v10<(p1.length:Int))=false:=Jo2 (by omega)
 refine Je3 R (Jq (Jw2 R hc5 (Jc1 (Jt (Jt ?_)))))
 cases h
 have h:=hk14
 refine Jb1 ?_
 cases h
 exact Jw1 _ ⟨K12,(s1:Int),R,S13.wk R,R⟩ (KM R)
 obtain⟨o5,h,hk14⟩:=BI h;unfold i8 at h
 have hc5:decide (v10<(p1.length:Int))=true:=Jn2 (by omega)
 refine Je3 R (Jq (Jv2 R hc5 (Js (Jp (Jq (Jv (Je [2,1,2] R (Ob h λx12 hx12 h=>Jc3 R g1 hx12 U29 Z2 (Jb3 R I2 ((g1.stp (S3.tr S13) R R).gInt hx12) (Jb 1 R (Jh3 [2,2,1,2,2,1,2,2] 1 R (Jd3 R U108 R Z29 (Jb3 R I29 ((f4.stp S13 R R).ld 2 R R) (Jn 1 R (Ob h λx18 hx18 h=>Jc3 R g0_1 hx18 U29 Z2 (Jb3 R I2 ((g0_1.stp (S3.tr S13) R R).gInt hx18) (Jf R (p6 R R R) (Jc 1 R (Jz (Jp (Jf3 R ?_)))))))))))))))))))))
 have hw5:hV .i64 (v10+1)=v10+1:=wr1 hj5 (Jm2 hc5) hN5
 rw[hw5]
 have hc5:=Jm2 hc5
 cases h
 exact Jz1 λa ha=>⟨k,_,Ja3 _,⟨K12,v10+1,((if s1<x18 then x18 else s1):Int),R,S13.wk R,by omega,by omega,hk14⟩,(ha.mm R)⟩
 rintro _ w8 ⟨K9,s3,rfl,S10,rfl⟩
 have h:=hK6
 dsimp only[aft]at h
 refine Jp (Je3 R (Ju (Ja2 (l:=[.tmp 4]) V232 (Jp2 R R) R ?_)))
 cases h
 exact⟨K9,R,(hE.stp (S3.tr S10) R R)⟩
theorem qB {w:World}{κ:Col}{ab ad ac aa}{p0:Arena}(g0_0:Rd (Rp.int .i64) κ w 0 ab ad p0.Owner) (g0_1:Rd (Rp.sl (Rp.int .i64)) κ w 0 ac aa p0.Next){r:(List Int)}(h:kU p0=some r):Ret Tryz.prog 149 [.agg #[.slice ab p0.Owner.length ad,.slice ac p0.Next.length aa]] w (λv w'=>∃(κ':Col) (ra0:Option Addr) (ru0:Nat),v= .slice ra0 r.length ru0/\Ent κ w κ' w'/\Oc E6 2 κ' w' 2 ra0 ru0 r):=by
 unfold kU at h
 refine Ret.enter F149 R N149 R ?_
 dsimp only[envOf]
 have hE:=Ent.refl κ w
 refine Je [1,2] R (Jf1 (κ:=κ) 2 R R R R R R R λb1 w1 K2 S3 f4=>⟨tv,Jb 1 R (Je [2,1,2,1,2] R (Jd3 R U104 R Z29 (Jb3 R I29 (f4.ld 0 R R) (Jf R (Je2 U29 R R) (Ob h λx8 hx8 h=>Jl1 (κ:=K2) (E:=E6) (z:=(0:Int)) 3 R R R R R R R Y29 Tryzinfo2 R R R R R (λ_ _ _=>R) (Ju2 hx8) λa8 u8 w5 K6 S7 f8=>⟨tv,Jb 1 R (Jq (Jg3 [2,2,2] 1 R (Jf R (Je2 U29 R R) (Jb 1 R ?_))))⟩)))))⟩)
 have hN9:(x8.length:Int)<=9223372036854775807:=f8.len_le
 refine Ob h λq2 hq11 hK10=>?_
 clear h
 refine Jx1 (λL w'=>∃κ',∃s3:(List Int),L=[(3,.slice a8 x8.length u8)]/\Stp [3] K6 w5 κ' w'/\Oc E6 2 κ' w' 3 a8 u8 s3/\x8.length=s3.length/\q2=it s3) ?_ ?_
 refine Jv (Jy1 (λk L w'=>∃κ' v11,∃s1:(List Int),L=[(3,.slice a8 x8.length u8),(10,vi (x8.length:Int)),(11,vi v11)]/\Stp [3] K6 w5 κ' w'/\Oc E6 2 κ' w' 3 a8 u8 s1/\x8.length=s1.length/\0<=v11/\t5 ((x8.length:Int)-v11)=k/\cntM jB k v11 s1=some q2) ⟨_,_,⟨K6,0,(x8:(List Int)),R,Jj3,f8,R,(by decide),(by simp),hq11⟩,(KM R)⟩ ?_)
 rintro k _ w17 ⟨K18,v11,s1,rfl,S19,f20,hn21,hj9,hJ9,h⟩
 rcases k with _ | k
 have hk22:=h;obtain⟨o9,h⟩:=bO (it (sh s1):(List Int)⊕(((List Int))⊕((List Int))))
 have hc9:decide (v11<(x8.length:Int))=false:=Jo2 (by omega)
 refine Je3 R (Jq (Jw2 R hc9 (Jc1 (Jt (Jt ?_)))))
 cases h
 have h:=hk22
 refine Jb1 ?_
 cases h
 exact Jw1 _ ⟨K18,(s1:(List Int)),R,S19.wk R,f20,hn21,R⟩ (KM R)
 obtain⟨o9,h,hk22⟩:=BI h;unfold jB at h
 have hc9:decide (v11<(x8.length:Int))=true:=Jn2 (by omega)
 refine Je3 R (Jq (Jv2 R hc9 (Js (Jp (Jq (Jv (Je3 R (Jh3 [2,2,2,1] 2 R (Ob h λx16 hx16 h=>Jf R (Jf2 f20.rdc hx16 U29 Z2 R R hn21 R) (Ob h λy391 hy391 h=>Jk1 (κ:=K18) (E:=E6) 3 [] R R R R R R R R Z2 R R R R f20 hy391 λw23 K24 S25 f26=>⟨tv,?_⟩))))))))))
 have hn27:x8.length=y391.length:=hn21.trans (Jt2 hy391).2.2.2.symm
 refine Jo (Jz (Jp (Jf3 R ?_)))
 have hw9:hV .i64 (v11+1)=v11+1:=wr1 hj9 (Jm2 hc9) hN9
 rw[hw9]
 have hc9:=Jm2 hc9
 cases h
 exact Jz1 λa ha=>⟨k,_,Ja3 _,⟨K24,v11+1,(y391:(List Int)),R,(S19.tr S25).wk R,f26,hn27,by omega,by omega,hk22⟩,(ha.mm R)⟩
 rintro _ w12 ⟨K13,s3,rfl,S14,f15,hn16,rfl⟩
 have h:=hK10
 dsimp only[aft]at h
 refine Jp (Je3 R (Ju (Ja2 (l:=[.tmp 2]) V149 (Jp2 R R) R ?_)))
 cases h
 exact⟨(λb=>ren [(3,2)] (K13 b)),a8,u8,(by simp only[hn16]),((hE.stp (S3.tr (S7.tr S14)) R R).map (ren [(3,2)]) R R),(f15.map (ren [(3,2)]) R R)⟩
theorem oI {w:World}{κ:Col}{ac ah ak aj}{p0:Answer}{p1:Int}(g0_0:Rd (Rp.int .i64) κ w 0 ac ah p0.Won) (g0_1:Rd (Rp.int .i64) κ w 0 ak aj p0.Plan){r:(List Int)}(h:jb p0 p1=some r):Ret Tryz.prog 195 [.agg #[.slice ac p0.Won.length ah,.slice ak p0.Plan.length aj],vi p1] w (λv w'=>∃(κ':Col) (ra0:Option Addr) (ru0:Nat),v= .slice ra0 r.length ru0/\Ent κ w κ' w'/\Oc E6 2 κ' w' 2 ra0 ru0 r):=by
 unfold jb at h
 refine Ret.enter F195 R N195 R ?_
 dsimp only[envOf]
 have hE:=Ent.refl κ w
 refine Je [1,2] R (Jf1 (κ:=κ) 2 R R R R R R R λb2 w1 K2 S3 f4=>⟨tv,Jb 1 R (Jq (Je [2,1,2,2] R (Jd3 R U113 R Z29 (Jb3 R I29 (f4.ld 0 R R) (Jf R (Je2 U29 R R) (Jb 1 R ?_))))))⟩)
 revert h
 cases ht5:decide (256<(p0.Won.length:Int))
 refine JF λh=>Jy R (Js (Jp (Je [1,2] R (Jo1 (κ:=K2) (E:=E6) 3 R R R R R Y29 Tryzinfo2 R λal ao w7 K8 S9 f10=>⟨tv,Jb 1 R (Jq (Je [2,1,2,2] R (Jd3 R U113 R Z29 (Jb3 R I29 ((f4.stp S9 R R).ld 0 R R) (Jf R (Je2 U29 R R) (Jb 1 R ?_))))))⟩))))
 have hN12:(p0.Won.length:Int)<=9223372036854775807:=g0_0.len_le
 refine Ob h λq2 hq14 hK13=>?_
 clear h
 refine Jx1 (λL w'=>∃κ',∃s3:(List Int),∃ad ai,L=[(5,.slice ad s3.length ai)]/\Stp [3] K8 w7 κ' w'/\Oc E6 2 κ' w' 3 ad ai s3/\q2=it s3) ?_ ?_
 refine Jv (Jy1 (λk L w'=>∃κ' v16,∃s1:(List Int),∃aa ab,L=[(1,vi p1),(5,.slice aa s1.length ab),(14,.slice ac p0.Won.length ah),(15,vi (p0.Won.length:Int)),(16,vi v16)]/\Stp [3] K8 w7 κ' w'/\Oc E6 2 κ' w' 3 aa ab s1/\0<=v16/\t5 ((p0.Won.length:Int)-v16)=k/\cntM (ff p0 p1) k v16 s1=some q2) ⟨_,_,⟨K8,0,(([]:List Int):(List Int)),al,ao,R,Jj3,f10,(by decide),(by simp),hq14⟩,(KM R)⟩ ?_)
 rintro k _ w19 ⟨K20,v16,s1,aa,ab,rfl,S21,f22,hj12,hJ12,h⟩
 rcases k with _ | k
 have hk23:=h;obtain⟨o12,h⟩:=bO (it (sh s1):(List Int)⊕(((List Int))⊕((List Int))))
 have hc12:decide (v16<(p0.Won.length:Int))=false:=Jo2 (by omega)
 refine Je3 R (Jq (Jw2 R hc12 (Jc1 (Jt (Jt ?_)))))
 cases h
 have h:=hk23
 refine Jb1 ?_
 cases h
 exact Jw1 _ ⟨K20,(s1:(List Int)),aa,ab,R,S21.wk R,f22,R⟩ (KM R)
 obtain⟨o12,h,hk23⟩:=BI h;unfold ff at h
 have hc12:decide (v16<(p0.Won.length:Int))=true:=Jn2 (by omega)
 refine Je3 R (Jq (Jv2 R hc12 (Js (Jp (Jq (Jv (Jg3 [2,2,1,2,2] 1 R (Ob h λx19 hx19 h=>Jc3 R g0_0 hx19 U29 Z2 (Jb3 R I2 ((g0_0.stp (S3.tr (S9.tr S21)) R R).gInt hx19) (Jb 2 R (Je3 R (Ob h λq4 h hK25=>Jx1 (λL w'=>∃κ' ae af,L=[(1,vi p1),(5,.slice ae q4.length af),(14,.slice ac p0.Won.length ah),(15,vi (p0.Won.length:Int)),(16,vi v16)]/\Stp [3] K20 w19 κ' w'/\Oc E6 2 κ' w' 3 ae af q4) ?_ ?_))))))))))))
 revert h
 cases ht30:(x19==p1)
 refine JF λh=>Jy R (Js ?_)
 cases h
 exact Jw1 _ ⟨K20,aa,ab,R,Jj3,f22⟩ (KM R)
 refine JT λh=>Jx R (Jh3 [2,2,1,1,2] 2 R (Jn1 (κ:=K20) (E:=E6) 4 [] (parts:=[(0,.tmp 25)]) (cells:=[vi v16]) (xs:=([v16]:List Int)) R R R R R R Y29 Tryzinfo2 R R R R R R R R R R ⟨[vi v16],[],Zl K20 w19 [],Zl K20 w19 [],R,Zl.sp (l1:=[]) (l2:=[]) R,Zl.sr (l1:=[]) (l2:=[]),R,R⟩ λap aq w31 K32 S33 f34=>⟨tv,Ob h λx27 hx27 h=>Jm1 (κ:=K32) (E:=E6) 3 [] R R R R R R R R R Y29 Tryzinfo2 R R R R (f22.stp S33 R R) (Sl.srcP (bT _) f34.rdc) bJ hx27 R λan am w36 K37 S38 f39=>⟨tv,Jc 1 R ?_⟩⟩))
 cases h
 exact Jw1 _ ⟨K37,an,am,R,(S33.tr S38).wk R,f39⟩ (KM R)
 rintro _ w26 ⟨K27,ae,af,rfl,S28,f29⟩
 have h:=hK25
 refine Jz (Jp (Jf3 R ?_))
 have hw12:hV .i64 (v16+1)=v16+1:=wr1 hj12 (Jm2 hc12) hN12
 rw[hw12]
 have hc12:=Jm2 hc12
 cases h
 exact Jz1 λa ha=>⟨k,_,Ja3 _,⟨K27,v16+1,(q4:(List Int)),ae,af,R,(S21.tr S28).wk R,f29,by omega,by omega,hk23⟩,(ha.mm R)⟩
 rintro _ w15 ⟨K16,s3,ad,ai,rfl,S17,f18,rfl⟩
 have h:=hK13
 dsimp only[aft]at h
 refine Jp (Je3 R (Ju (Ja2 (l:=[.tmp 4]) V195 (Jp2 R R) R ?_)))
 cases h
 exact⟨(λb=>ren [(3,2)] (K16 b)),ad,ai,R,((hE.stp (S3.tr (S9.tr S17)) R R).map (ren [(3,2)]) R R),(f18.map (ren [(3,2)]) R R)⟩
 refine JT λh=>Jx R (Je3 R (Ju (Jw (Ja2 (l:=[.tmp 4]) V195 (Jp2 R R) R ?_))))
 cases h
 exact⟨K2,none,0,R,(hE.stp S3 R R),Ow.nil⟩
end Go.Proofs.YtpcjbkgbnoocaaaGreat
