/- The walks, part 2. By program. -/
import Derived.Test.YtmiilifclnanlaaGreatFnsMEE
import Derived.Test.YtmiilifclnanlaaGreatAlEE
set_option linter.unusedVariables false
set_option linter.unusedSimpArgs false
namespace Go.Proofs.YtmiilifclnanlaaGreat
open Go Go.Wk Go.Proofs
set_option maxRecDepth 100000
set_option maxHeartbeats 1000000
theorem s_l1Copy_ok {w:World}{κ:Col}{a0 u0}{p0:(List Int)}(g0:Rd (Rp.int .i64) κ w 0 a0 u0 p0){r:(List Int)}(h:s_l1Copy p0=some r):Ret Tryz.prog 114 [.slice a0 p0.length u0] w (fun v w'=>∃(κ':Col) (ra0:Option Addr) (ru0:Nat),v= .slice ra0 r.length ru0∧Ent κ w κ' w'∧Oc E6 2 κ' w' 2 ra0 ru0 r):=by
 unfold s_l1Copy at h
 refine Ret.enter F114 R N114 R ?_
 dsimp only[envOf]
 have hE:=Ent.refl κ w
 refine Je [2] R (Jb 1 R (Je [1,2,1,2] R (Jo1 (κ:=κ) (E:=E6) 2 R R R R R Y22 Tryzinfo2 R fun a3 u3 w1 K2 S3 f4=>⟨tv,Jn 1 R (Ob h fun x5 hx5 h=>Jm1 (κ:=K2) (E:=E6) 2 [] R R R R R R R R R Y22 Tryzinfo2 R R R R f4 (Sl.srcP (pu_int _) (g0.stp S3 R R)) sy_false hx5 R fun a5 u5 w6 K7 S8 f9=>⟨tv,Jb 1 R (Ju (Ja2 (l:=[.tmp 2]) V114 (Jp2 R R) R ?_))⟩)⟩)))
 cases h
 exact⟨K7,a5,u5,R,(hE.stp (S3.tr S8) R R),f9⟩
theorem s_l1Min_ok {w:World}{κ:Col}{p0:Int}{p1:Int}  {r:Int}(h:s_l1Min p0 p1=some r):Ret Tryz.prog 139 [vi p0,vi p1] w (fun v w'=>∃(κ':Col),v=vi r∧Ent κ w κ' w'):=by
 unfold s_l1Min at h
 refine Ret.enter F139 R N139 R ?_
 dsimp only[envOf]
 have hE:=Ent.refl κ w
 refine Je [2] R (Jb 1 R (Jq (Je [2,2,2] R (Jb 3 R ?_))))
 revert h
 cases ht1:decide (p0<p1)
 refine JF fun h=>Jy R (Js (Jp (Je [2,2] R (Jb 2 R (Ju (Ja2 (l:=[.tmp 4]) V139 (Jp2 R R) R ?_))))))
 cases h
 exact⟨κ,R,hE⟩
 refine JT fun h=>Jx R (Je [2,2] R (Jb 2 R (Ju (Jw (Ja2 (l:=[.tmp 4]) V139 (Jp2 R R) R ?_)))))
 cases h
 exact⟨κ,R,hE⟩
theorem i_copyLists_ok {w:World}{κ:Col}{a0 u0}{p0:(List (List Int))}(g0:Rd (Rp.sl (Rp.int .i64)) κ w 0 a0 u0 p0){r:(List (List Int))}(h:i_copyLists p0=some r):Ret Tryz.prog 140 [.slice a0 p0.length u0] w (fun v w'=>∃(κ':Col) (ra0:Option Addr) (ru0:Nat),v= .slice ra0 r.length ru0∧Ent κ w κ' w'∧Oc (Ep.own E6 2) 22 κ' w' 2 ra0 ru0 r):=by
 unfold i_copyLists at h
 refine Ret.enter F140 R N140 R ?_
 dsimp only[envOf]
 have hE:=Ent.refl κ w
 refine Je [2] R (Jb 1 R (Je [1,2] R (Jo1 (κ:=κ) (E:=(Ep.own E6 2)) 2 R R R R R Y23 Tryzinfo22 R fun a6 u6 w1 K2 S3 f4=>⟨tv,Jb 1 R (Jq (Je [2,2,2] R (Jn 1 R (Jf R (Je2 U23 R R) (Jb 1 R ?_)))))⟩)))
 have hN5:(p0.length:Int)≤9223372036854775807:=g0.len_le
 refine Ob h fun q2 hq7 hK6=>?_
 clear h
 refine Jx1 (fun L w'=>∃κ',∃s3:(List (List Int)),∃ac aa,L=[(3,.slice ac s3.length aa)]∧Stp [2,3,4] K2 w1 κ' w'∧Oc (Ep.own E6 2) 22 κ' w' 2 ac aa s3∧q2=Sum.inr s3) ?_ ?_
 refine Jv (Jy1 (fun k L w'=>∃κ' v9,∃s1:(List (List Int)),∃ad ab,L=[(3,.slice ad s1.length ab),(7,.slice a0 p0.length u0),(8,vi (p0.length:Int)),(9,vi v9)]∧Stp [2,3,4] K2 w1 κ' w'∧Oc (Ep.own E6 2) 22 κ' w' 2 ad ab s1∧0≤v9∧Int.toNat ((p0.length:Int)-v9)=k∧cntM (i_copyLists_b0 p0) k v9 s1=some q2) ⟨_,_,⟨K2,0,(([]:List (List Int)):(List (List Int))),a6,u6,R,(Jx2 _ _).wk R,f4,(by decide),(by simp),hq7⟩,(KM R)⟩ ?_)
 rintro k _ w12 ⟨K13,v9,s1,ad,ab,rfl,S14,f15,hj5,hJ5,h⟩
 rcases k with _ | k
 have hk16:=h;obtain⟨o5,h⟩:=ex_eq (Sum.inr (Sum.inl s1):(List (List Int))⊕(((List (List Int)))⊕((List (List Int)))))
 have hc5:decide (v9<(p0.length:Int))=false:=Jo2 (by omega)
 refine Je [2] R (Jb 1 R (Jq (Jw2 R hc5 (Jc1 (Jt (Jt ?_))))))
 cases h
 have h:=hk16
 refine Jb1 ?_
 cases h
 exact Jw1 _ ⟨K13,(s1:(List (List Int))),ad,ab,R,S14.wk R,f15,R⟩ (KM R)
 obtain⟨o5,h,hk16⟩:=BI h;unfold i_copyLists_b0 at h
 have hc5:decide (v9<(p0.length:Int))=true:=Jn2 (by omega)
 refine Je [2] R (Jb 1 R (Jq (Jv2 R hc5 (Js (Jp (Jq (Jv (Je [2,1,2] R (Ob h fun x11 hx11 h=>Jf R (Jf2 g0 hx11 U23 Z22 R R R R) ?_)))))))))
 obtain⟨ax11,ux11,f18,hl19⟩:=(g0.stp (S3.tr S14) R R).gSl hx11
 refine Jl tv R R R R (Jc2 I22 R R (hvE hl19)) (Jb 1 R (Ja [2,1,2,1,1,1,2] R (Jn 1 R (Jo1 (κ:=K13) (E:=E6) 3 R R R R R Y22 Tryzinfo2 R fun ak am w20 K21 S22 f23=>⟨tv,Jn 1 R (Ob h fun x16 hx16 h=>Jm1 (κ:=K21) (E:=E6) 3 [] R R R R R R R R R Y22 Tryzinfo2 R R R R f23 (Sl.srcP (pu_int _) (f18.stp S22 R R)) sy_false hx16 R fun ae af w25 K26 S27 f28=>⟨tv,Jn1 (κ:=K26) (E:=(Ep.own E6 2)) 4 [3] (parts:=[(0,.tmp 16)]) (cells:=[.slice ae x16.length af]) (xs:=([x16]:List (List Int))) R R R R R R Y23 Tryzinfo22 R R R R R R R R R R ⟨[.slice ae x16.length af],[],Zl K26 w25 [3],Zl K26 w25 [],R,Zl.sp (l1:=[3]) (l2:=[]) R,Zl.sr (l1:=[3]) (l2:=[]),⟨_,_,R,f28⟩,R⟩ fun al aj w29 K30 S31 f32=>⟨tv,Ob h fun x18 hx18 h=>Jm1 (κ:=K30) (E:=(Ep.own E6 2)) 2 [4] R R R R R R R R R Y23 Tryzinfo22 R R R R (f15.stp (S22.tr (S27.tr S31)) R R) f32.src (sy_one R) hx18 R fun ah ai w34 K35 S36 f37=>⟨tv,Jc 1 R (Jz (Jp (Ja [2,2] R (Jc 2 R ?_))))⟩⟩⟩)⟩))))
 have hw5:IntKind.wrap .i64 (v9+1)=v9+1:=wr1 hj5 (Jm2 hc5) hN5
 rw[hw5]
 have hc5:=Jm2 hc5
 cases h
 exact Jz1 fun a ha=>⟨k,_,Ja3 _,⟨K35,v9+1,(x18:(List (List Int))),ah,ai,R,(S14.tr (S22.tr (S27.tr (S31.tr S36)))).wk R,f37,by omega,by omega,hk16⟩,(ha.mm R)⟩
 rintro _ w8 ⟨K9,s3,ac,aa,rfl,S10,f11,rfl⟩
 have h:=hK6
 dsimp only[aft]at h
 refine Jp (Je [2,2] R (Jb 2 R (Ju (Ja2 (l:=[.tmp 2]) V140 (Jp2 R R) R ?_))))
 cases h
 exact⟨K9,ac,aa,R,(hE.stp (S3.tr S10) R R),f11⟩
theorem cmp_isNaN_int64_ok {w:World}{κ:Col}{p0:Int}  {r:Bool}(h:cmp_isNaN_int64 p0=some r):Ret Tryz.prog 169 [vi p0] w (fun v w'=>∃(κ':Col),v= .bool r∧Ent κ w κ' w'):=by
 unfold cmp_isNaN_int64 at h
 refine Ret.enter F169 R N169 R ?_
 dsimp only[envOf]
 have hE:=Ent.refl κ w
 refine Je [2] R (Jb 1 R (Je [2,2,2,2] R (Jb 4 R (Ju (Ja2 (l:=[.tmp 2]) V169 (Jp2 R R) R ?_)))))
 cases h
 exact⟨κ,R,hE⟩
theorem s_l16Has_ok {w:World}{κ:Col}{a0 u0}{p0:(List Int)}{p1:Int}(g0:Rd (Rp.int .i64) κ w 0 a0 u0 p0){r:Bool}(h:s_l16Has p0 p1=some r):Ret Tryz.prog 76 [.slice a0 p0.length u0,vi p1] w (fun v w'=>∃(κ':Col),v= .bool r∧Ent κ w κ' w'):=by
 unfold s_l16Has at h
 refine Ret.enter F76 R N76 R ?_
 dsimp only[envOf]
 have hE:=Ent.refl κ w
 refine Je [2] R (Jb 1 R (Jq (Je [2] R (Jb 1 R ?_))))
 have hN1:(p0.length:Int)≤9223372036854775807:=g0.len_le
 refine Ob h fun q2 hq3 hK2=>?_
 clear h
 refine Jx1 (fun L w'=>∃κ',L=[]∧Stp [] κ w κ' w'∧q2=Sum.inr ()) ?_ ?_
 refine Jv (Jy1 (fun k L w'=>∃κ' v5,L=[(0,.slice a0 p0.length u0),(1,vi p1),(5,vi v5)]∧Stp [] κ w κ' w'∧0≤v5∧Int.toNat ((p0.length:Int)-v5)=k∧cntM (s_l16Has_b0 p0 p1) k v5 ()=some q2) ⟨_,_,⟨κ,0,R,(Jx2 _ _).wk R,(by decide),(by simp),hq3⟩,(KM R)⟩ ?_)
 rintro k _ w7 ⟨K8,v5,rfl,S9,hj1,hJ1,h⟩
 rcases k with _ | k
 have hk10:=h;obtain⟨o1,h⟩:=ex_eq (Sum.inr (Sum.inl ()):Bool⊕((Unit)⊕(Unit)))
 have hc1:decide (v5<(p0.length:Int))=false:=Jo2 (by omega)
 refine Jq (Je [2,2,2,2] R (Jn 2 R (Jf R (Je2 U22 R R) (Jb 1 R (Jw2 R hc1 (Jc1 (Jt (Jt ?_))))))))
 cases h
 have h:=hk10
 refine Jb1 ?_
 cases h
 exact Jw1 _ ⟨K8,R,S9.wk R,R⟩ KN
 obtain⟨o1,h,hk10⟩:=BI h;unfold s_l16Has_b0 at h
 have hc1:decide (v5<(p0.length:Int))=true:=Jn2 (by omega)
 refine Jq (Je [2,2,2,2] R (Jn 2 R (Jf R (Je2 U22 R R) (Jb 1 R (Jv2 R hc1 (Js (Jp (Jq (Jv (Je [2,2,2,1,2,2] R (Jn 2 R (Ob h fun x14 hx14 h=>Jf R (Jf2 g0 hx14 U22 Z2 R R R R) (Jl tv R R R R (Jc2 I2 R R (hvE ((g0.stp S9 R R).gInt hx14))) (Jb 2 R ?_))))))))))))))
 revert h
 cases ht12:(x14==p1)
 refine JF fun h=>Jy R (Js (Jz (Jp (Ja [2,2,2] R (Jc 3 R ?_)))))
 have hw1:IntKind.wrap .i64 (v5+1)=v5+1:=wr1 hj1 (Jm2 hc1) hN1
 rw[hw1]
 have hc1:=Jm2 hc1
 cases h
 exact Jz1 fun a ha=>⟨k,_,Ja3 _,⟨K8,v5+1,R,S9.wk R,by omega,by omega,hk10⟩,(ha.mm R)⟩
 refine JT fun h=>Jx R (Je [2] R (Jb 1 R (Ju (Ja1 (Jw (Jw ?_))))))
 cases h
 obtain rfl:=Option.some.inj hk10
 have h:=hK2
 dsimp only[aft]at h
 refine Ja1 (Jq2 (Jw (Ja2 (l:=[.tmp 4]) V76 (Jp2 R R) R ?_)))
 cases h
 exact⟨K8,R,(hE.stp S9 R R)⟩
 rintro _ w4 ⟨K5,rfl,S6,rfl⟩
 have h:=hK2
 dsimp only[aft]at h
 refine Jp (Je [2] R (Jb 1 R (Ju (Ja2 (l:=[.tmp 4]) V76 (Jp2 R R) R ?_))))
 cases h
 exact⟨K5,R,(hE.stp S6 R R)⟩
theorem s_l1Same_ok {w:World}{κ:Col}{a0 u0}{p0:(List Int)}{a1 u1}{p1:(List Int)}(g0:Rd (Rp.int .i64) κ w 0 a0 u0 p0) (g1:Rd (Rp.int .i64) κ w 0 a1 u1 p1){r:Bool}(h:s_l1Same p0 p1=some r):Ret Tryz.prog 57 [.slice a0 p0.length u0,.slice a1 p1.length u1] w (fun v w'=>∃(κ':Col),v= .bool r∧Ent κ w κ' w'):=by
 unfold s_l1Same at h
 refine Ret.enter F57 R N57 R ?_
 dsimp only[envOf]
 have hE:=Ent.refl κ w
 refine Je [2] R (Jb 1 R (Jq (Je [2,2,2,2,2] R (Jn 1 R (Jf R (Je2 U22 R R) (Jn 1 R (Jf R (Je2 U22 R R) (Jb 1 R ?_))))))))
 revert h
 cases ht1:((p0.length:Int) !=(p1.length:Int))
 refine JF fun h=>Jy R (Js (Jp (Jq (Je [2] R (Jb 1 R ?_)))))
 have hN2:(p0.length:Int)≤9223372036854775807:=g0.len_le
 refine Ob h fun q2 hq4 hK3=>?_
 clear h
 refine Jx1 (fun L w'=>∃κ',L=[]∧Stp [] κ w κ' w'∧q2=Sum.inr ()) ?_ ?_
 refine Jv (Jy1 (fun k L w'=>∃κ' v5,L=[(0,.slice a0 p0.length u0),(1,.slice a1 p1.length u1),(5,vi v5)]∧Stp [] κ w κ' w'∧0≤v5∧Int.toNat ((p0.length:Int)-v5)=k∧cntM (s_l1Same_b0 p0 p1) k v5 ()=some q2) ⟨_,_,⟨κ,0,R,(Jx2 _ _).wk R,(by decide),(by simp),hq4⟩,(KM R)⟩ ?_)
 rintro k _ w8 ⟨K9,v5,rfl,S10,hj2,hJ2,h⟩
 rcases k with _ | k
 have hk11:=h;obtain⟨o2,h⟩:=ex_eq (Sum.inr (Sum.inl ()):Bool⊕((Unit)⊕(Unit)))
 have hc2:decide (v5<(p0.length:Int))=false:=Jo2 (by omega)
 refine Jq (Je [2,2,2,2] R (Jn 2 R (Jf R (Je2 U22 R R) (Jb 1 R (Jw2 R hc2 (Jc1 (Jt (Jt ?_))))))))
 cases h
 have h:=hk11
 refine Jb1 ?_
 cases h
 exact Jw1 _ ⟨K9,R,S10.wk R,R⟩ KN
 obtain⟨o2,h,hk11⟩:=BI h;unfold s_l1Same_b0 at h
 have hc2:decide (v5<(p0.length:Int))=true:=Jn2 (by omega)
 refine Jq (Je [2,2,2,2] R (Jn 2 R (Jf R (Je2 U22 R R) (Jb 1 R (Jv2 R hc2 (Js (Jp (Jq (Jv (Jq (Js1 (κ:=K9) [0] none [(0,2),(1,2),(2,2),(4,2),(5,2),(6,2),(3,0),(7,0),(8,2)] [] (by kernel_rfl) (by kernel_rfl) fun w13 S12=>Jn 2 R (Ob h fun x19 hx19 h=>Jf R (Jf2 g0 hx19 U22 Z2 R R R R) (Jn 2 R (Ob h fun x23 hx23 h=>Jf R (Jf2 g1 hx23 U22 Z2 R R R R) (Jg R (Jc2 I2 R R (hvC ((g0.stp (S10.tr S12) R R).gInt hx19) R)) (Jg R (Jc2 I2 R R (hvC ((g1.stp (S10.tr S12) R R).gInt hx23) R)) (Jn 1 R (Jt1 (Jd ?_)))))))))))))))))))
 revert h
 cases ht16:(x19 !=x23)
 refine JF fun h=>Jy R (Js (Jz (Jp (Ja [2,2,2] R (Jc 3 R ?_)))))
 have hw2:IntKind.wrap .i64 (v5+1)=v5+1:=wr1 hj2 (Jm2 hc2) hN2
 rw[hw2]
 have hc2:=Jm2 hc2
 cases h
 exact Jz1 fun a ha=>⟨k,_,Ja3 _,⟨K9,v5+1,R,(S10.tr S12).wk R,by omega,by omega,hk11⟩,(ha.mm R)⟩
 refine JT fun h=>Jx R (Je [2] R (Jb 1 R (Ju (Ja1 (Jw (Jw ?_))))))
 cases h
 obtain rfl:=Option.some.inj hk11
 have h:=hK3
 dsimp only[aft]at h
 refine Ja1 (Jq2 (Jw (Ja2 (l:=[.tmp 4]) V57 (Jp2 R R) R ?_)))
 cases h
 exact⟨K9,R,(hE.stp (S10.tr S12) R R)⟩
 rintro _ w5 ⟨K6,rfl,S7,rfl⟩
 have h:=hK3
 dsimp only[aft]at h
 refine Jp (Je [2] R (Jb 1 R (Ju (Ja2 (l:=[.tmp 4]) V57 (Jp2 R R) R ?_))))
 cases h
 exact⟨K6,R,(hE.stp S7 R R)⟩
 refine JT fun h=>Jx R (Je [2] R (Jb 1 R (Ju (Jw (Ja2 (l:=[.tmp 4]) V57 (Jp2 R R) R ?_)))))
 cases h
 exact⟨κ,R,hE⟩
theorem s_l7All_ok {w:World}{κ:Col}{p0:Int}  {r:(List Bool)}(h:s_l7All p0=some r):Ret Tryz.prog 127 [vi p0] w (fun v w'=>∃(κ':Col) (ra0:Option Addr) (ru0:Nat),v= .slice ra0 r.length ru0∧Ent κ w κ' w'∧Oc Ep.bool 4 κ' w' 2 ra0 ru0 r):=by
 unfold s_l7All at h
 refine Ret.enter F127 R N127 R ?_
 dsimp only[envOf]
 have hE:=Ent.refl κ w
 refine Je [2] R (Jb 1 R (Je [2,1,2] R (Jn 1 R (Ob h fun x6 hx6 h=>Jl1 (κ:=κ) (E:=Ep.bool) (z:=(false:Bool)) 2 R R R R R R R Y70 Tryzinfo4 R R R R R (fun _ _ _=>R) (Ju2 hx6) fun a6 u6 w1 K2 S3 f4=>⟨tv,Jb 1 R (Jq (Je [2] R (Jb 1 R (Ob h fun _ hr5 h=>?_))))⟩))))
 have hN5:=rng_ok hr5
 refine Ob h fun q2 hq7 hK6=>?_
 clear h
 refine Jx1 (fun L w'=>∃κ',∃s3:(List Bool),L=[(3,.slice a6 x6.length u6)]∧Stp [2] K2 w1 κ' w'∧Oc Ep.bool 4 κ' w' 2 a6 u6 s3∧x6.length=s3.length∧q2=Sum.inr s3) ?_ ?_
 refine Jv (Jy1 (fun k L w'=>∃κ' v4,∃s1:(List Bool),L=[(0,vi p0),(3,.slice a6 x6.length u6),(4,vi v4)]∧Stp [2] K2 w1 κ' w'∧Oc Ep.bool 4 κ' w' 2 a6 u6 s1∧x6.length=s1.length∧0≤v4∧Int.toNat (p0-v4)=k∧cntM s_l7All_b0 k v4 s1=some q2) ⟨_,_,⟨K2,0,(x6:(List Bool)),R,(Jx2 _ _).wk R,f4,R,(by decide),(by simp),hq7⟩,(KM R)⟩ ?_)
 rintro k _ w13 ⟨K14,v4,s1,rfl,S15,f16,hn17,hj5,hJ5,h⟩
 rcases k with _ | k
 have hk18:=h;obtain⟨o5,h⟩:=ex_eq (Sum.inr (Sum.inl s1):(List Bool)⊕(((List Bool))⊕((List Bool))))
 have hc5:decide (v4<p0)=false:=Jo2 (by omega)
 refine Jq (Je [2,2,2] R (Jb 3 R (Jw2 R hc5 (Jc1 (Jt (Jt ?_))))))
 cases h
 have h:=hk18
 refine Jb1 ?_
 cases h
 exact Jw1 _ ⟨K14,(s1:(List Bool)),R,S15.wk R,f16,hn17,R⟩ (KM R)
 obtain⟨o5,h,hk18⟩:=BI h;unfold s_l7All_b0 at h
 have hc5:decide (v4<p0)=true:=Jn2 (by omega)
 refine Jq (Je [2,2,2] R (Jb 3 R (Jv2 R hc5 (Js (Jp (Jq (Jv (Ja [2,2,2,1] R (Jn 2 R (Ob h fun x14 hx14 h=>Jf R (Jf2 f16.rdc hx14 U70 Z4 R R hn17 R) (Ob h fun y184 hy184 h=>Jk1 (κ:=K14) (E:=Ep.bool) 2 [] R R R R R R R R Z4 R R R R f16 hy184 fun w19 K20 S21 f22=>⟨tv,?_⟩)))))))))))
 have hn23:x6.length=y184.length:=hn17.trans (Jt2 hy184).2.2.2.symm
 refine Jo (Jz (Jp (Ja [2,2,2] R (Jc 3 R ?_))))
 have hw5:IntKind.wrap .i64 (v4+1)=v4+1:=wr1 hj5 (Jm2 hc5) hN5
 rw[hw5]
 have hc5:=Jm2 hc5
 cases h
 exact Jz1 fun a ha=>⟨k,_,Ja3 _,⟨K20,v4+1,(y184:(List Bool)),R,(S15.tr S21).wk R,f22,hn23,by omega,by omega,hk18⟩,(ha.mm R)⟩
 rintro _ w8 ⟨K9,s3,rfl,S10,f11,hn12,rfl⟩
 have h:=hK6
 dsimp only[aft]at h
 refine Jp (Je [2,2] R (Jb 2 R (Ju (Ja2 (l:=[.tmp 2]) V127 (Jp2 R R) R ?_))))
 cases h
 exact⟨K9,a6,u6,(by simp only[hn12]),(hE.stp (S3.tr S10) R R),f11⟩
theorem s_l7Edge_ok {w:World}{κ:Col}{ak aa ac af ad aj ab ah ai ae}{p0:l7Game}{p1:Int}{p2:Int}(g0_0:Rd (Rp.int .i64) κ w 0 ak aa p0.owner) (g0_1:Rd (Rp.int .i64) κ w 0 ac af p0.prio) (g0_2:Rd (Rp.sl (Rp.int .i64)) κ w 0 ad aj p0.next) (g0_3:Rd (Rp.sl (Rp.int .i64)) κ w 0 ab ah p0.prev) (g0_4:Rd (Rp.int .i64) κ w 0 ai ae p0.pick){r:Bool}(h:s_l7Edge p0 p1 p2=some r):Ret Tryz.prog 173 [.agg #[.slice ak p0.owner.length aa,.slice ac p0.prio.length af,.slice ad p0.next.length aj,.slice ab p0.prev.length ah,.slice ai p0.pick.length ae],vi p1,vi p2] w (fun v w'=>∃(κ':Col),v= .bool r∧Ent κ w κ' w'):=by
 unfold s_l7Edge at h
 refine Ret.enter F173 R N173 R ?_
 dsimp only[envOf]
 have hE:=Ent.refl κ w
 refine Je [1,2] R (Jf1 (κ:=κ) 2 R R R R R R R fun b3 w1 K2 S3 f4=>⟨tv,Jb 1 R (Je [2,1,2,2,1,2,2,2,1,2,2,1,2,2,2,2] R (Jf R (Jb2 U111 R Z22 R R) (Jl tv R R R R (Jc2 I22 R R (hvE (f4.ld 4 R R))) (Jn 1 R (Ob h fun x10 hx10 h=>Jf R (Jf2 g0_4 hx10 U22 Z2 R R R R) ?_)))))⟩)
 have f5:=g0_4.stp S3 R R
 refine Jl tv R R R R (Jc2 I2 R R (hvE (f5.gInt hx10))) (Jn 2 R (Ob h fun p21 h hK6=>Ju1 [(7,2),(8,1),(9,2),(10,2),(11,1),(12,2),(13,2),(14,2)] [(15,2)] (fun L w'=>L=[(6,.bool false),(21,.bool p21)]∧∃κ',Stp [] K2 w1 κ' w') tv ?_ ?_))
 revert h
 cases ht7:decide (x10<0)
 refine JF fun h=>Jf R (Jb2 U111 R Z22 R R) (Jl tv R R R R (Jc2 I22 R R (hvE (f4.ld 4 R R))) (Jn 1 R (Ob h fun x17 hx17 h=>Jf R (Jf2 f5 hx17 U22 Z2 R R R R) (Jl tv R R R R (Jc2 I2 R R (hvE (f5.gInt hx17))) (Jn 3 R ?_)))))
 cases h
 exact Jv1 _ tv ⟨R,_,(Jx2 _ _).wk R⟩ (KM R)
 refine JT fun h=>Jn 1 R (Jd1 R R R R (Jn 2 R (Jd1 R R R R (Jn 3 R ?_))))
 cases h
 exact Jv1 _ tv ⟨R,_,(Jx2 _ _).wk R⟩ (KM R)
 rintro _ w8 _ ⟨rfl,K9,S10⟩
 have h:=hK6
 refine Jb 1 R (Ju (Ja2 (l:=[.tmp 6]) V173 (Jp2 R R) R ?_))
 cases h
 exact⟨K9,R,(hE.stp (S3.tr S10) R R)⟩
theorem s_l7Less_ok {w:World}{κ:Col}{a0 u0}{p0:(List Bool)}{a1 u1}{p1:(List Bool)}(g0:Rd Rp.bool κ w 0 a0 u0 p0) (g1:Rd Rp.bool κ w 0 a1 u1 p1){r:(List Bool)}(h:s_l7Less p0 p1=some r):Ret Tryz.prog 150 [.slice a0 p0.length u0,.slice a1 p1.length u1] w (fun v w'=>∃(κ':Col) (ra0:Option Addr) (ru0:Nat),v= .slice ra0 r.length ru0∧Ent κ w κ' w'∧Oc Ep.bool 4 κ' w' 2 ra0 ru0 r):=by
 unfold s_l7Less at h
 refine Ret.enter F150 R N150 R ?_
 dsimp only[envOf]
 have hE:=Ent.refl κ w
 refine Je [2] R (Jb 1 R (Je [2,2,1,2] R (Jn 1 R (Jf R (Je2 U70 R R) (Ob h fun x9 hx9 h=>Jl1 (κ:=κ) (E:=Ep.bool) (z:=(false:Bool)) 2 R R R R R R R Y70 Tryzinfo4 R R R R R (fun _ _ _=>R) (Ju2 hx9) fun a9 u9 w1 K2 S3 f4=>⟨tv,Jb 1 R (Jq (Je [2] R (Jb 1 R ?_)))⟩)))))
 have hN5:(p0.length:Int)≤9223372036854775807:=g0.len_le
 refine Ob h fun q2 hq7 hK6=>?_
 clear h
 refine Jx1 (fun L w'=>∃κ',∃s3:(List Bool),L=[(5,.slice a9 x9.length u9)]∧Stp [2] K2 w1 κ' w'∧Oc Ep.bool 4 κ' w' 2 a9 u9 s3∧x9.length=s3.length∧q2=Sum.inr s3) ?_ ?_
 refine Jv (Jy1 (fun k L w'=>∃κ' v6,∃s1:(List Bool),L=[(0,.slice a0 p0.length u0),(1,.slice a1 p1.length u1),(5,.slice a9 x9.length u9),(6,vi v6)]∧Stp [2] K2 w1 κ' w'∧Oc Ep.bool 4 κ' w' 2 a9 u9 s1∧x9.length=s1.length∧0≤v6∧Int.toNat ((p0.length:Int)-v6)=k∧cntM (s_l7Less_b0 p0 p1) k v6 s1=some q2) ⟨_,_,⟨K2,0,(x9:(List Bool)),R,(Jx2 _ _).wk R,f4,R,(by decide),(by simp),hq7⟩,(KM R)⟩ ?_)
 rintro k _ w13 ⟨K14,v6,s1,rfl,S15,f16,hn17,hj5,hJ5,h⟩
 rcases k with _ | k
 have hk18:=h;obtain⟨o5,h⟩:=ex_eq (Sum.inr (Sum.inl s1):(List Bool)⊕(((List Bool))⊕((List Bool))))
 have hc5:decide (v6<(p0.length:Int))=false:=Jo2 (by omega)
 refine Jq (Je [2,2,2,2] R (Jn 2 R (Jf R (Je2 U70 R R) (Jb 1 R (Jw2 R hc5 (Jc1 (Jt (Jt ?_))))))))
 cases h
 have h:=hk18
 refine Jb1 ?_
 cases h
 exact Jw1 _ ⟨K14,(s1:(List Bool)),R,S15.wk R,f16,hn17,R⟩ (KM R)
 obtain⟨o5,h,hk18⟩:=BI h;unfold s_l7Less_b0 at h
 have hc5:decide (v6<(p0.length:Int))=true:=Jn2 (by omega)
 refine Jq (Je [2,2,2,2] R (Jn 2 R (Jf R (Je2 U70 R R) (Jb 1 R (Jv2 R hc5 (Js (Jp (Jq (Jv (Ja [2,2,2,2,2,1,2,2,2,2,1,2,2,2,1] R (Jn 4 R (Ob h fun x20 hx20 h=>Jf R (Jf2 g0 hx20 U70 Z4 R R R R) (Jl tv R R R R (Jc2 I4 R R (hvE ((g0.stp (S3.tr S15) R R).gBool hx20))) (Jn 1 R (Ob h fun p28 h hK20=>Ju1 [(7,2),(8,2),(9,2),(10,1),(11,2),(12,2)] [(13,2),(14,1)] (fun L w'=>L=[(0,.slice a0 p0.length u0),(1,.slice a1 p1.length u1),(5,.slice a9 x9.length u9),(6,vi v6),(16,.slice a9 x9.length u9),(17,vi v6),(28,.bool p28)]∧∃κ',Stp [] K14 w13 κ' w') tv ?_ ?_)))))))))))))))
 revert h
 cases ht21:x20
 refine JF fun h=>Jn 3 R (Jd1 R R R R (Jn 2 R ?_))
 cases h
 exact Jv1 _ tv ⟨R,_,(Jx2 _ _).wk R⟩ (KM R)
 refine JT fun h=>Jn 2 R (Ob h fun x25 hx25 h=>Jf R (Jf2 g1 hx25 U70 Z4 R R R R) (Jl tv R R R R (Jc2 I4 R R (hvE ((g1.stp (S3.tr S15) R R).gBool hx25))) (Jn 2 R ?_)))
 cases h
 exact Jv1 _ tv ⟨R,_,(Jx2 _ _).wk R⟩ (KM R)
 rintro _ w23 _ ⟨rfl,K24,S25⟩
 have h:=hK20
 refine Ob h fun x29 hx29 h=>Jf R (Jf2 f16.rdc hx29 U70 Z4 R R hn17 R) (Ob h fun y206 hy206 h=>Jk1 (κ:=K24) (E:=Ep.bool) 2 [] R R R R R R R R Z4 R R R R (f16.stp S25 R R) hy206 fun w27 K28 S29 f30=>⟨tv,?_⟩)
 have hn31:x9.length=y206.length:=hn17.trans (Jt2 hy206).2.2.2.symm
 refine Jo (Jz (Jp (Ja [2,2,2] R (Jc 3 R ?_))))
 have hw5:IntKind.wrap .i64 (v6+1)=v6+1:=wr1 hj5 (Jm2 hc5) hN5
 rw[hw5]
 have hc5:=Jm2 hc5
 cases h
 exact Jz1 fun a ha=>⟨k,_,Ja3 _,⟨K28,v6+1,(y206:(List Bool)),R,(S15.tr (S25.tr S29)).wk R,f30,hn31,by omega,by omega,hk18⟩,(ha.mm R)⟩
 rintro _ w8 ⟨K9,s3,rfl,S10,f11,hn12,rfl⟩
 have h:=hK6
 dsimp only[aft]at h
 refine Jp (Je [2,2] R (Jb 2 R (Ju (Ja2 (l:=[.tmp 4]) V150 (Jp2 R R) R ?_))))
 cases h
 exact⟨K9,a9,u9,(by simp only[hn12]),(hE.stp (S3.tr S10) R R),f11⟩
theorem s_l1Flag_ok {w:World}{κ:Col}{p0:Bool}  {r:Int}(h:s_l1Flag p0=some r):Ret Tryz.prog 128 [.bool p0] w (fun v w'=>∃(κ':Col),v=vi r∧Ent κ w κ' w'):=by
 unfold s_l1Flag at h
 refine Ret.enter F128 R N128 R ?_
 dsimp only[envOf]
 have hE:=Ent.refl κ w
 refine Je [2] R (Jb 1 R (Jq (Je [2] R (Jb 1 R ?_))))
 revert h
 cases ht1:p0
 refine JF fun h=>Jy R (Js (Jp (Je [2] R (Jb 1 R (Ju (Ja2 (l:=[.tmp 2]) V128 (Jp2 R R) R ?_))))))
 cases h
 exact⟨κ,R,hE⟩
 refine JT fun h=>Jx R (Je [2] R (Jb 1 R (Ju (Jw (Ja2 (l:=[.tmp 2]) V128 (Jp2 R R) R ?_)))))
 cases h
 exact⟨κ,R,hE⟩
theorem i_noPlan_ok {w:World}{κ:Col}{ad aa ab ac}{p0:Arena}(g0_0:Rd (Rp.int .i64) κ w 0 ad aa p0.Owner) (g0_1:Rd (Rp.sl (Rp.int .i64)) κ w 0 ab ac p0.Next){r:(List Int)}(h:i_noPlan p0=some r):Ret Tryz.prog 88 [.agg #[.slice ad p0.Owner.length aa,.slice ab p0.Next.length ac]] w (fun v w'=>∃(κ':Col) (ra0:Option Addr) (ru0:Nat),v= .slice ra0 r.length ru0∧Ent κ w κ' w'∧Oc E6 2 κ' w' 2 ra0 ru0 r):=by
 unfold i_noPlan at h
 refine Ret.enter F88 R N88 R ?_
 dsimp only[envOf]
 have hE:=Ent.refl κ w
 refine Je [1,2] R (Jf1 (κ:=κ) 2 R R R R R R R fun b1 w1 K2 S3 f4=>⟨tv,Jb 1 R (Je [2,1,2,1,2] R (Jf R (Jb2 U37 R Z22 R R) (Jl tv R R R R (Jc2 I22 R R (hvE (f4.ld 0 R R))) (Jf R (Je2 U22 R R) (Ob h fun x8 hx8 h=>Jl1 (κ:=K2) (E:=E6) (z:=(0:Int)) 3 R R R R R R R Y22 Tryzinfo2 R R R R R (fun _ _ _=>R) (Ju2 hx8) fun a8 u8 w5 K6 S7 f8=>⟨tv,Jb 1 R (Jq (Je [2,2,2] R (Jn 1 R (Jf R (Je2 U22 R R) (Jb 1 R ?_)))))⟩)))))⟩)
 have hN9:(x8.length:Int)≤9223372036854775807:=f8.len_le
 refine Ob h fun q2 hq11 hK10=>?_
 clear h
 refine Jx1 (fun L w'=>∃κ',∃s3:(List Int),L=[(3,.slice a8 x8.length u8)]∧Stp [3] K6 w5 κ' w'∧Oc E6 2 κ' w' 3 a8 u8 s3∧x8.length=s3.length∧q2=Sum.inr s3) ?_ ?_
 refine Jv (Jy1 (fun k L w'=>∃κ' v11,∃s1:(List Int),L=[(3,.slice a8 x8.length u8),(10,vi (x8.length:Int)),(11,vi v11)]∧Stp [3] K6 w5 κ' w'∧Oc E6 2 κ' w' 3 a8 u8 s1∧x8.length=s1.length∧0≤v11∧Int.toNat ((x8.length:Int)-v11)=k∧cntM i_noPlan_b0 k v11 s1=some q2) ⟨_,_,⟨K6,0,(x8:(List Int)),R,(Jx2 _ _).wk R,f8,R,(by decide),(by simp),hq11⟩,(KM R)⟩ ?_)
 rintro k _ w17 ⟨K18,v11,s1,rfl,S19,f20,hn21,hj9,hJ9,h⟩
 rcases k with _ | k
 have hk22:=h;obtain⟨o9,h⟩:=ex_eq (Sum.inr (Sum.inl s1):(List Int)⊕(((List Int))⊕((List Int))))
 have hc9:decide (v11<(x8.length:Int))=false:=Jo2 (by omega)
 refine Je [2] R (Jb 1 R (Jq (Jw2 R hc9 (Jc1 (Jt (Jt ?_))))))
 cases h
 have h:=hk22
 refine Jb1 ?_
 cases h
 exact Jw1 _ ⟨K18,(s1:(List Int)),R,S19.wk R,f20,hn21,R⟩ (KM R)
 obtain⟨o9,h,hk22⟩:=BI h;unfold i_noPlan_b0 at h
 have hc9:decide (v11<(x8.length:Int))=true:=Jn2 (by omega)
 refine Je [2] R (Jb 1 R (Jq (Jv2 R hc9 (Js (Jp (Jq (Jv (Je [2,2] R (Jb 2 R (Ja [2,2,2,1] R (Jn 2 R (Ob h fun x16 hx16 h=>Jf R (Jf2 f20.rdc hx16 U22 Z2 R R hn21 R) (Ob h fun y244 hy244 h=>Jk1 (κ:=K18) (E:=E6) 3 [] R R R R R R R R Z2 R R R R f20 hy244 fun w23 K24 S25 f26=>⟨tv,?_⟩)))))))))))))
 have hn27:x8.length=y244.length:=hn21.trans (Jt2 hy244).2.2.2.symm
 refine Jo (Jz (Jp (Ja [2,2] R (Jc 2 R ?_))))
 have hw9:IntKind.wrap .i64 (v11+1)=v11+1:=wr1 hj9 (Jm2 hc9) hN9
 rw[hw9]
 have hc9:=Jm2 hc9
 cases h
 exact Jz1 fun a ha=>⟨k,_,Ja3 _,⟨K24,v11+1,(y244:(List Int)),R,(S19.tr S25).wk R,f26,hn27,by omega,by omega,hk22⟩,(ha.mm R)⟩
 rintro _ w12 ⟨K13,s3,rfl,S14,f15,hn16,rfl⟩
 have h:=hK10
 dsimp only[aft]at h
 refine Jp (Je [2,2] R (Jb 2 R (Ju (Ja2 (l:=[.tmp 2]) V88 (Jp2 R R) R ?_))))
 cases h
 exact⟨(fun b=>ren [(3,2)] (K13 b)),a8,u8,(by simp only[hn16]),((hE.stp (S3.tr (S7.tr S14)) R R).map (ren [(3,2)]) R R),(f15.map (ren [(3,2)]) R R)⟩
theorem i_markOf_ok {w:World}{κ:Col}{af ac ad ae}{p0:Arena}{a1 u1}{p1:(List Int)}(g0_0:Rd (Rp.int .i64) κ w 0 af ac p0.Owner) (g0_1:Rd (Rp.sl (Rp.int .i64)) κ w 0 ad ae p0.Next) (g1:Rd (Rp.int .i64) κ w 0 a1 u1 p1){r:(List Bool)}(h:i_markOf p0 p1=some r):Ret Tryz.prog 46 [.agg #[.slice af p0.Owner.length ac,.slice ad p0.Next.length ae],.slice a1 p1.length u1] w (fun v w'=>∃(κ':Col) (ra0:Option Addr) (ru0:Nat),v= .slice ra0 r.length ru0∧Ent κ w κ' w'∧Oc Ep.bool 4 κ' w' 2 ra0 ru0 r):=by
 unfold i_markOf at h
 refine Ret.enter F46 R N46 R ?_
 dsimp only[envOf]
 have hE:=Ent.refl κ w
 refine Je [1,2] R (Jf1 (κ:=κ) 2 R R R R R R R fun b2 w1 K2 S3 f4=>⟨tv,Jb 1 R (Je [2,1,2,1,2] R (Jf R (Jb2 U37 R Z22 R R) (Jl tv R R R R (Jc2 I22 R R (hvE (f4.ld 0 R R))) (Jf R (Je2 U22 R R) (Ob h fun x11 hx11 h=>Jl1 (κ:=K2) (E:=Ep.bool) (z:=(false:Bool)) 3 R R R R R R R Y70 Tryzinfo4 R R R R R (fun _ _ _=>R) (Ju2 hx11) fun ab aa w5 K6 S7 f8=>⟨tv,Jb 1 R (Jq (Je [2,2,2] R (Jn 1 R (Jf R (Je2 U22 R R) (Jb 1 R ?_)))))⟩)))))⟩)
 have hN9:(p1.length:Int)≤9223372036854775807:=g1.len_le
 refine Ob h fun q2 hq11 hK10=>?_
 clear h
 refine Jx1 (fun L w'=>∃κ',∃s3:(List Bool),L=[(5,.slice ab x11.length aa)]∧Stp [3] K6 w5 κ' w'∧Oc Ep.bool 4 κ' w' 3 ab aa s3∧x11.length=s3.length∧q2=Sum.inr s3) ?_ ?_
 refine Jv (Jy1 (fun k L w'=>∃κ' v14,∃s1:(List Bool),L=[(5,.slice ab x11.length aa),(12,.slice a1 p1.length u1),(13,vi (p1.length:Int)),(14,vi v14)]∧Stp [3] K6 w5 κ' w'∧Oc Ep.bool 4 κ' w' 3 ab aa s1∧x11.length=s1.length∧0≤v14∧Int.toNat ((p1.length:Int)-v14)=k∧cntM (i_markOf_b0 p1) k v14 s1=some q2) ⟨_,_,⟨K6,0,(x11:(List Bool)),R,(Jx2 _ _).wk R,f8,R,(by decide),(by simp),hq11⟩,(KM R)⟩ ?_)
 rintro k _ w17 ⟨K18,v14,s1,rfl,S19,f20,hn21,hj9,hJ9,h⟩
 rcases k with _ | k
 have hk22:=h;obtain⟨o9,h⟩:=ex_eq (Sum.inr (Sum.inl s1):(List Bool)⊕(((List Bool))⊕((List Bool))))
 have hc9:decide (v14<(p1.length:Int))=false:=Jo2 (by omega)
 refine Je [2] R (Jb 1 R (Jq (Jw2 R hc9 (Jc1 (Jt (Jt ?_))))))
 cases h
 have h:=hk22
 refine Jb1 ?_
 cases h
 exact Jw1 _ ⟨K18,(s1:(List Bool)),R,S19.wk R,f20,hn21,R⟩ (KM R)
 obtain⟨o9,h,hk22⟩:=BI h;unfold i_markOf_b0 at h
 have hc9:decide (v14<(p1.length:Int))=true:=Jn2 (by omega)
 refine Je [2] R (Jb 1 R (Jq (Jv2 R hc9 (Js (Jp (Jq (Jv (Je [2,1,2] R (Ob h fun x16 hx16 h=>Jf R (Jf2 g1 hx16 U22 Z2 R R R R) (Jl tv R R R R (Jc2 I2 R R (hvE ((g1.stp (S3.tr (S7.tr S19)) R R).gInt hx16))) (Jb 1 R (Ja [2,2,2,1] R (Jn 2 R (Ob h fun x20 hx20 h=>Jf R (Jf2 f20.rdc hx20 U70 Z4 R R hn21 R) (Ob h fun y250 hy250 h=>Jk1 (κ:=K18) (E:=Ep.bool) 3 [] R R R R R R R R Z4 R R R R f20 hy250 fun w24 K25 S26 f27=>⟨tv,?_⟩)))))))))))))))
 have hn28:x11.length=y250.length:=hn21.trans (Jt2 hy250).2.2.2.symm
 refine Jo (Jz (Jp (Ja [2,2] R (Jc 2 R ?_))))
 have hw9:IntKind.wrap .i64 (v14+1)=v14+1:=wr1 hj9 (Jm2 hc9) hN9
 rw[hw9]
 have hc9:=Jm2 hc9
 cases h
 exact Jz1 fun a ha=>⟨k,_,Ja3 _,⟨K25,v14+1,(y250:(List Bool)),R,(S19.tr S26).wk R,f27,hn28,by omega,by omega,hk22⟩,(ha.mm R)⟩
 rintro _ w12 ⟨K13,s3,rfl,S14,f15,hn16,rfl⟩
 have h:=hK10
 dsimp only[aft]at h
 refine Jp (Je [2,2] R (Jb 2 R (Ju (Ja2 (l:=[.tmp 4]) V46 (Jp2 R R) R ?_))))
 cases h
 exact⟨(fun b=>ren [(3,2)] (K13 b)),ab,aa,(by simp only[hn16]),((hE.stp (S3.tr (S7.tr S14)) R R).map (ren [(3,2)]) R R),(f15.map (ren [(3,2)]) R R)⟩
theorem i_topIn_ok {w:World}{κ:Col}{aa af ab ac ad ae}{p0:Parity}{a1 u1}{p1:(List Int)}(g0_0_0:Rd (Rp.int .i64) κ w 0 aa af p0.Arena.Owner) (g0_0_1:Rd (Rp.sl (Rp.int .i64)) κ w 0 ab ac p0.Arena.Next) (g0_1:Rd (Rp.int .i64) κ w 0 ad ae p0.Prio) (g1:Rd (Rp.int .i64) κ w 0 a1 u1 p1){r:Int}(h:i_topIn p0 p1=some r):Ret Tryz.prog 152 [.agg #[.slice aa p0.Arena.Owner.length af,.slice ab p0.Arena.Next.length ac,.slice ad p0.Prio.length ae],.slice a1 p1.length u1] w (fun v w'=>∃(κ':Col),v=vi r∧Ent κ w κ' w'):=by
 unfold i_topIn at h
 refine Ret.enter F152 R N152 R ?_
 dsimp only[envOf]
 have hE:=Ent.refl κ w
 refine Je [1,2] R (Jf1 (κ:=κ) 2 R R R R R R R fun b2 w1 K2 S3 f4=>⟨tv,Jb 1 R (Je [2] R (Jb 1 R (Jq (Je [2,2,2] R (Jn 1 R (Jf R (Je2 U22 R R) (Jb 1 R ?_)))))))⟩)
 have hN5:(p1.length:Int)≤9223372036854775807:=g1.len_le
 refine Ob h fun q2 hq7 hK6=>?_
 clear h
 refine Jx1 (fun L w'=>∃κ' s3,L=[(5,vi s3)]∧Stp [] K2 w1 κ' w'∧q2=Sum.inr s3) ?_ ?_
 refine Jv (Jy1 (fun k L w'=>∃κ' v10 s1,L=[(2,.pointer (some ⟨b2,0,none⟩)),(5,vi s1),(8,.slice a1 p1.length u1),(9,vi (p1.length:Int)),(10,vi v10)]∧Stp [] K2 w1 κ' w'∧0≤v10∧Int.toNat ((p1.length:Int)-v10)=k∧cntM (i_topIn_b0 p0 p1) k v10 s1=some q2) ⟨_,_,⟨K2,0,((-1):Int),R,(Jx2 _ _).wk R,(by decide),(by simp),hq7⟩,(KM R)⟩ ?_)
 rintro k _ w11 ⟨K12,v10,s1,rfl,S13,hj5,hJ5,h⟩
 rcases k with _ | k
 have hk14:=h;obtain⟨o5,h⟩:=ex_eq (Sum.inr (Sum.inl s1):Int⊕((Int)⊕(Int)))
 have hc5:decide (v10<(p1.length:Int))=false:=Jo2 (by omega)
 refine Je [2] R (Jb 1 R (Jq (Jw2 R hc5 (Jc1 (Jt (Jt ?_))))))
 cases h
 have h:=hk14
 refine Jb1 ?_
 cases h
 exact Jw1 _ ⟨K12,(s1:Int),R,S13.wk R,R⟩ (KM R)
 obtain⟨o5,h,hk14⟩:=BI h;unfold i_topIn_b0 at h
 have hc5:decide (v10<(p1.length:Int))=true:=Jn2 (by omega)
 refine Je [2] R (Jb 1 R (Jq (Jv2 R hc5 (Js (Jp (Jq (Jv (Je [2,1,2] R (Ob h fun x12 hx12 h=>Jf R (Jf2 g1 hx12 U22 Z2 R R R R) (Jl tv R R R R (Jc2 I2 R R (hvE ((g1.stp (S3.tr S13) R R).gInt hx12))) (Jb 1 R (Ja [2,2,1,2,2,1,2,2] R (Jn 1 R (Jf R (Jb2 U39 R Z22 R R) (Jl tv R R R R (Jc2 I22 R R (hvE ((f4.stp S13 R R).ld 2 R R))) (Jn 1 R (Ob h fun x18 hx18 h=>Jf R (Jf2 g0_1 hx18 U22 Z2 R R R R) (Jl tv R R R R (Jc2 I2 R R (hvE ((g0_1.stp (S3.tr S13) R R).gInt hx18))) (Jf R (rn_max R R R) (Jc 1 R (Jz (Jp (Ja [2,2] R (Jc 2 R ?_))))))))))))))))))))))))
 have hw5:IntKind.wrap .i64 (v10+1)=v10+1:=wr1 hj5 (Jm2 hc5) hN5
 rw[hw5]
 have hc5:=Jm2 hc5
 cases h
 exact Jz1 fun a ha=>⟨k,_,Ja3 _,⟨K12,v10+1,((if s1<x18 then x18 else s1):Int),R,S13.wk R,by omega,by omega,hk14⟩,(ha.mm R)⟩
 rintro _ w8 ⟨K9,s3,rfl,S10,rfl⟩
 have h:=hK6
 dsimp only[aft]at h
 refine Jp (Je [2,2] R (Jb 2 R (Ju (Ja2 (l:=[.tmp 4]) V152 (Jp2 R R) R ?_))))
 cases h
 exact⟨K9,R,(hE.stp (S3.tr S10) R R)⟩
theorem s_RegionOf_ok {w:World}{κ:Col}{ak ah ai aj}{p0:Answer}{p1:Int}(g0_0:Rd (Rp.int .i64) κ w 0 ak ah p0.Won) (g0_1:Rd (Rp.int .i64) κ w 0 ai aj p0.Plan){r:(List Int)}(h:s_RegionOf p0 p1=some r):Ret Tryz.prog 64 [.agg #[.slice ak p0.Won.length ah,.slice ai p0.Plan.length aj],vi p1] w (fun v w'=>∃(κ':Col) (ra0:Option Addr) (ru0:Nat),v= .slice ra0 r.length ru0∧Ent κ w κ' w'∧Oc E6 2 κ' w' 2 ra0 ru0 r):=by
 unfold s_RegionOf at h
 refine Ret.enter F64 R N64 R ?_
 dsimp only[envOf]
 have hE:=Ent.refl κ w
 refine Je [1,2] R (Jf1 (κ:=κ) 2 R R R R R R R fun b2 w1 K2 S3 f4=>⟨tv,Jb 1 R (Je [1,2] R (Jo1 (κ:=K2) (E:=E6) 3 R R R R R Y22 Tryzinfo2 R fun a7 u7 w5 K6 S7 f8=>⟨tv,Jb 1 R (Jq (Je [2] R (Jb 1 R (Ob h fun q2 hq11 hK10=>?_))))⟩))⟩)
 clear h
 refine Jx1 (fun L w'=>∃κ',∃s3:(List Int)×Int,∃ae ad,L=[(5,.slice ae s3.1.length ad)]∧Stp [3] K6 w5 κ' w'∧Oc E6 2 κ' w' 3 ae ad s3.1∧q2=Sum.inr s3) ?_ ?_
 refine Jv (Jy1 (fun k L w'=>∃κ',∃s1:(List Int)×Int,∃ab aa,L=[(1,vi p1),(2,.pointer (some ⟨b2,0,none⟩)),(5,.slice ab s1.1.length aa),(6,vi s1.2)]∧Stp [3] K6 w5 κ' w'∧Oc E6 2 κ' w' 3 ab aa s1.1∧whileM (s_RegionOf_b0 p0 p1) k s1=some q2) ⟨_,_,⟨K6,((([]:List Int):(List Int)),(0:Int)),a7,u7,R,(Jx2 _ _).wk R,f8,hq11⟩,(KM R)⟩ ?_)
 rintro k _ w16 ⟨K17,s1,ab,aa,rfl,S18,f19,h⟩
 rcases k with _ | k
 cases h
 obtain⟨o9,h,hk20⟩:=BI h;unfold s_RegionOf_b0 at h
 refine Jq (Je [2,2,1,2,2,2,2,1,2,2,2] R (Jn 1 R (Jf R (Jb2 U34 R Z22 R R) ?_)))
 have f21:=f4.stp (S7.tr S18) R R
 refine Jl tv R R R R (Jc2 I22 R R (hvE (f21.ld 0 R R))) (Jf R (Je2 U22 R R) (Jn 2 R (Ob h fun p18 h hK22=>Ju1 [(6,2),(7,1),(8,2),(9,2),(10,2)] [] (fun L w'=>L=[(1,vi p1),(2,.pointer (some ⟨b2,0,none⟩)),(5,.slice ab s1.1.length aa),(6,vi s1.2),(18,.bool p18)]∧∃κ',Stp [] K17 w16 κ' w') tv ?_ ?_)))
 revert h
 cases ht23:decide (s1.2<(p0.Won.length:Int))
 refine JF fun h=>Jn 1 R (Jd1 R R R R (Jn 3 R ?_))
 cases h
 exact Jv1 _ tv ⟨R,_,(Jx2 _ _).wk R⟩ (KM R)
 refine JT fun h=>Jf R (Jb2 U34 R Z22 R R) (Jl tv R R R R (Jc2 I22 R R (hvE (f21.ld 0 R R))) (Jf R (Je2 U22 R R) (Jn 2 R ?_)))
 cases h
 exact Jv1 _ tv ⟨R,_,(Jx2 _ _).wk R⟩ (KM R)
 rintro _ w24 _ ⟨rfl,K25,S26⟩
 have h:=hK22
 refine Jd ?_
 revert h
 cases ht27:p18
 refine JF fun h=>Jy R (Jc1 (Jt (Jt ?_)))
 cases h
 have h:=hk20
 refine Jb1 ?_
 cases h
 exact Jw1 _ ⟨K25,((s1.1:(List Int)),(s1.2:Int)),ab,aa,R,(S18.tr S26).wk R,(f19.stp S26 R R),R⟩ (KM R)
 refine JT fun h=>Jx R (Js (Jp (Jq (Jv (Je [2,1,2,2,1,2,2] R (Jf R (Jb2 U34 R Z22 R R) (Jl tv R R R R (Jc2 I22 R R (hvE ((f21.stp S26 R R).ld 0 R R))) (Jn 1 R (Ob h fun x24 hx24 h=>Jf R (Jf2 g0_0 hx24 U22 Z2 R R R R) (Jl tv R R R R (Jc2 I2 R R (hvE ((g0_0.stp (S3.tr (S7.tr (S18.tr S26))) R R).gInt hx24))) (Jb 2 R (Ob h fun q4 h hK30=>Jx1 (fun L w'=>∃κ' af ac,L=[(1,vi p1),(2,.pointer (some ⟨b2,0,none⟩)),(5,.slice af q4.length ac),(6,vi s1.2)]∧Stp [3] K25 w24 κ' w'∧Oc E6 2 κ' w' 3 af ac q4) ?_ ?_))))))))))))
 revert h
 cases ht35:(x24==p1)
 refine JF fun h=>Jy R (Js ?_)
 cases h
 exact Jw1 _ ⟨K25,ab,aa,R,(Jx2 _ _).wk R,(f19.stp S26 R R)⟩ (KM R)
 refine JT fun h=>Jx R (Ja [2,2,1,1,2] R (Jn 2 R (Jn1 (κ:=K25) (E:=E6) 4 [] (parts:=[(0,.tmp 29)]) (cells:=[vi s1.2]) (xs:=([s1.2]:List Int)) R R R R R R Y22 Tryzinfo2 R R R R R R R R R R ⟨[vi s1.2],[],Zl K25 w24 [],Zl K25 w24 [],R,Zl.sp (l1:=[]) (l2:=[]) R,Zl.sr (l1:=[]) (l2:=[]),R,R⟩ fun an ao w36 K37 S38 f39=>⟨tv,Ob h fun x31 hx31 h=>Jm1 (κ:=K37) (E:=E6) 3 [] R R R R R R R R R Y22 Tryzinfo2 R R R R (f19.stp (S26.tr S38) R R) (Sl.srcP (pu_int _) f39.rdc) sy_false hx31 R fun am al w41 K42 S43 f44=>⟨tv,Jc 1 R ?_⟩⟩)))
 cases h
 exact Jw1 _ ⟨K42,am,al,R,(S38.tr S43).wk R,f44⟩ (KM R)
 rintro _ w31 ⟨K32,af,ac,rfl,S33,f34⟩
 have h:=hK30
 refine Jz (Jp (Ja [2,2,2] R (Jc 3 R ?_)))
 cases h
 exact Jz1 fun a ha=>⟨k,_,Ja3 _,⟨K32,((q4:(List Int)),((IntKind.i64.wrap (s1.2+1)):Int)),af,ac,R,(S18.tr (S26.tr S33)).wk R,f34,hk20⟩,(ha.mm R)⟩
 rintro _ w12 ⟨K13,s3,ae,ad,rfl,S14,f15,rfl⟩
 have h:=hK10
 dsimp only[aft]at h
 refine Jp (Je [2,2] R (Jb 2 R (Ju (Ja2 (l:=[.tmp 4]) V64 (Jp2 R R) R ?_))))
 cases h
 exact⟨(fun b=>ren [(3,2)] (K13 b)),ae,ad,R,((hE.stp (S3.tr (S7.tr S14)) R R).map (ren [(3,2)]) R R),(f15.map (ren [(3,2)]) R R)⟩
theorem s_l6Part_ok {w:World}{κ:Col}{am al ai ao ap ah}{p0:Parity}{ak aq an aj}{p1:Answer}{p2:Int}(g0_0_0:Rd (Rp.int .i64) κ w 0 am al p0.Arena.Owner) (g0_0_1:Rd (Rp.sl (Rp.int .i64)) κ w 0 ai ao p0.Arena.Next) (g0_1:Rd (Rp.int .i64) κ w 0 ap ah p0.Prio) (g1_0:Rd (Rp.int .i64) κ w 0 ak aq p1.Won) (g1_1:Rd (Rp.int .i64) κ w 0 an aj p1.Plan){r:(List Int)}(h:s_l6Part p0 p1 p2=some r):Ret Tryz.prog 65 [.agg #[.slice am p0.Arena.Owner.length al,.slice ai p0.Arena.Next.length ao,.slice ap p0.Prio.length ah],.agg #[.slice ak p1.Won.length aq,.slice an p1.Plan.length aj],vi p2] w (fun v w'=>∃(κ':Col) (ra0:Option Addr) (ru0:Nat),v= .slice ra0 r.length ru0∧Ent κ w κ' w'∧Oc E6 2 κ' w' 2 ra0 ru0 r):=by
 unfold s_l6Part at h
 refine Ret.enter F65 R N65 R ?_
 dsimp only[envOf]
 have hE:=Ent.refl κ w
 refine Je [1,1,2] R (Jf1 (κ:=κ) 2 R R R R R R R fun b3 w1 K2 S3 f4=>⟨tv,Jf1 (κ:=K2) 3 R R R R R R R fun b4 w5 K6 S7 f8=>⟨tv,Jb 1 R (Je [1,2] R (Jo1 (κ:=K6) (E:=E6) 4 R R R R R Y22 Tryzinfo2 R fun a9 u9 w9 K10 S11 f12=>⟨tv,Jb 1 R (Jq (Je [2] R (Jb 1 R ?_)))⟩))⟩⟩)
 have hN13:(p1.Plan.length:Int)≤9223372036854775807:=g1_1.len_le
 refine Ob h fun q2 hq15 hK14=>?_
 clear h
 refine Jx1 (fun L w'=>∃κ',∃s3:(List Int),∃ae aa,L=[(7,.slice ae s3.length aa)]∧Stp [4] K10 w9 κ' w'∧Oc E6 2 κ' w' 4 ae aa s3∧q2=Sum.inr s3) ?_ ?_
 refine Jv (Jy1 (fun k L w'=>∃κ' v8,∃s1:(List Int),∃af ad,L=[(2,vi p2),(3,.pointer (some ⟨b3,0,none⟩)),(4,.pointer (some ⟨b4,0,none⟩)),(7,.slice af s1.length ad),(8,vi v8)]∧Stp [4] K10 w9 κ' w'∧Oc E6 2 κ' w' 4 af ad s1∧0≤v8∧Int.toNat ((p1.Plan.length:Int)-v8)=k∧cntM (s_l6Part_b0 p0 p1 p2) k v8 s1=some q2) ⟨_,_,⟨K10,0,(([]:List Int):(List Int)),a9,u9,R,(Jx2 _ _).wk R,f12,(by decide),(by simp),hq15⟩,(KM R)⟩ ?_)
 rintro k _ w20 ⟨K21,v8,s1,af,ad,rfl,S22,f23,hj13,hJ13,h⟩
 rcases k with _ | k
 have hk24:=h;obtain⟨o13,h⟩:=ex_eq (Sum.inr (Sum.inl s1):(List Int)⊕(((List Int))⊕((List Int))))
 have hc13:decide (v8<(p1.Plan.length:Int))=false:=Jo2 (by omega)
 refine Jq (Je [2,2,1,2,2] R (Jn 1 R (Jf R (Jb2 U34 R Z22 R R) (Jl tv R R R R (Jc2 I22 R R (hvE ((f8.stp (S11.tr S22) R R).ld 1 R R))) (Jf R (Je2 U22 R R) (Jb 1 R (Jw2 R hc13 (Jc1 (Jt (Jt ?_))))))))))
 cases h
 have h:=hk24
 refine Jb1 ?_
 cases h
 exact Jw1 _ ⟨K21,(s1:(List Int)),af,ad,R,S22.wk R,f23,R⟩ (KM R)
 obtain⟨o13,h,hk24⟩:=BI h;unfold s_l6Part_b0 at h
 have hc13:decide (v8<(p1.Plan.length:Int))=true:=Jn2 (by omega)
 refine Jq (Je [2,2,1,2,2] R (Jn 1 R (Jf R (Jb2 U34 R Z22 R R) ?_)))
 have f26:=f8.stp (S11.tr S22) R R
 refine Jl tv R R R R (Jc2 I22 R R (hvE (f26.ld 1 R R))) (Jf R (Je2 U22 R R) (Jb 1 R (Jv2 R hc13 (Js (Jp (Jq (Jv (Je [2,2,1,2,2,1,2,2] R (Jf R (Jb2 U39 R Z37 R R) (Jf R (Jb2 U37 R Z22 R R) (Jl tv R R R R (Jc2 I22 R R (hvE ((f4.stp (S7.tr (S11.tr S22)) R R).ld 0 R R))) (Jn 1 R (Ob h fun x21 hx21 h=>Jf R (Jf2 g0_0_0 hx21 U22 Z2 R R R R) (Jl tv R R R R (Jc2 I2 R R (hvE ((g0_0_0.stp (S3.tr (S7.tr (S11.tr S22))) R R).gInt hx21))) (Jb 2 R (Ob h fun q4 h hK29=>Jx1 (fun L w'=>∃κ' ab ac,L=[(2,vi p2),(3,.pointer (some ⟨b3,0,none⟩)),(4,.pointer (some ⟨b4,0,none⟩)),(7,.slice ab q4.length ac),(8,vi v8)]∧Stp [4] K21 w20 κ' w'∧Oc E6 2 κ' w' 4 ab ac q4) ?_ ?_))))))))))))))))
 revert h
 cases ht34:(x21==p2)
 refine JF fun h=>Jy R (Ja [2,1,1,2] R (Jn 1 R (Jn1 (κ:=K21) (E:=E6) 5 [] (parts:=[(0,.const (vi (-1)))]) (cells:=[vi (-1)]) (xs:=([(-1)]:List Int)) R R R R R R Y22 Tryzinfo2 R R R R R R R R R R ⟨[vi (-1)],[],Zl K21 w20 [],Zl K21 w20 [],R,Zl.sp (l1:=[]) (l2:=[]) R,Zl.sr (l1:=[]) (l2:=[]),R,R⟩ fun ax ay w45 K46 S47 f48=>⟨tv,Ob h fun x35 hx35 h=>Jm1 (κ:=K46) (E:=E6) 4 [] R R R R R R R R R Y22 Tryzinfo2 R R R R (f23.stp S47 R R) (Sl.srcP (pu_int _) f48.rdc) sy_false hx35 R fun aw ar w50 K51 S52 f53=>⟨tv,Jc 1 R ?_⟩⟩)))
 cases h
 exact Jw1 _ ⟨K51,aw,ar,R,(S47.tr S52).wk R,f53⟩ (KM R)
 refine JT fun h=>Jx R (Ja [2,2,1,2,2,1,1,1,2] R (Jn 1 R (Jf R (Jb2 U34 R Z22 R R) (Jl tv R R R R (Jc2 I22 R R (hvE (f26.ld 1 R R))) (Jn 1 R (Ob h fun x29 hx29 h=>Jf R (Jf2 g1_1 hx29 U22 Z2 R R R R) (Jl tv R R R R (Jc2 I2 R R (hvE ((g1_1.stp (S3.tr (S7.tr (S11.tr S22))) R R).gInt hx29))) (Jn1 (κ:=K21) (E:=E6) 5 [] (parts:=[(0,.tmp 30)]) (cells:=[vi x29]) (xs:=([x29]:List Int)) R R R R R R Y22 Tryzinfo2 R R R R R R R R R R ⟨[vi x29],[],Zl K21 w20 [],Zl K21 w20 [],R,Zl.sp (l1:=[]) (l2:=[]) R,Zl.sr (l1:=[]) (l2:=[]),R,R⟩ fun az aA w36 K37 S38 f39=>⟨tv,Ob h fun x32 hx32 h=>Jm1 (κ:=K37) (E:=E6) 4 [] R R R R R R R R R Y22 Tryzinfo2 R R R R (f23.stp S38 R R) (Sl.srcP (pu_int _) f39.rdc) sy_false hx32 R fun av au w41 K42 S43 f44=>⟨tv,Jc 1 R ?_⟩⟩))))))))
 cases h
 exact Jw1 _ ⟨K42,av,au,R,(S38.tr S43).wk R,f44⟩ (KM R)
 rintro _ w30 ⟨K31,ab,ac,rfl,S32,f33⟩
 have h:=hK29
 refine Jz (Jp (Ja [2,2,2] R (Jc 3 R ?_)))
 have hw13:IntKind.wrap .i64 (v8+1)=v8+1:=wr1 hj13 (Jm2 hc13) hN13
 rw[hw13]
 have hc13:=Jm2 hc13
 cases h
 exact Jz1 fun a ha=>⟨k,_,Ja3 _,⟨K31,v8+1,(q4:(List Int)),ab,ac,R,(S22.tr S32).wk R,f33,by omega,by omega,hk24⟩,(ha.mm R)⟩
 rintro _ w16 ⟨K17,s3,ae,aa,rfl,S18,f19,rfl⟩
 have h:=hK14
 dsimp only[aft]at h
 refine Jp (Je [2,2] R (Jb 2 R (Ju (Ja2 (l:=[.tmp 6]) V65 (Jp2 R R) R ?_))))
 cases h
 exact⟨(fun b=>ren [(4,2)] (K17 b)),ae,aa,R,((hE.stp (S3.tr (S7.tr (S11.tr S18))) R R).map (ren [(4,2)]) R R),(f19.map (ren [(4,2)]) R R)⟩
theorem s_l6Edges_ok {w:World}{κ:Col}{am aj ak ah}{p0:Arena}{a1 u1}{p1:(List Int)}(g0_0:Rd (Rp.int .i64) κ w 0 am aj p0.Owner) (g0_1:Rd (Rp.sl (Rp.int .i64)) κ w 0 ak ah p0.Next) (g1:Rd (Rp.int .i64) κ w 0 a1 u1 p1){r:(List (List Int))}(h:s_l6Edges p0 p1=some r):Ret Tryz.prog 156 [.agg #[.slice am p0.Owner.length aj,.slice ak p0.Next.length ah],.slice a1 p1.length u1] w (fun v w'=>∃(κ':Col) (ra0:Option Addr) (ru0:Nat),v= .slice ra0 r.length ru0∧Ent κ w κ' w'∧Oc (Ep.fz (Rp.sl (Rp.int .i64))) 22 κ' w' 2 ra0 ru0 r):=by
 unfold s_l6Edges at h
 refine Ret.enter F156 R N156 R ?_
 dsimp only[envOf]
 have hE:=Ent.refl κ w
 refine Je [1,2] R (Jf1 (κ:=κ) 2 R R R R R R R fun b2 w1 K2 S3 f4=>⟨tv,Jb 1 R (Je [1,2] R (Jo1 (κ:=K2) (E:=(Ep.fz (Rp.sl (Rp.int .i64)))) 3 R R R R R Y23 Tryzinfo22 R fun a7 u7 w5 K6 S7 f8=>⟨tv,Jb 1 R (Jq (Je [2] R (Jb 1 R ?_)))⟩))⟩)
 have hN9:(p0.Next.length:Int)≤9223372036854775807:=g0_1.len_le
 refine Ob h fun q2 hq11 hK10=>?_
 clear h
 refine Jx1 (fun L w'=>∃κ',∃s3:(List (List Int)),∃ae aa,L=[(5,.slice ae s3.length aa)]∧Stp [3,4,5] K6 w5 κ' w'∧Oc (Ep.fz (Rp.sl (Rp.int .i64))) 22 κ' w' 3 ae aa s3∧q2=Sum.inr s3) ?_ ?_
 refine Jv (Jy1 (fun k L w'=>∃κ' v6,∃s1:(List (List Int)),∃af ad,L=[(1,.slice a1 p1.length u1),(2,.pointer (some ⟨b2,0,none⟩)),(5,.slice af s1.length ad),(6,vi v6)]∧Stp [3,4,5] K6 w5 κ' w'∧Oc (Ep.fz (Rp.sl (Rp.int .i64))) 22 κ' w' 3 af ad s1∧0≤v6∧Int.toNat ((p0.Next.length:Int)-v6)=k∧cntM (s_l6Edges_b0 p0 p1) k v6 s1=some q2) ⟨_,_,⟨K6,0,(([]:List (List Int)):(List (List Int))),a7,u7,R,(Jx2 _ _).wk R,f8,(by decide),(by simp),hq11⟩,(KM R)⟩ ?_)
 rintro k _ w16 ⟨K17,v6,s1,af,ad,rfl,S18,f19,hj9,hJ9,h⟩
 rcases k with _ | k
 have hk20:=h;obtain⟨o9,h⟩:=ex_eq (Sum.inr (Sum.inl s1):(List (List Int))⊕(((List (List Int)))⊕((List (List Int)))))
 have hc9:decide (v6<(p0.Next.length:Int))=false:=Jo2 (by omega)
 refine Jq (Je [2,2,1,2,2] R (Jn 1 R (Jf R (Jb2 U37 R Z23 R R) (Jl tv R R R R (Jc2 I23 R R (hvE ((f4.stp (S7.tr S18) R R).ld 1 R R))) (Jf R (Je2 U23 R R) (Jb 1 R (Jw2 R hc9 (Jc1 (Jt (Jt ?_))))))))))
 cases h
 have h:=hk20
 refine Jb1 ?_
 cases h
 exact Jw1 _ ⟨K17,(s1:(List (List Int))),af,ad,R,S18.wk R,f19,R⟩ (KM R)
 obtain⟨o9,h,hk20⟩:=BI h;unfold s_l6Edges_b0 at h
 have hc9:decide (v6<(p0.Next.length:Int))=true:=Jn2 (by omega)
 refine Jq (Je [2,2,1,2,2] R (Jn 1 R (Jf R (Jb2 U37 R Z23 R R) ?_)))
 have f22:=f4.stp (S7.tr S18) R R
 refine Jl tv R R R R (Jc2 I23 R R (hvE (f22.ld 1 R R))) (Jf R (Je2 U23 R R) (Jb 1 R (Jv2 R hc9 (Js (Jp (Jq (Jv (Je [2,2,2,1,2] R (Jn 2 R (Ob h fun x17 hx17 h=>Jf R (Jf2 g1 hx17 U22 Z2 R R R R) ?_))))))))))
 have f23:=g1.stp (S3.tr (S7.tr S18)) R R
 refine Jl tv R R R R (Jc2 I2 R R (hvE (f23.gInt hx17))) (Jb 1 R (Ob h fun q4 h hK24=>Jx1 (fun L w'=>∃κ' ab ac,L=[(1,.slice a1 p1.length u1),(2,.pointer (some ⟨b2,0,none⟩)),(5,.slice ab q4.length ac),(6,vi v6)]∧Stp [3,4,5] K17 w16 κ' w'∧Oc (Ep.fz (Rp.sl (Rp.int .i64))) 22 κ' w' 3 ab ac q4) ?_ ?_))
 revert h
 cases ht29:decide (0≤x17)
 refine JF fun h=>Jy R (Ja [2,2,1,2,2,1,1,1,2] R (Jn 1 R (Jf R (Jb2 U37 R Z23 R R) (Jl tv R R R R (Jc2 I23 R R (hvE (f22.ld 1 R R))) (Jn 1 R (Ob h fun x32 hx32 h=>Jf R (Jf2 g0_1 hx32 U23 Z22 R R R R) ?_))))))
 obtain⟨ax32,ux32,f48,hl49⟩:=(g0_1.stp (S3.tr (S7.tr S18)) R R).gSl hx32
 refine Jl tv R R R R (Jc2 I22 R R (hvE hl49)) (Jn1 (κ:=K17) (E:=(Ep.fz (Rp.sl (Rp.int .i64)))) 4 [] (parts:=[(0,.tmp 33)]) (cells:=[.slice ax32 x32.length ux32]) (xs:=([x32]:List (List Int))) R R R R R R Y23 Tryzinfo22 R R R R R R R R R R ⟨[.slice ax32 x32.length ux32],[],Zl K17 w16 [],Zl K17 w16 [],R,Zl.sp (l1:=[]) (l2:=[]) R,Zl.sr (l1:=[]) (l2:=[]),⟨_,_,R,(Sl.z1 f48)⟩,R⟩ fun au av w50 K51 S52 f53=>⟨tv,Ob h fun x35 hx35 h=>Jm1 (κ:=K51) (E:=(Ep.fz (Rp.sl (Rp.int .i64)))) 3 [4] R R R R R R R R R Y23 Tryzinfo22 R R R R (f19.stp S52 R R) f53.src (sy_one R) hx35 R fun ao an w55 K56 S57 f58=>⟨tv,Jc 1 R ?_⟩⟩)
 cases h
 exact Jw1 _ ⟨K56,ao,an,R,(S52.tr S57).wk R,f58⟩ (KM R)
 refine JT fun h=>Jx R (Ja [2,2,2,2,1,1,1,1,2] R (Jn 3 R (Ob h fun x23 hx23 h=>Jf R (Jf2 f23 hx23 U22 Z2 R R R R) (Jl tv R R R R (Jc2 I2 R R (hvE (f23.gInt hx23))) (Jn1 (κ:=K17) (E:=E6) 4 [] (parts:=[(0,.tmp 24)]) (cells:=[vi x23]) (xs:=([x23]:List Int)) R R R R R R Y22 Tryzinfo2 R R R R R R R R R R ⟨[vi x23],[],Zl K17 w16 [],Zl K17 w16 [],R,Zl.sp (l1:=[]) (l2:=[]) R,Zl.sr (l1:=[]) (l2:=[]),R,R⟩ fun al ai w30 K31 S32 f33=>⟨tv,?_⟩)))))
 obtain⟨K34,S35,z36⟩:=fz_ex K31 w30 4
 refine Jn1 (κ:=K34) (E:=(Ep.fz (Rp.sl (Rp.int .i64)))) 5 [] (parts:=[(0,.tmp 25)]) (cells:=[.slice al ([x23]:List Int).length ai]) (xs:=([([x23]:List Int)]:List (List Int))) R R R R R R Y23 Tryzinfo22 R R R R R R R R R R ⟨[.slice al ([x23]:List Int).length ai],[],Zl K34 w30 [],Zl K34 w30 [],R,Zl.sp (l1:=[]) (l2:=[]) R,Zl.sr (l1:=[]) (l2:=[]),⟨_,_,R,(Sl.z1 (Sl.st z36 f33.rdc))⟩,R⟩ fun ar aw w38 K39 S40 f41=>⟨tv,Ob h fun x27 hx27 h=>Jm1 (κ:=K39) (E:=(Ep.fz (Rp.sl (Rp.int .i64)))) 3 [5] R R R R R R R R R Y23 Tryzinfo22 R R R R (f19.stp (S32.tr (S35.tr S40)) R R) f41.src (sy_one R) hx27 R fun aq ap w43 K44 S45 f46=>⟨tv,Jc 1 R ?_⟩⟩
 cases h
 exact Jw1 _ ⟨K44,aq,ap,R,(S32.tr (S35.tr (S40.tr S45))).wk R,f46⟩ (KM R)
 rintro _ w25 ⟨K26,ab,ac,rfl,S27,f28⟩
 have h:=hK24
 refine Jz (Jp (Ja [2,2,2] R (Jc 3 R ?_)))
 have hw9:IntKind.wrap .i64 (v6+1)=v6+1:=wr1 hj9 (Jm2 hc9) hN9
 rw[hw9]
 have hc9:=Jm2 hc9
 cases h
 exact Jz1 fun a ha=>⟨k,_,Ja3 _,⟨K26,v6+1,(q4:(List (List Int))),ab,ac,R,(S18.tr S27).wk R,f28,by omega,by omega,hk20⟩,(ha.mm R)⟩
 rintro _ w12 ⟨K13,s3,ae,aa,rfl,S14,f15,rfl⟩
 have h:=hK10
 dsimp only[aft]at h
 refine Jp (Je [2,2] R (Jb 2 R (Ju (Ja2 (l:=[.tmp 4]) V156 (Jp2 R R) R ?_))))
 cases h
 exact⟨(fun b=>ren [(3,2)] (K13 b)),ae,aa,R,((hE.stp (S3.tr (S7.tr S14)) R R).map (ren [(3,2)]) R R),(f15.map (ren [(3,2)]) R R)⟩
end Go.Proofs.YtmiilifclnanlaaGreat
