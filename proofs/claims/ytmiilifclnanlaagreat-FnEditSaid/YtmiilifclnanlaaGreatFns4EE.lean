/- The walks, part 4. By program. -/
import Derived.Test.YtmiilifclnanlaaGreatFns0EE
import Derived.Test.YtmiilifclnanlaaGreatFns1EE
import Derived.Test.YtmiilifclnanlaaGreatFns2EE
set_option linter.unusedVariables false
set_option linter.unusedSimpArgs false
namespace Go.Proofs.YtmiilifclnanlaaGreat
open Go Go.Wk Go.Proofs
set_option maxRecDepth 100000
set_option maxHeartbeats 1000000
theorem s_l1CopyArena_ok {w:World}{κ:Col}{ao ak al am}{p0:Arena}(g0_0:Rd (Rp.int .i64) κ w 0 ao ak p0.Owner) (g0_1:Rd (Rp.sl (Rp.int .i64)) κ w 0 al am p0.Next){r:Arena}(h:s_l1CopyArena p0=some r):Ret Tryz.prog 113 [.agg #[.slice ao p0.Owner.length ak,.slice al p0.Next.length am]] w (fun v w'=>∃(κ':Col) (ra0:Option Addr) (ru0:Nat) (ra1:Option Addr) (ru1:Nat),v= .agg #[.slice ra0 r.Owner.length ru0,.slice ra1 r.Next.length ru1]∧Ent κ w κ' w'∧Oc E6 2 κ' w' 2 ra0 ru0 r.Owner∧Oc (Ep.fz (Rp.sl (Rp.int .i64))) 22 κ' w' 3 ra1 ru1 r.Next):=by
 unfold s_l1CopyArena at h
 refine Ret.enter F113 R N113 R ?_
 dsimp only[envOf]
 have hE:=Ent.refl κ w
 refine Je [1,1] R (Jf1 (κ:=κ) 2 R R R R R R R fun b1 w1 K2 S3 f4=>⟨tv,Jg1 (κ:=K2) 3 R R R R R X37 R fun b2 w5 K6 S7 f8=>⟨tv,Jd (Je [2,1,1,2,1,1] R (Jf R (Jb2 U37 R Z22 R R) ?_))⟩⟩)
 have f9:=f4.stp S7 R R
 refine Jl tv R R R R (Jc2 I22 R R (hvE (f9.ld 0 R R))) (Ob h fun x7 hx7 h=>Jh R R R C114 (s_l1Copy_ok (κ:=fun b=>mp [] 0 (K6 b)) (Jl2 (g0_0.stp (S3.tr S7) R R) (mp [] 0) R R) hx7) ?_)
 rintro _ w11 ⟨k12,ab,aa,rfl,e13,f14⟩
 obtain⟨K15,S16,m17⟩:=Ji e13 4 R
 refine⟨tv,Jf R (rn_build (parts:=[(0,.tmp 7)]) (cells:=[.slice ab x7.length aa,.slice none 0 0]) R R (by kernel_rfl)) (Jg1 (κ:=K15) 7 R R R R R X37 R fun b3 w20 K21 S22 f23=>⟨tv,Jj1 (κ:=K21) 7 (vc:=[.slice ab x7.length aa,.slice none 0 0]) R R R R R R R Z37 R R f23 R fun w24 S25 f26=>⟨tv,Jd (Jq (Je [2] R (Jb 1 R ?_)))⟩⟩)⟩
 have hN27:(p0.Next.length:Int)≤9223372036854775807:=g0_1.len_le
 refine Ob h fun q2 hq29 hK28=>?_
 clear h
 refine Jx1 (fun L w'=>∃κ',∃s3:(List (List Int)),∃ad ac,L=[(2,.pointer (some ⟨b2,0,none⟩)),(3,.pointer (some ⟨b3,0,none⟩))]∧Stp [7,8,11,12] K21 w24 κ' w'∧Oc (Ep.fz (Rp.sl (Rp.int .i64))) 22 κ' w' 8 ad ac s3∧Bc κ' w' 7 b3 37 [.slice ab x7.length aa,.slice ad s3.length ac]∧q2=Sum.inr s3) ?_ ?_
 refine Jv (Jy1 (fun k L w'=>∃κ' v4,∃s1:(List (List Int)),∃af ae,L=[(1,.pointer (some ⟨b1,0,none⟩)),(2,.pointer (some ⟨b2,0,none⟩)),(3,.pointer (some ⟨b3,0,none⟩)),(4,vi v4)]∧Stp [7,8,11,12] K21 w24 κ' w'∧Oc (Ep.fz (Rp.sl (Rp.int .i64))) 22 κ' w' 8 af ae s1∧Bc κ' w' 7 b3 37 [.slice ab x7.length aa,.slice af s1.length ae]∧0≤v4∧Int.toNat ((p0.Next.length:Int)-v4)=k∧cntM (s_l1CopyArena_b0 p0) k v4 s1=some q2) ⟨_,_,⟨K21,0,(([]:List (List Int)):(List (List Int))),none,0,R,(Jx2 _ _).wk R,Ow.nil,f26,(by decide),(by simp),hq29⟩,(KM R)⟩ ?_)
 rintro k _ w35 ⟨K36,v4,s1,af,ae,rfl,S37,f38,f39,hj27,hJ27,h⟩
 rcases k with _ | k
 have hk40:=h;obtain⟨o27,h⟩:=ex_eq (Sum.inr (Sum.inl s1):Arena⊕(((List (List Int)))⊕((List (List Int)))))
 have hc27:decide (v4<(p0.Next.length:Int))=false:=Jo2 (by omega)
 refine Jq (Je [2,2,1,2,2] R (Jn 1 R (Jf R (Jb2 U37 R Z23 R R) (Jl tv R R R R (Jc2 I23 R R (hvE ((f9.stp (S16.tr (S22.tr (S25.tr S37))) R R).ld 1 R R))) (Jf R (Je2 U23 R R) (Jb 1 R (Jw2 R hc27 (Jc1 (Jt (Jt ?_))))))))))
 cases h
 have h:=hk40
 refine Jb1 ?_
 cases h
 exact Jw1 _ ⟨K36,(s1:(List (List Int))),af,ae,R,S37.wk R,f38,f39,R⟩ (KM R)
 obtain⟨o27,h,hk40⟩:=BI h;unfold s_l1CopyArena_b0 at h
 have hc27:decide (v4<(p0.Next.length:Int))=true:=Jn2 (by omega)
 refine Jq (Je [2,2,1,2,2] R (Jn 1 R (Jf R (Jb2 U37 R Z23 R R) ?_)))
 have f42:=f9.stp (S16.tr (S22.tr (S25.tr S37))) R R
 refine Jl tv R R R R (Jc2 I23 R R (hvE (f42.ld 1 R R))) (Jf R (Je2 U23 R R) (Jb 1 R (Jv2 R hc27 (Js (Jp (Jq (Jv (Js1 (κ:=K36) [0,2,7] (some 11) [(0,2),(2,2),(4,2),(1,0),(3,0),(5,2),(6,0),(7,1),(8,1),(9,1),(10,2)] [(11,1)] (by kernel_rfl) (by kernel_rfl) fun w44 S43=>Jf R (Jb2 U37 R Z23 R R) (Jf R (Jb2 U37 R Z23 R R) (Jn 1 R ?_))))))))))
 have f45:=f39.stp S43 R R
 refine Jg R (Jc2 I23 R R (hvC (f45.ld 1 R R) R)) (Jg R (Jc2 I23 R R (hvC ((f42.stp S43 R R).ld 1 R R) R)) (Ob h fun x21 hx21 h=>Jf R (Jf2 g0_1 hx21 U23 Z22 R R R R) ?_))
 obtain⟨ax21,ux21,f48,hl49⟩:=(g0_1.stp (S3.tr (S7.tr (S16.tr (S22.tr (S25.tr (S37.tr S43)))))) R R).gSl hx21
 refine Jg R (Jc2 I22 R R (hvC hl49 R)) (Ob h fun x23 hx23 h=>Jh R R R C114 (s_l1Copy_ok (κ:=fun b=>mp [] 0 (K36 b)) (Jl2 f48 (mp [] 0) R R) hx23) ?_)
 rintro _ w50 ⟨k51,an,aj,rfl,e52,f53⟩
 obtain⟨K54,S55,m56⟩:=Ji e52 9 R
 refine⟨(S55.cl R),?_⟩
 obtain⟨K59,S60,z61⟩:=fz_ex K54 w50 11
 refine Jn1 (κ:=K59) (E:=(Ep.fz (Rp.sl (Rp.int .i64)))) 12 [] (parts:=[(0,.tmp 23)]) (cells:=[.slice an x23.length aj]) (xs:=([x23]:List (List Int))) R R R R R R Y23 Tryzinfo22 R R R R R R R R R R ⟨[.slice an x23.length aj],[],Zl K59 w50 [],Zl K59 w50 [],R,Zl.sp (l1:=[]) (l2:=[]) R,Zl.sr (l1:=[]) (l2:=[]),⟨_,_,R,(Sl.z1 (Sl.st z61 (f53.mx (no_int _) m56 R (R:9+2=11)).rdc))⟩,R⟩ fun ap aq w63 K64 S65 f66=>⟨((S55.tr (S60.tr S65)).cl R),Ob h fun x25 hx25 h=>Jm1 (κ:=K64) (E:=(Ep.fz (Rp.sl (Rp.int .i64)))) 8 [12] R R R R R R R R R Y23 Tryzinfo22 R R R R (f38.stp (S43.tr (S55.tr (S60.tr S65))) R R) f66.src (sy_one R) hx25 R fun ai ah w68 K69 S70 f71=>⟨((S55.tr (S60.tr (S65.tr S70))).cl R),Jf R (Jb2 U37 R Z23 R R) (Jt1 (Ji1 (κ:=K69) 7 (off:=1) (vc:=[.slice ai x25.length ah]) (cs':=[.slice ab x7.length aa,.slice ai x25.length ah]) R R R R R R R Z23 R R (f45.stp (S55.tr (S60.tr (S65.tr S70))) R R) R R fun w73 S74 f75=>⟨tv,Jo (Jz (Jp (Ja [2,2,2] R (Jc 3 R ?_))))⟩))⟩⟩
 have hw27:IntKind.wrap .i64 (v4+1)=v4+1:=wr1 hj27 (Jm2 hc27) hN27
 rw[hw27]
 have hc27:=Jm2 hc27
 cases h
 exact Jz1 fun a ha=>⟨k,_,Ja3 _,⟨K69,v4+1,(x25:(List (List Int))),ai,ah,R,(S37.tr (S43.tr (S55.tr (S60.tr (S65.tr (S70.tr S74)))))).wk R,(f71.stp S74 R R),f75,by omega,by omega,hk40⟩,(ha.mm R)⟩
 rintro _ w30 ⟨K31,s3,ad,ac,rfl,S32,f33,f34,rfl⟩
 have h:=hK28
 dsimp only[aft]at h
 refine Jp (Je [1,1] R (Jl tv R R R R (Jd2 (cs:=[.slice ab x7.length aa,.slice ad s3.length ac]) I37 Z37 R R R (haE f34.cells)) (Jj1 (κ:=K31) 3 (vc:=[.slice ab x7.length aa,.slice ad s3.length ac]) R R R R R R R Z37 R R (f8.stp (S16.tr (S22.tr (S25.tr S32))) R R) R fun w78 S79 f80=>⟨tv,Jd (Ju (Ja2 (l:=[.cell 2 37]) V113 (res_cellA R f80 I37 Z37 R R) R ?_))⟩)))
 cases h
 exact⟨(fun b=>ren [(6,2),(8,3)] (K31 b)),ab,aa,ad,ac,R,((hE.stp (S3.tr (S7.tr (S16.tr (S22.tr (S25.tr (S32.tr S79)))))) R R).map (ren [(6,2),(8,3)]) R R),(((f14.mx (no_int _) m17 R (R:4+2=6)).stp (S22.tr (S25.tr (S32.tr S79))) R R).map (ren [(6,2),(8,3)]) R R),((f33.stp S79 R R).map (ren [(6,2),(8,3)]) R R)⟩
theorem s_l7Top_ok {w:World}{κ:Col}{ak aa ac af ad aj ab ah ai ae}{p0:l7Game}{a1 u1}{p1:(List Bool)}(g0_0:Rd (Rp.int .i64) κ w 0 ak aa p0.owner) (g0_1:Rd (Rp.int .i64) κ w 0 ac af p0.prio) (g0_2:Rd (Rp.sl (Rp.int .i64)) κ w 0 ad aj p0.next) (g0_3:Rd (Rp.sl (Rp.int .i64)) κ w 0 ab ah p0.prev) (g0_4:Rd (Rp.int .i64) κ w 0 ai ae p0.pick) (g1:Rd Rp.bool κ w 0 a1 u1 p1){r:Int}(h:s_l7Top p0 p1=some r):Ret Tryz.prog 149 [.agg #[.slice ak p0.owner.length aa,.slice ac p0.prio.length af,.slice ad p0.next.length aj,.slice ab p0.prev.length ah,.slice ai p0.pick.length ae],.slice a1 p1.length u1] w (fun v w'=>∃(κ':Col),v=vi r∧Ent κ w κ' w'):=by
 unfold s_l7Top at h
 refine Ret.enter F149 R N149 R ?_
 dsimp only[envOf]
 have hE:=Ent.refl κ w
 refine Je [1,2] R (Jf1 (κ:=κ) 2 R R R R R R R fun b2 w1 K2 S3 f4=>⟨tv,Jb 1 R (Je [2] R (Jb 1 R (Jq (Je [2] R (Jb 1 R ?_)))))⟩)
 have hN5:(p1.length:Int)≤9223372036854775807:=g1.len_le
 refine Ob h fun q2 hq7 hK6=>?_
 clear h
 refine Jx1 (fun L w'=>∃κ' s3,L=[(5,vi s3)]∧Stp [] K2 w1 κ' w'∧q2=Sum.inr s3) ?_ ?_
 refine Jv (Jy1 (fun k L w'=>∃κ' v6 s1,L=[(1,.slice a1 p1.length u1),(2,.pointer (some ⟨b2,0,none⟩)),(5,vi s1),(6,vi v6)]∧Stp [] K2 w1 κ' w'∧0≤v6∧Int.toNat ((p1.length:Int)-v6)=k∧cntM (s_l7Top_b0 p0 p1) k v6 s1=some q2) ⟨_,_,⟨K2,0,((-1):Int),R,(Jx2 _ _).wk R,(by decide),(by simp),hq7⟩,(KM R)⟩ ?_)
 rintro k _ w11 ⟨K12,v6,s1,rfl,S13,hj5,hJ5,h⟩
 rcases k with _ | k
 have hk14:=h;obtain⟨o5,h⟩:=ex_eq (Sum.inr (Sum.inl s1):Int⊕((Int)⊕(Int)))
 have hc5:decide (v6<(p1.length:Int))=false:=Jo2 (by omega)
 refine Jq (Je [2,2,2,2] R (Jn 2 R (Jf R (Je2 U70 R R) (Jb 1 R (Jw2 R hc5 (Jc1 (Jt (Jt ?_))))))))
 cases h
 have h:=hk14
 refine Jb1 ?_
 cases h
 exact Jw1 _ ⟨K12,(s1:Int),R,S13.wk R,R⟩ (KM R)
 obtain⟨o5,h,hk14⟩:=BI h;unfold s_l7Top_b0 at h
 have hc5:decide (v6<(p1.length:Int))=true:=Jn2 (by omega)
 refine Jq (Je [2,2,2,2] R (Jn 2 R (Jf R (Je2 U70 R R) (Jb 1 R (Jv2 R hc5 (Js (Jp (Jq (Jv (Je [2,2,2,1] R (Jn 2 R (Ob h fun x15 hx15 h=>Jf R (Jf2 g1 hx15 U70 Z4 R R R R) (Jl tv R R R R (Jc2 I4 R R (hvE ((g1.stp (S3.tr S13) R R).gBool hx15))) (Jd (Ob h fun q4 h hK16=>Jx1 (fun L w'=>∃κ',L=[(1,.slice a1 p1.length u1),(2,.pointer (some ⟨b2,0,none⟩)),(5,vi q4),(6,vi v6)]∧Stp [] K12 w11 κ' w') ?_ ?_)))))))))))))))
 revert h
 cases ht20:x15
 refine JF fun h=>Jy R (Js ?_)
 cases h
 exact Jw1 _ ⟨K12,R,(Jx2 _ _).wk R⟩ (KM R)
 refine JT fun h=>Jx R (Ja [2,2,1,2,2,1,1,2] R (Jn 1 R (Jf R (Jb2 U111 R Z22 R R) (Jl tv R R R R (Jc2 I22 R R (hvE ((f4.stp S13 R R).ld 1 R R))) (Jn 1 R (Ob h fun x21 hx21 h=>Jf R (Jf2 g0_1 hx21 U22 Z2 R R R R) (Jl tv R R R R (Jc2 I2 R R (hvE ((g0_1.stp (S3.tr S13) R R).gInt hx21))) (Ob h fun x23 hx23 h=>Jh R R R C171 (s_l1Max_ok (κ:=fun b=>mp [] 0 (K12 b)) hx23) ?_))))))))
 rintro _ w23 ⟨k24,rfl,e25⟩
 obtain⟨K26,S27,m28⟩:=Ji e25 3 R
 refine⟨tv,Jc 1 R ?_⟩
 cases h
 exact Jw1 _ ⟨K26,R,S27.wk R⟩ (KM R)
 rintro _ w17 ⟨K18,rfl,S19⟩
 have h:=hK16
 refine Jz (Jp (Ja [2,2,2] R (Jc 3 R ?_)))
 have hw5:IntKind.wrap .i64 (v6+1)=v6+1:=wr1 hj5 (Jm2 hc5) hN5
 rw[hw5]
 have hc5:=Jm2 hc5
 cases h
 exact Jz1 fun a ha=>⟨k,_,Ja3 _,⟨K18,v6+1,(q4:Int),R,(S13.tr S19).wk R,by omega,by omega,hk14⟩,(ha.mm R)⟩
 rintro _ w8 ⟨K9,s3,rfl,S10,rfl⟩
 have h:=hK6
 dsimp only[aft]at h
 refine Jp (Je [2,2] R (Jb 2 R (Ju (Ja2 (l:=[.tmp 4]) V149 (Jp2 R R) R ?_))))
 cases h
 exact⟨K9,R,(hE.stp (S3.tr S10) R R)⟩
theorem s_l7Degree_ok {w:World}{κ:Col}{ak aa ac af ad aj ab ah ai ae}{p0:l7Game}{a1 u1}{p1:(List Bool)}{p2:Int}(g0_0:Rd (Rp.int .i64) κ w 0 ak aa p0.owner) (g0_1:Rd (Rp.int .i64) κ w 0 ac af p0.prio) (g0_2:Rd (Rp.sl (Rp.int .i64)) κ w 0 ad aj p0.next) (g0_3:Rd (Rp.sl (Rp.int .i64)) κ w 0 ab ah p0.prev) (g0_4:Rd (Rp.int .i64) κ w 0 ai ae p0.pick) (g1:Rd Rp.bool κ w 0 a1 u1 p1){r:Int}(h:s_l7Degree p0 p1 p2=some r):Ret Tryz.prog 172 [.agg #[.slice ak p0.owner.length aa,.slice ac p0.prio.length af,.slice ad p0.next.length aj,.slice ab p0.prev.length ah,.slice ai p0.pick.length ae],.slice a1 p1.length u1,vi p2] w (fun v w'=>∃(κ':Col),v=vi r∧Ent κ w κ' w'):=by
 unfold s_l7Degree at h
 refine Ret.enter F172 R N172 R ?_
 dsimp only[envOf]
 have hE:=Ent.refl κ w
 refine Je [1,2] R (Jf1 (κ:=κ) 2 R R R R R R R fun b3 w1 K2 S3 f4=>⟨tv,Jb 1 R (Je [2] R (Jb 1 R (Jq (Je [2] R (Jb 1 R (Ob h fun q2 hq7 hK6=>?_))))))⟩)
 clear h
 refine Jx1 (fun L w'=>∃κ',∃s3:Int×Int,L=[(7,vi s3.1)]∧Stp [] K2 w1 κ' w'∧q2=Sum.inr s3) ?_ ?_
 refine Jv (Jy1 (fun k L w'=>∃κ',∃s1:Int×Int,L=[(1,.slice a1 p1.length u1),(2,vi p2),(3,.pointer (some ⟨b3,0,none⟩)),(7,vi s1.1),(8,vi s1.2)]∧Stp [] K2 w1 κ' w'∧whileM (s_l7Degree_b0 p0 p1 p2) k s1=some q2) ⟨_,_,⟨K2,((0:Int),(0:Int)),R,(Jx2 _ _).wk R,hq7⟩,(KM R)⟩ ?_)
 rintro k _ w11 ⟨K12,s1,rfl,S13,h⟩
 rcases k with _ | k
 cases h
 obtain⟨o5,h,hk14⟩:=BI h;unfold s_l7Degree_b0 at h
 refine Jq (Je [2,2,1,2,2,1,2,2] R (Jn 1 R (Jf R (Jb2 U111 R Z23 R R) ?_)))
 have f15:=f4.stp S13 R R
 refine Jl tv R R R R (Jc2 I23 R R (hvE (f15.ld 2 R R))) (Jn 1 R (Ob h fun x14 hx14 h=>Jf R (Jf2 g0_2 hx14 U23 Z22 R R R R) ?_))
 have f16:=g0_2.stp (S3.tr S13) R R
 obtain⟨ax14,ux14,f17,hl18⟩:=f16.gSl hx14
 refine Jl tv R R R R (Jc2 I22 R R (hvE hl18)) (Jf R (Je2 U22 R R) (Jb 1 R ?_))
 revert h
 cases ht19:decide (s1.2<(x14.length:Int))
 refine JF fun h=>Jy R (Jc1 (Jt (Jt ?_)))
 cases h
 have h:=hk14
 refine Jb1 ?_
 cases h
 exact Jw1 _ ⟨K12,((s1.1:Int),(s1.2:Int)),R,S13.wk R,R⟩ (KM R)
 refine JT fun h=>Jx R (Js (Jp (Jq (Jv (Je [2,1,2,2,1,2,2,1,2] R (Jf R (Jb2 U111 R Z23 R R) (Jl tv R R R R (Jc2 I23 R R (hvE (f15.ld 2 R R))) (Jn 1 R (Ob h fun x23 hx23 h=>Jf R (Jf2 f16 hx23 U23 Z22 R R R R) ?_)))))))))
 obtain⟨ax23,ux23,f20,hl21⟩:=f16.gSl hx23
 refine Jl tv R R R R (Jc2 I22 R R (hvE hl21)) (Jn 1 R (Ob h fun x26 hx26 h=>Jf R (Jf2 f20 hx26 U22 Z2 R R R R) (Jl tv R R R R (Jc2 I2 R R (hvE (f20.gInt hx26))) (Jb 1 R (Je [2,2,2,1,2,1,2,2,1,2] R (Jn 2 R (Ob h fun x30 hx30 h=>Jf R (Jf2 g1 hx30 U70 Z4 R R R R) (Jl tv R R R R (Jc2 I4 R R (hvE ((g1.stp (S3.tr S13) R R).gBool hx30))) (Jn 1 R (Ob h fun p37 h hK23=>Ju1 [(5,1),(6,2),(7,2),(8,1),(9,2)] [] (fun L w'=>L=[(1,.slice a1 p1.length u1),(2,vi p2),(3,.pointer (some ⟨b3,0,none⟩)),(7,vi s1.1),(8,vi s1.2),(37,.bool p37)]∧∃κ',Stp [] K12 w11 κ' w') tv ?_ ?_))))))))))
 revert h
 cases ht24:x30
 refine JF fun h=>Jd1 R R R R (Jn 2 R (Jd1 R R R R (Jn 1 R ?_)))
 cases h
 exact Jv1 _ tv ⟨R,_,(Jx2 _ _).wk R⟩ (KM R)
 have S001:=(S3.tr S13)
 refine JT fun h=>Jl tv R R R R (Jd2 (cs:=[.slice ak p0.owner.length aa,.slice ac p0.prio.length af,.slice ad p0.next.length aj,.slice ab p0.prev.length ah,.slice ai p0.pick.length ae]) I111 Z111 R R R (haE f15.cells)) (Jn 2 R (Ob h fun x36 hx36 h=>Jh R R R C173 (s_l7Edge_ok (κ:=fun b=>mp [] 0 (K12 b)) (p0:=p0) (Jl2 (g0_0.stp S001 R R) (mp [] 0) R R) (Jl2 (g0_1.stp S001 R R) (mp [] 0) R R) (Jl2 f16 (mp [] 0) R R) (Jl2 (g0_3.stp S001 R R) (mp [] 0) R R) (Jl2 (g0_4.stp S001 R R) (mp [] 0) R R) hx36) ?_))
 rintro _ w29 ⟨k30,rfl,e31⟩
 obtain⟨K32,S33,m34⟩:=Ji e31 3 R
 refine⟨tv,Jn 1 R ?_⟩
 cases h
 exact Jv1 _ tv ⟨R,_,S33.wk R⟩ (KM R)
 rintro _ w36 _ ⟨rfl,K37,S38⟩
 have h:=hK23
 refine Jd (Ob h fun q4 h hK39=>Jx1 (fun L w'=>∃κ',L=[(1,.slice a1 p1.length u1),(2,vi p2),(3,.pointer (some ⟨b3,0,none⟩)),(7,vi q4),(8,vi s1.2)]∧Stp [] K37 w36 κ' w') ?_ ?_)
 revert h
 cases ht43:p37
 refine JF fun h=>Jy R (Js ?_)
 cases h
 exact Jw1 _ ⟨K37,R,(Jx2 _ _).wk R⟩ (KM R)
 refine JT fun h=>Jx R (Ja [2,2,2] R (Jc 3 R ?_))
 cases h
 exact Jw1 _ ⟨K37,R,(Jx2 _ _).wk R⟩ (KM R)
 rintro _ w40 ⟨K41,rfl,S42⟩
 have h:=hK39
 refine Jz (Jp (Ja [2,2,2] R (Jc 3 R ?_)))
 cases h
 exact Jz1 fun a ha=>⟨k,_,Ja3 _,⟨K41,((q4:Int),((IntKind.i64.wrap (s1.2+1)):Int)),R,(S13.tr (S38.tr S42)).wk R,hk14⟩,(ha.mm R)⟩
 rintro _ w8 ⟨K9,s3,rfl,S10,rfl⟩
 have h:=hK6
 dsimp only[aft]at h
 refine Jp (Je [2,2] R (Jb 2 R (Ju (Ja2 (l:=[.tmp 6]) V172 (Jp2 R R) R ?_))))
 cases h
 exact⟨K9,R,(hE.stp (S3.tr S10) R R)⟩
theorem i_partOf_ok {w:World}{κ:Col}{ae ai af ah aj ak}{p0:Parity}{al am ac ad}{p1:Answer}{p2:Int}(g0_0_0:Rd (Rp.int .i64) κ w 0 ae ai p0.Arena.Owner) (g0_0_1:Rd (Rp.sl (Rp.int .i64)) κ w 0 af ah p0.Arena.Next) (g0_1:Rd (Rp.int .i64) κ w 0 aj ak p0.Prio) (g1_0:Rd (Rp.int .i64) κ w 0 al am p1.Won) (g1_1:Rd (Rp.int .i64) κ w 0 ac ad p1.Plan){r:(List Int)}(h:i_partOf p0 p1 p2=some r):Ret Tryz.prog 83 [.agg #[.slice ae p0.Arena.Owner.length ai,.slice af p0.Arena.Next.length ah,.slice aj p0.Prio.length ak],.agg #[.slice al p1.Won.length am,.slice ac p1.Plan.length ad],vi p2] w (fun v w'=>∃(κ':Col) (ra0:Option Addr) (ru0:Nat),v= .slice ra0 r.length ru0∧Ent κ w κ' w'∧Oc E6 2 κ' w' 2 ra0 ru0 r):=by
 unfold i_partOf at h
 refine Ret.enter F83 R N83 R ?_
 dsimp only[envOf]
 have hE:=Ent.refl κ w
 refine Je [1,1,2] R (Jf1 (κ:=κ) 2 R R R R R R R fun b3 w1 K2 S3 f4=>⟨tv,Jf1 (κ:=K2) 3 R R R R R R R fun b4 w5 K6 S7 f8=>⟨tv,Jb 1 R (Je [2,1,1,2] R (Jf R (Jb2 U39 R Z37 R R) ?_))⟩⟩)
 have f9:=f4.stp S7 R R
 refine Jl tv R R R R (Jd2 (cs:=[.slice ae p0.Arena.Owner.length ai,.slice af p0.Arena.Next.length ah]) I37 Z37 R R R (haE (f9.lds 0 2 R))) (Ob h fun x12 hx12 h=>?_)
 have f10:=g0_0_0.stp (S3.tr S7) R R
 refine Jh R R R C88 (i_noPlan_ok (κ:=fun b=>mp [] 0 (K6 b)) (p0:=p0.Arena) (Jl2 f10 (mp [] 0) R R) (Jl2 (g0_0_1.stp (S3.tr S7) R R) (mp [] 0) R R) hx12) ?_
 rintro _ w12 ⟨k13,ab,aa,rfl,e14,f15⟩
 obtain⟨K16,S17,m18⟩:=Ji e14 4 R
 refine⟨tv,Jb 1 R (Jq (Je [2,1,2,2] R (Jf R (Jb2 U34 R Z22 R R) (Jl tv R R R R (Jc2 I22 R R (hvE ((f8.stp S17 R R).ld 1 R R))) (Jf R (Je2 U22 R R) (Jb 1 R ?_))))))⟩
 have hN22:(p1.Plan.length:Int)≤9223372036854775807:=g1_1.len_le
 refine Ob h fun q2 hq24 hK23=>?_
 clear h
 refine Jx1 (fun L w'=>∃κ',∃s3:(List Int),L=[(7,.slice ab x12.length aa)]∧Stp [6] K16 w12 κ' w'∧Oc E6 2 κ' w' 6 ab aa s3∧x12.length=s3.length∧q2=Sum.inr s3) ?_ ?_
 refine Jv (Jy1 (fun k L w'=>∃κ' v16,∃s1:(List Int),L=[(2,vi p2),(3,.pointer (some ⟨b3,0,none⟩)),(7,.slice ab x12.length aa),(14,.slice ac p1.Plan.length ad),(15,vi (p1.Plan.length:Int)),(16,vi v16)]∧Stp [6] K16 w12 κ' w'∧Oc E6 2 κ' w' 6 ab aa s1∧x12.length=s1.length∧0≤v16∧Int.toNat ((p1.Plan.length:Int)-v16)=k∧cntM (i_partOf_b0 p0 p1 p2) k v16 s1=some q2) ⟨_,_,⟨K16,0,(x12:(List Int)),R,(Jx2 _ _).wk R,(f15.mx (no_int _) m18 R (R:4+2=6)),R,(by decide),(by simp),hq24⟩,(KM R)⟩ ?_)
 rintro k _ w30 ⟨K31,v16,s1,rfl,S32,f33,hn34,hj22,hJ22,h⟩
 rcases k with _ | k
 have hk35:=h;obtain⟨o22,h⟩:=ex_eq (Sum.inr (Sum.inl s1):(List Int)⊕(((List Int))⊕((List Int))))
 have hc22:decide (v16<(p1.Plan.length:Int))=false:=Jo2 (by omega)
 refine Je [2] R (Jb 1 R (Jq (Jw2 R hc22 (Jc1 (Jt (Jt ?_))))))
 cases h
 have h:=hk35
 refine Jb1 ?_
 cases h
 exact Jw1 _ ⟨K31,(s1:(List Int)),R,S32.wk R,f33,hn34,R⟩ (KM R)
 obtain⟨o22,h,hk35⟩:=BI h;unfold i_partOf_b0 at h
 have hc22:decide (v16<(p1.Plan.length:Int))=true:=Jn2 (by omega)
 refine Je [2] R (Jb 1 R (Jq (Jv2 R hc22 (Js (Jp (Jq (Jv (Je [2,2,1,2,2] R (Jn 1 R (Ob h fun x19 hx19 h=>Jf R (Jf2 g1_1 hx19 U22 Z2 R R R R) (Jl tv R R R R (Jc2 I2 R R (hvE ((g1_1.stp (S3.tr (S7.tr (S17.tr S32))) R R).gInt hx19))) (Jb 2 R (Je [2,2,1,2,2,1,2,2] R (Jf R (Jb2 U39 R Z37 R R) (Jf R (Jb2 U37 R Z22 R R) (Jl tv R R R R (Jc2 I22 R R (hvE ((f9.stp (S17.tr S32) R R).ld 0 R R))) (Jn 1 R (Ob h fun x25 hx25 h=>Jf R (Jf2 f10 hx25 U22 Z2 R R R R) (Jl tv R R R R (Jc2 I2 R R (hvE ((f10.stp (S17.tr S32) R R).gInt hx25))) (Jb 2 R (Ob h fun q4 h hK39=>Jx1 (fun L w'=>∃κ',L=[(2,vi p2),(3,.pointer (some ⟨b3,0,none⟩)),(7,.slice ab x12.length aa),(14,.slice ac p1.Plan.length ad),(15,vi (p1.Plan.length:Int)),(16,vi v16)]∧Stp [6] K31 w30 κ' w'∧Oc E6 2 κ' w' 6 ab aa q4∧x12.length=q4.length) ?_ ?_)))))))))))))))))))))
 revert h
 cases ht45:(x25==p2)
 refine JF fun h=>Jy R (Js ?_)
 cases h
 exact Jw1 _ ⟨K31,R,(Jx2 _ _).wk R,f33,hn34⟩ (KM R)
 refine JT fun h=>Jx R (Ja [2,2,2,2,1] R (Jn 3 R (Ob h fun x32 hx32 h=>Jf R (Jf2 f33.rdc hx32 U22 Z2 R R hn34 R) (Ob h fun y245 hy245 h=>Jk1 (κ:=K31) (E:=E6) 6 [] R R R R R R R R Z2 R R R R f33 hy245 fun w46 K47 S48 f49=>⟨tv,?_⟩))))
 have hn50:x12.length=y245.length:=hn34.trans (Jt2 hy245).2.2.2.symm
 refine Jo ?_
 cases h
 exact Jw1 _ ⟨K47,R,S48.wk R,f49,hn50⟩ (KM R)
 rintro _ w40 ⟨K41,rfl,S42,f43,hn44⟩
 have h:=hK39
 refine Jz (Jp (Ja [2,2] R (Jc 2 R ?_)))
 have hw22:IntKind.wrap .i64 (v16+1)=v16+1:=wr1 hj22 (Jm2 hc22) hN22
 rw[hw22]
 have hc22:=Jm2 hc22
 cases h
 exact Jz1 fun a ha=>⟨k,_,Ja3 _,⟨K41,v16+1,(q4:(List Int)),R,(S32.tr S42).wk R,f43,hn44,by omega,by omega,hk35⟩,(ha.mm R)⟩
 rintro _ w25 ⟨K26,s3,rfl,S27,f28,hn29,rfl⟩
 have h:=hK23
 dsimp only[aft]at h
 refine Jp (Je [2,2] R (Jb 2 R (Ju (Ja2 (l:=[.tmp 6]) V83 (Jp2 R R) R ?_))))
 cases h
 exact⟨(fun b=>ren [(6,2)] (K26 b)),ab,aa,(by simp only[hn29]),((hE.stp (S3.tr (S7.tr (S17.tr S27))) R R).map (ren [(6,2)]) R R),(f28.map (ren [(6,2)]) R R)⟩
theorem i_reachIn_ok {w:World}{κ:Col}{aq an ao am}{p0:Arena}{a1 u1}{p1:(List Bool)}{a2 u2}{p2:(List Bool)}(g0_0:Rd (Rp.int .i64) κ w 0 aq an p0.Owner) (g0_1:Rd (Rp.sl (Rp.int .i64)) κ w 0 ao am p0.Next) (g1:Rd Rp.bool κ w 0 a1 u1 p1) (g2:Rd Rp.bool κ w 0 a2 u2 p2){r:(List Bool)}(h:i_reachIn p0 p1 p2=some r):Ret Tryz.prog 142 [.agg #[.slice aq p0.Owner.length an,.slice ao p0.Next.length am],.slice a1 p1.length u1,.slice a2 p2.length u2] w (fun v w'=>∃(κ':Col) (ra0:Option Addr) (ru0:Nat),v= .slice ra0 r.length ru0∧Ent κ w κ' w'∧Oc Ep.bool 4 κ' w' 2 ra0 ru0 r):=by
 unfold i_reachIn at h
 refine Ret.enter F142 R N142 R ?_
 dsimp only[envOf]
 have hE:=Ent.refl κ w
 refine Je [1,2] R (Jf1 (κ:=κ) 2 R R R R R R R fun b3 w1 K2 S3 f4=>⟨tv,Jb 1 R (Je [1,2,1,2] R (Jo1 (κ:=K2) (E:=Ep.bool) 3 R R R R R Y70 Tryzinfo4 R fun aA ay w5 K6 S7 f8=>⟨tv,Jn 1 R (Ob h fun x14 hx14 h=>?_)⟩))⟩)
 have f9:=g1.stp (S3.tr S7) R R
 refine Jm1 (κ:=K6) (E:=Ep.bool) 3 [] R R R R R R R R R Y70 Tryzinfo4 R R R R f8 (Sl.srcP pu_bool f9) sy_false hx14 R fun ab aa w10 K11 S12 f13=>⟨tv,Jb 1 R (Je [2,1,2] R (Jn 1 R (Ob h fun x16 hx16 h=>Jh R R R C60 (i_listOf_ok (κ:=fun b=>mp [] 0 (K11 b)) (Jl2 (f9.stp S12 R R) (mp [] 0) R R) hx16) ?_)))⟩
 rintro _ w15 ⟨k16,aw,av,rfl,e17,f18⟩
 obtain⟨K19,S20,m21⟩:=Ji e17 4 R
 refine⟨tv,Jb 1 R (Jq (Ob h fun q2 hq26 hK25=>?_))⟩
 clear h
 refine Jx1 (fun L w'=>∃κ',∃s3:(List Int)×(List Bool),∃ap al,L=[(7,.slice ab x14.length aa)]∧Stp [3,6] K19 w15 κ' w'∧Oc E6 2 κ' w' 6 ap al s3.1∧Oc Ep.bool 4 κ' w' 3 ab aa s3.2∧x14.length=s3.2.length∧q2=Sum.inr s3) ?_ ?_
 refine Jv (Jy1 (fun k L w'=>∃κ',∃s1:(List Int)×(List Bool),∃af ac,L=[(2,.slice a2 p2.length u2),(3,.pointer (some ⟨b3,0,none⟩)),(7,.slice ab x14.length aa),(8,.slice af s1.1.length ac)]∧Stp [3,6] K19 w15 κ' w'∧Oc E6 2 κ' w' 6 af ac s1.1∧Oc Ep.bool 4 κ' w' 3 ab aa s1.2∧x14.length=s1.2.length∧whileM (i_reachIn_b0 p0 p2) k s1=some q2) ⟨_,_,⟨K19,((x16:(List Int)),(x14:(List Bool))),aw,av,R,(Jx2 _ _).wk R,(f18.mx (no_int _) m21 R (R:4+2=6)),(f13.stp S20 R R),R,hq26⟩,(KM R)⟩ ?_)
 rintro k _ w33 ⟨K34,s1,af,ac,rfl,S35,f36,f37,hn38,h⟩
 rcases k with _ | k
 cases h
 obtain⟨o24,h,hk40⟩:=BI h;unfold i_reachIn_b0 at h
 refine Jq (Je [2,2,2] R (Jn 1 R (Jf R (Je2 U22 R R) (Jb 1 R ?_))))
 revert h
 cases ht41:decide (0<(s1.1.length:Int))
 refine JF fun h=>Jy R (Jc1 (Jt (Jt ?_)))
 cases h
 have h:=hk40
 refine Jb1 ?_
 cases h
 exact Jw1 _ ⟨K34,((s1.1:(List Int)),(s1.2:(List Bool))),af,ac,R,S35.wk R,f36,f37,hn38,R⟩ (KM R)
 refine JT fun h=>Jx R (Js (Jp (Jv (Je [2,2,1,2] R (Jn 1 R (Ob h fun x21 hx21 h=>Jf R (Jf2 f36.rdc hx21 U22 Z2 R R R R) (Jl tv R R R R (Jc2 I2 R R (hvE (f36.rdc.gInt hx21))) (Jb 1 R (Je [2,2,2] R (Jn 1 R (Ob h fun x24 hx24 h=>Jf R (rn_slice (k1:= .i64) (k2:= .i64) U22 Z2 (.inr ⟨_,R,R⟩) (.inl ⟨R,R⟩) hx24 f36.rdc.1 R R R) (Jb 1 R (Je [2,1,2,2,1,2,2] R (Jf R (Jb2 U37 R Z23 R R) (Jl tv R R R R (Jc2 I23 R R (hvE ((f4.stp (S7.tr (S12.tr (S20.tr S35))) R R).ld 1 R R))) (Jn 1 R (Ob h fun x28 hx28 h=>Jf R (Jf2 g0_1 hx28 U23 Z22 R R R R) ?_)))))))))))))))))
 obtain⟨ax28,ux28,f45,hl46⟩:=(g0_1.stp (S3.tr (S7.tr (S12.tr (S20.tr S35)))) R R).gSl hx28
 refine Jl tv R R R R (Jc2 I22 R R (hvE hl46)) (Jf R (Je2 U22 R R) (Jb 1 R ?_))
 have hN47:(x28.length:Int)≤9223372036854775807:=f45.len_le
 refine Ob h fun q5 hq49 hK48=>?_
 clear h
 refine Jx1 (fun L w'=>∃κ',∃s6:(List Int)×(List Bool),∃ai ak,L=[(2,.slice a2 p2.length u2),(3,.pointer (some ⟨b3,0,none⟩)),(7,.slice ab x14.length aa),(8,.slice ai s6.1.length ak)]∧Stp [3,6] K34 w33 κ' w'∧Oc E6 2 κ' w' 6 ai ak s6.1∧Oc Ep.bool 4 κ' w' 3 ab aa s6.2∧x14.length=s6.2.length∧q5=Sum.inr s6) ?_ ?_
 refine Jv (Jy1 (fun k L w'=>∃κ' v31,∃s4:(List Int)×(List Bool),∃ae ad,L=[(2,.slice a2 p2.length u2),(3,.pointer (some ⟨b3,0,none⟩)),(7,.slice ab x14.length aa),(8,.slice ae s4.1.length ad),(29,.slice ax28 x28.length ux28),(30,vi (x28.length:Int)),(31,vi v31)]∧Stp [3,6] K34 w33 κ' w'∧Oc E6 2 κ' w' 6 ae ad s4.1∧Oc Ep.bool 4 κ' w' 3 ab aa s4.2∧x14.length=s4.2.length∧0≤v31∧Int.toNat ((x28.length:Int)-v31)=k∧cntM (i_reachIn_b2 p2 x28) k v31 s4=some q5) ⟨_,_,⟨K34,0,((x24:(List Int)),(s1.2:(List Bool))),(subA af ac (1:Int).toNat 1),(ac-(1:Int).toNat),R,(Jx2 _ _).wk R,(f36.sub hx24),f37,hn38,(by decide),(by simp),hq49⟩,(KM R)⟩ ?_)
 rintro k _ w56 ⟨K57,v31,s4,ae,ad,rfl,S58,f59,f60,hn61,hj47,hJ47,h⟩
 rcases k with _ | k
 have hk62:=h;obtain⟨o47,h⟩:=ex_eq (Sum.inr (Sum.inl s4):(List Bool)⊕(((List Int)×(List Bool))⊕((List Int)×(List Bool))))
 have hc47:decide (v31<(x28.length:Int))=false:=Jo2 (by omega)
 refine Je [2] R (Jb 1 R (Jq (Jw2 R hc47 (Jc1 (Jt (Jt ?_))))))
 cases h
 have h:=hk62
 refine Jb1 ?_
 cases h
 exact Jw1 _ ⟨K57,((s4.1:(List Int)),(s4.2:(List Bool))),ae,ad,R,S58.wk R,f59,f60,hn61,R⟩ (KM R)
 obtain⟨o47,h,hk62⟩:=BI h;unfold i_reachIn_b2 at h
 have hc47:decide (v31<(x28.length:Int))=true:=Jn2 (by omega)
 refine Je [2] R (Jb 1 R (Jq (Jv2 R hc47 (Js (Jp (Jq (Jv (Je [2,1,2] R (Ob h fun x33 hx33 h=>Jf R (Jf2 f45 hx33 U22 Z2 R R R R) (Jl tv R R R R (Jc2 I2 R R (hvE ((f45.stp S58 R R).gInt hx33))) (Jb 1 R (Je [2,2,2,1,2,2,2,2,2,2,2,2,1,2,2] R (Jn 2 R (Ob h fun x37 hx37 h=>Jf R (Jf2 f60.rdc hx37 U70 Z4 R R hn61 R) (Jl tv R R R R (Jc2 I4 R R (hvE (f60.rdc.gBool hx37))) (Jn 2 R (Ob h fun p49 h hK64=>Ju1 [(6,2),(7,2),(8,2),(9,2),(10,2),(11,2),(12,1),(13,2),(14,2)] [] (fun L w'=>L=[(2,.slice a2 p2.length u2),(3,.pointer (some ⟨b3,0,none⟩)),(7,.slice ab x14.length aa),(8,.slice ae s4.1.length ad),(11,vi x33),(29,.slice ax28 x28.length ux28),(30,vi (x28.length:Int)),(31,vi v31),(49,.bool p49)]∧∃κ',Stp [] K57 w56 κ' w') tv ?_ ?_)))))))))))))))))
 revert h
 cases ht65:(!x37)
 refine JF fun h=>Jn 6 R (Jd1 R R R R (Jn 2 R ?_))
 cases h
 exact Jv1 _ tv ⟨R,_,(Jx2 _ _).wk R⟩ (KM R)
 refine JT fun h=>Jn 1 R (Ob h fun _z42 hz42 h=>Jf R (rn_eqlNil U70 (Sl.addr g2 (neS_ok hz42)) R R R) (Jn 3 R (Ob h fun x46 hx46 h=>Jf R (Jf2 g2 hx46 U70 Z4 R R R R) (Jl tv R R R R (Jc2 I4 R R (hvE ((g2.stp (S3.tr (S7.tr (S12.tr (S20.tr (S35.tr S58))))) R R).gBool hx46))) (Jn 2 R ?_)))))
 cases h
 exact Jv1 _ tv ⟨R,_,(Jx2 _ _).wk R⟩ (KM R)
 rintro _ w67 _ ⟨rfl,K68,S69⟩
 have h:=hK64
 refine Jd (Ob h fun q7 h hK70=>Jx1 (fun L w'=>∃κ' aj ah,L=[(2,.slice a2 p2.length u2),(3,.pointer (some ⟨b3,0,none⟩)),(7,.slice ab x14.length aa),(8,.slice aj q7.1.length ah),(29,.slice ax28 x28.length ux28),(30,vi (x28.length:Int)),(31,vi v31)]∧Stp [3,6] K68 w67 κ' w'∧Oc E6 2 κ' w' 6 aj ah q7.1∧Oc Ep.bool 4 κ' w' 3 ab aa q7.2∧x14.length=q7.2.length) ?_ ?_)
 revert h
 cases ht77:p49
 refine JF fun h=>Jy R (Js ?_)
 cases h
 exact Jw1 _ ⟨K68,ae,ad,R,(Jx2 _ _).wk R,(f59.stp S69 R R),(f60.stp S69 R R),hn61⟩ (KM R)
 refine JT fun h=>Jx R (Je [2,2,2,1] R (Jn 2 R (Ob h fun x52 hx52 h=>Jf R (Jf2 f60.rdc hx52 U70 Z4 R R hn61 R) (Ob h fun y266 hy266 h=>Jk1 (κ:=K68) (E:=Ep.bool) 3 [] R R R R R R R R Z4 R R R R (f60.stp S69 R R) hy266 fun w79 K80 S81 f82=>⟨tv,?_⟩))))
 have hn83:x14.length=y266.length:=hn61.trans (Jt2 hy266).2.2.2.symm
 refine Jd (Ja [2,2,1,1,2] R (Jn 2 R (Jn1 (κ:=K80) (E:=E6) 7 [] (parts:=[(0,.tmp 54)]) (cells:=[vi x33]) (xs:=([x33]:List Int)) R R R R R R Y22 Tryzinfo2 R R R R R R R R R R ⟨[vi x33],[],Zl K80 w79 [],Zl K80 w79 [],R,Zl.sp (l1:=[]) (l2:=[]) R,Zl.sr (l1:=[]) (l2:=[]),R,R⟩ fun az ax w84 K85 S86 f87=>⟨tv,Ob h fun x56 hx56 h=>Jm1 (κ:=K85) (E:=E6) 6 [] R R R R R R R R R Y22 Tryzinfo2 R R R R (f59.stp (S69.tr (S81.tr S86)) R R) (Sl.srcP (pu_int _) f87.rdc) sy_false hx56 R fun au ar w89 K90 S91 f92=>⟨tv,Jc 1 R ?_⟩⟩)))
 cases h
 exact Jw1 _ ⟨K90,au,ar,R,(S81.tr (S86.tr S91)).wk R,f92,(f82.stp (S86.tr S91) R R),hn83⟩ (KM R)
 rintro _ w71 ⟨K72,aj,ah,rfl,S73,f74,f75,hn76⟩
 have h:=hK70
 refine Jz (Jp (Ja [2,2] R (Jc 2 R ?_)))
 have hw47:IntKind.wrap .i64 (v31+1)=v31+1:=wr1 hj47 (Jm2 hc47) hN47
 rw[hw47]
 have hc47:=Jm2 hc47
 cases h
 exact Jz1 fun a ha=>⟨k,_,Ja3 _,⟨K72,v31+1,((q7.1:(List Int)),(q7.2:(List Bool))),aj,ah,R,(S58.tr (S69.tr S73)).wk R,f74,f75,hn76,by omega,by omega,hk62⟩,(ha.mm R)⟩
 rintro _ w50 ⟨K51,s6,ai,ak,rfl,S52,f53,f54,hn55,rfl⟩
 have h:=hK48
 dsimp only[aft]at h
 refine Jz ?_
 cases h
 exact Jz1 fun a ha=>⟨k,_,Ja3 _,⟨K51,((s6.1:(List Int)),(s6.2:(List Bool))),ai,ak,R,(S35.tr S52).wk R,f53,f54,hn55,hk40⟩,(ha.mm R)⟩
 rintro _ w27 ⟨K28,s3,ap,al,rfl,S29,f30,f31,hn32,rfl⟩
 have h:=hK25
 dsimp only[aft]at h
 refine Jp (Je [2,2] R (Jb 2 R (Ju (Ja2 (l:=[.tmp 6]) V142 (Jp2 R R) R ?_))))
 cases h
 exact⟨(fun b=>ren [(3,2)] (K28 b)),ab,aa,(by simp only[hn32]),((hE.stp (S3.tr (S7.tr (S12.tr (S20.tr S29)))) R R).map (ren [(3,2)]) R R),(f31.map (ren [(3,2)]) R R)⟩
theorem i_allOf_ok {w:World}{κ:Col}{ad aa ab ac}{p0:Arena}(g0_0:Rd (Rp.int .i64) κ w 0 ad aa p0.Owner) (g0_1:Rd (Rp.sl (Rp.int .i64)) κ w 0 ab ac p0.Next){r:(List Int)}(h:i_allOf p0=some r):Ret Tryz.prog 102 [.agg #[.slice ad p0.Owner.length aa,.slice ab p0.Next.length ac]] w (fun v w'=>∃(κ':Col) (ra0:Option Addr) (ru0:Nat),v= .slice ra0 r.length ru0∧Ent κ w κ' w'∧Oc E6 2 κ' w' 2 ra0 ru0 r):=by
 unfold i_allOf at h
 refine Ret.enter F102 R N102 R ?_
 dsimp only[envOf]
 have hE:=Ent.refl κ w
 refine Je [1,2] R (Jf1 (κ:=κ) 2 R R R R R R R fun b1 w1 K2 S3 f4=>⟨tv,Jb 1 R (Je [1,1,1,2] R (Jl tv R R R R (Jd2 (cs:=[.slice ad p0.Owner.length aa,.slice ab p0.Next.length ac]) I37 Z37 R R R (haE f4.cells)) (Ob h fun x4 hx4 h=>Jh R R R C117 (i_size_ok (κ:=fun b=>mp [] 0 (K2 b)) (p0:=p0) (Jl2 (g0_0.stp S3 R R) (mp [] 0) R R) (Jl2 (g0_1.stp S3 R R) (mp [] 0) R R) hx4) ?_)))⟩)
 rintro _ w7 ⟨k8,rfl,e9⟩
 obtain⟨K10,S11,m12⟩:=Ji e9 3 R
 refine⟨tv,Ob h fun x5 hx5 h=>Jh R R R C132 (i_AllOf_ok (κ:=fun b=>mp [] 0 (K10 b)) hx5) ?_⟩
 rintro _ w14 ⟨k15,ae,af,rfl,e16,f17⟩
 obtain⟨K18,S19,m20⟩:=Ji e16 5 R
 refine⟨tv,Jb 1 R (Ju (Ja2 (l:=[.tmp 2]) V102 (Jp2 R R) R ?_))⟩
 cases h
 exact⟨(fun b=>ren [(7,2)] (K18 b)),ae,af,R,((hE.stp (S3.tr (S11.tr S19)) R R).map (ren [(7,2)]) R R),((f17.mx (no_int _) m20 R (R:5+2=7)).map (ren [(7,2)]) R R)⟩
theorem s_l1Beyond_ok {w:World}{κ:Col}{a0 u0}{p0:(List (List Int))}{a1 u1}{p1:(List Bool)}{a2 u2}{p2:(List Int)}(g0:Rd (Rp.sl (Rp.int .i64)) κ w 0 a0 u0 p0) (g1:Rd Rp.bool κ w 0 a1 u1 p1) (g2:Rd (Rp.int .i64) κ w 0 a2 u2 p2){r:(List Bool)}(h:s_l1Beyond p0 p1 p2=some r):Ret Tryz.prog 157 [.slice a0 p0.length u0,.slice a1 p1.length u1,.slice a2 p2.length u2] w (fun v w'=>∃(κ':Col) (ra0:Option Addr) (ru0:Nat),v= .slice ra0 r.length ru0∧Ent κ w κ' w'∧Oc Ep.bool 4 κ' w' 2 ra0 ru0 r):=by
 unfold s_l1Beyond at h
 refine Ret.enter F157 R N157 R ?_
 dsimp only[envOf]
 have hE:=Ent.refl κ w
 refine Je [2] R (Jb 1 R (Je [2,2,1,2] R (Jn 1 R (Jf R (Je2 U23 R R) (Ob h fun x14 hx14 h=>Jl1 (κ:=κ) (E:=Ep.bool) (z:=(false:Bool)) 2 R R R R R R R Y70 Tryzinfo4 R R R R R (fun _ _ _=>R) (Ju2 hx14) fun ab aa w1 K2 S3 f4=>⟨tv,Jb 1 R (Je [2,1,2] R (Jn 1 R (Ob h fun x16 hx16 h=>Jh R R R C114 (s_l1Copy_ok (κ:=fun b=>mp [] 0 (K2 b)) (Jl2 (g2.stp S3 R R) (mp [] 0) R R) hx16) ?_)))⟩)))))
 rintro _ w6 ⟨k7,ap,ao,rfl,e8,f9⟩
 obtain⟨K10,S11,m12⟩:=Ji e8 3 R
 refine⟨tv,Jb 1 R (Jq (Ob h fun q2 hq17 hK16=>?_))⟩
 clear h
 refine Jx1 (fun L w'=>∃κ',∃s3:(List Int)×(List Bool),∃am al,L=[(7,.slice ab x14.length aa)]∧Stp [2,5] K10 w6 κ' w'∧Oc E6 2 κ' w' 5 am al s3.1∧Oc Ep.bool 4 κ' w' 2 ab aa s3.2∧x14.length=s3.2.length∧q2=Sum.inr s3) ?_ ?_
 refine Jv (Jy1 (fun k L w'=>∃κ',∃s1:(List Int)×(List Bool),∃af ac,L=[(0,.slice a0 p0.length u0),(1,.slice a1 p1.length u1),(7,.slice ab x14.length aa),(8,.slice af s1.1.length ac)]∧Stp [2,5] K10 w6 κ' w'∧Oc E6 2 κ' w' 5 af ac s1.1∧Oc Ep.bool 4 κ' w' 2 ab aa s1.2∧x14.length=s1.2.length∧whileM (s_l1Beyond_b0 p0 p1) k s1=some q2) ⟨_,_,⟨K10,((x16:(List Int)),(x14:(List Bool))),ap,ao,R,(Jx2 _ _).wk R,(f9.mx (no_int _) m12 R (R:3+2=5)),(f4.stp S11 R R),R,hq17⟩,(KM R)⟩ ?_)
 rintro k _ w24 ⟨K25,s1,af,ac,rfl,S26,f27,f28,hn29,h⟩
 rcases k with _ | k
 cases h
 obtain⟨o15,h,hk31⟩:=BI h;unfold s_l1Beyond_b0 at h
 refine Jq (Je [2,2,2] R (Jn 1 R (Jf R (Je2 U22 R R) (Jb 1 R ?_))))
 revert h
 cases ht32:decide (0<(s1.1.length:Int))
 refine JF fun h=>Jy R (Jc1 (Jt (Jt ?_)))
 cases h
 have h:=hk31
 refine Jb1 ?_
 cases h
 exact Jw1 _ ⟨K25,((s1.1:(List Int)),(s1.2:(List Bool))),af,ac,R,S26.wk R,f27,f28,hn29,R⟩ (KM R)
 refine JT fun h=>Jx R (Js (Jp (Jv (Je [2,2,2,2,2,1,2] R (Jn 2 R (Jf R (Je2 U22 R R) (Jn 1 R (Ob h fun x24 hx24 h=>Jf R (Jf2 f27.rdc hx24 U22 Z2 R R R R) (Jl tv R R R R (Jc2 I2 R R (hvE (f27.rdc.gInt hx24))) (Jb 1 R (Je [2,2,2,2,2,2] R (Jn 2 R (Jf R (Je2 U22 R R) (Jn 1 R (Ob h fun x30 hx30 h=>Jf R (rn_slice (k1:= .i64) (k2:= .i64) U22 Z2 (.inl ⟨R,R⟩) (.inr ⟨_,R,R⟩) hx30 f27.rdc.1 R R R) (Jb 1 R (Je [2] R (Jb 1 R (Ob h fun q5 hq36 hK35=>?_)))))))))))))))))))
 clear h
 refine Jx1 (fun L w'=>∃κ',∃s6:(List Int)×Int×(List Bool),∃ai ak,L=[(0,.slice a0 p0.length u0),(1,.slice a1 p1.length u1),(7,.slice ab x14.length aa),(8,.slice ai s6.1.length ak)]∧Stp [2,5] K25 w24 κ' w'∧Oc E6 2 κ' w' 5 ai ak s6.1∧Oc Ep.bool 4 κ' w' 2 ab aa s6.2.2∧x14.length=s6.2.2.length∧q5=Sum.inr s6) ?_ ?_
 refine Jv (Jy1 (fun k L w'=>∃κ',∃s4:(List Int)×Int×(List Bool),∃ae ad,L=[(0,.slice a0 p0.length u0),(1,.slice a1 p1.length u1),(7,.slice ab x14.length aa),(8,.slice ae s4.1.length ad),(9,vi x24),(10,vi s4.2.1)]∧Stp [2,5] K25 w24 κ' w'∧Oc E6 2 κ' w' 5 ae ad s4.1∧Oc Ep.bool 4 κ' w' 2 ab aa s4.2.2∧x14.length=s4.2.2.length∧whileM (s_l1Beyond_b2 p0 p1 x24) k s4=some q5) ⟨_,_,⟨K25,((x30:(List Int)),(0:Int),(s1.2:(List Bool))),(subA af ac (0:Int).toNat 1),(ac-(0:Int).toNat),R,(Jx2 _ _).wk R,(f27.sub hx30),f28,hn29,hq36⟩,(KM R)⟩ ?_)
 rintro k _ w43 ⟨K44,s4,ae,ad,rfl,S45,f46,f47,hn48,h⟩
 rcases k with _ | k
 cases h
 obtain⟨o34,h,hk49⟩:=BI h;unfold s_l1Beyond_b2 at h
 refine Jq (Je [2,2,2,2,1,2,2] R (Jn 3 R (Ob h fun x34 hx34 h=>Jf R (Jf2 g0 hx34 U23 Z22 R R R R) ?_)))
 have f50:=g0.stp (S3.tr (S11.tr (S26.tr S45))) R R
 obtain⟨ax34,ux34,f51,hl52⟩:=f50.gSl hx34
 refine Jl tv R R R R (Jc2 I22 R R (hvE hl52)) (Jf R (Je2 U22 R R) (Jb 1 R ?_))
 revert h
 cases ht53:decide (s4.2.1<(x34.length:Int))
 refine JF fun h=>Jy R (Jc1 (Jt (Jt ?_)))
 cases h
 have h:=hk49
 refine Jb1 ?_
 cases h
 exact Jw1 _ ⟨K44,((s4.1:(List Int)),(s4.2.1:Int),(s4.2.2:(List Bool))),ae,ad,R,S45.wk R,f46,f47,hn48,R⟩ (KM R)
 refine JT fun h=>Jx R (Js (Jp (Jq (Jv (Je [2,2,2,1,2,2,1,2] R (Jn 2 R (Ob h fun x42 hx42 h=>Jf R (Jf2 f50 hx42 U23 Z22 R R R R) ?_)))))))
 obtain⟨ax42,ux42,f54,hl55⟩:=f50.gSl hx42
 refine Jl tv R R R R (Jc2 I22 R R (hvE hl55)) (Jn 1 R (Ob h fun x45 hx45 h=>Jf R (Jf2 f54 hx45 U22 Z2 R R R R) (Jl tv R R R R (Jc2 I2 R R (hvE (f54.gInt hx45))) (Jb 1 R (Je [2,2,2,1,2,2,2,2,1,2,2] R (Jn 2 R (Ob h fun x49 hx49 h=>Jf R (Jf2 g1 hx49 U70 Z4 R R R R) (Jl tv R R R R (Jc2 I4 R R (hvE ((g1.stp (S3.tr (S11.tr (S26.tr S45))) R R).gBool hx49))) (Jn 1 R (Ob h fun p57 h hK57=>Ju1 [(5,2),(6,2),(7,2),(8,1),(9,2),(10,2)] [] (fun L w'=>L=[(0,.slice a0 p0.length u0),(1,.slice a1 p1.length u1),(7,.slice ab x14.length aa),(8,.slice ae s4.1.length ad),(9,vi x24),(10,vi s4.2.1),(11,vi x45),(57,.bool p57)]∧∃κ',Stp [] K44 w43 κ' w') tv ?_ ?_))))))))))
 revert h
 cases ht58:x49
 refine JF fun h=>Jn 3 R (Jd1 R R R R (Jn 2 R ?_))
 cases h
 exact Jv1 _ tv ⟨R,_,(Jx2 _ _).wk R⟩ (KM R)
 refine JT fun h=>Jn 2 R (Ob h fun x54 hx54 h=>Jf R (Jf2 f47.rdc hx54 U70 Z4 R R hn48 R) (Jl tv R R R R (Jc2 I4 R R (hvE (f47.rdc.gBool hx54))) (Jn 2 R ?_)))
 cases h
 exact Jv1 _ tv ⟨R,_,(Jx2 _ _).wk R⟩ (KM R)
 rintro _ w59 _ ⟨rfl,K60,S61⟩
 have h:=hK57
 refine Jd (Ob h fun q7 h hK62=>Jx1 (fun L w'=>∃κ' aj ah,L=[(0,.slice a0 p0.length u0),(1,.slice a1 p1.length u1),(7,.slice ab x14.length aa),(8,.slice aj q7.1.length ah),(9,vi x24),(10,vi s4.2.1)]∧Stp [2,5] K60 w59 κ' w'∧Oc E6 2 κ' w' 5 aj ah q7.1∧Oc Ep.bool 4 κ' w' 2 ab aa q7.2∧x14.length=q7.2.length) ?_ ?_)
 revert h
 cases ht69:p57
 refine JF fun h=>Jy R (Js ?_)
 cases h
 exact Jw1 _ ⟨K60,ae,ad,R,(Jx2 _ _).wk R,(f46.stp S61 R R),(f47.stp S61 R R),hn48⟩ (KM R)
 refine JT fun h=>Jx R (Je [2,2,2,1] R (Jn 2 R (Ob h fun x60 hx60 h=>Jf R (Jf2 f47.rdc hx60 U70 Z4 R R hn48 R) (Ob h fun y391 hy391 h=>Jk1 (κ:=K60) (E:=Ep.bool) 2 [] R R R R R R R R Z4 R R R R (f47.stp S61 R R) hy391 fun w71 K72 S73 f74=>⟨tv,?_⟩))))
 have hn75:x14.length=y391.length:=hn48.trans (Jt2 hy391).2.2.2.symm
 refine Jd (Ja [2,2,1,1,2] R (Jn 2 R (Jn1 (κ:=K72) (E:=E6) 6 [] (parts:=[(0,.tmp 62)]) (cells:=[vi x45]) (xs:=([x45]:List Int)) R R R R R R Y22 Tryzinfo2 R R R R R R R R R R ⟨[vi x45],[],Zl K72 w71 [],Zl K72 w71 [],R,Zl.sp (l1:=[]) (l2:=[]) R,Zl.sr (l1:=[]) (l2:=[]),R,R⟩ fun au ar w76 K77 S78 f79=>⟨tv,Ob h fun x64 hx64 h=>Jm1 (κ:=K77) (E:=E6) 5 [] R R R R R R R R R Y22 Tryzinfo2 R R R R (f46.stp (S61.tr (S73.tr S78)) R R) (Sl.srcP (pu_int _) f79.rdc) sy_false hx64 R fun an aq w81 K82 S83 f84=>⟨tv,Jc 1 R ?_⟩⟩)))
 cases h
 exact Jw1 _ ⟨K82,an,aq,R,(S73.tr (S78.tr S83)).wk R,f84,(f74.stp (S78.tr S83) R R),hn75⟩ (KM R)
 rintro _ w63 ⟨K64,aj,ah,rfl,S65,f66,f67,hn68⟩
 have h:=hK62
 refine Jz (Jp (Ja [2,2,2] R (Jc 3 R ?_)))
 cases h
 exact Jz1 fun a ha=>⟨k,_,Ja3 _,⟨K64,((q7.1:(List Int)),((IntKind.i64.wrap (s4.2.1+1)):Int),(q7.2:(List Bool))),aj,ah,R,(S45.tr (S61.tr S65)).wk R,f66,f67,hn68,hk49⟩,(ha.mm R)⟩
 rintro _ w37 ⟨K38,s6,ai,ak,rfl,S39,f40,f41,hn42,rfl⟩
 have h:=hK35
 dsimp only[aft]at h
 refine Jz ?_
 cases h
 exact Jz1 fun a ha=>⟨k,_,Ja3 _,⟨K38,((s6.1:(List Int)),(s6.2.2:(List Bool))),ai,ak,R,(S26.tr S39).wk R,f40,f41,hn42,hk31⟩,(ha.mm R)⟩
 rintro _ w18 ⟨K19,s3,am,al,rfl,S20,f21,f22,hn23,rfl⟩
 have h:=hK16
 dsimp only[aft]at h
 refine Jp (Je [2,2] R (Jb 2 R (Ju (Ja2 (l:=[.tmp 6]) V157 (Jp2 R R) R ?_))))
 cases h
 exact⟨K19,ab,aa,(by simp only[hn23]),(hE.stp (S3.tr (S11.tr S20)) R R),f22⟩
end Go.Proofs.YtmiilifclnanlaaGreat
