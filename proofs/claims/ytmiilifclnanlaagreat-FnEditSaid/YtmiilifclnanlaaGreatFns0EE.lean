/- The walks, part 0. By program. -/
import Derived.Test.YtmiilifclnanlaaGreatFnsMEE
import Derived.Test.YtmiilifclnanlaaGreatAlEE
set_option linter.unusedVariables false
set_option linter.unusedSimpArgs false
namespace Go.Proofs.YtmiilifclnanlaaGreat
open Go Go.Wk Go.Proofs
set_option maxRecDepth 100000
set_option maxHeartbeats 1000000
theorem l_big_ok {w:World}{κ:Col}{a0 u0}{p0:(List Int)}(g0:Rd (Rp.int .u8) κ w 0 a0 u0 p0){r:Bool}(h:l_big p0=some r):Ret Tryz.prog 18 [.slice a0 p0.length u0] w (fun v w'=>∃(κ':Col),v= .bool r∧Ent κ w κ' w'):=by
 unfold l_big at h
 refine Ret.enter F18 R N18 R ?_
 dsimp only[envOf]
 have hE:=Ent.refl κ w
 refine Je [2] R (Jb 1 R (Je [2,2,2,2] R (Jn 1 R (Jf R (Je2 U49 R R) (Jb 2 R (Ju (Ja2 (l:=[.tmp 2]) V18 (Jp2 R R) R ?_)))))))
 cases h
 exact⟨κ,R,hE⟩
theorem i_size_ok {w:World}{κ:Col}{ad aa ac ab}{p0:Arena}(g0_0:Rd (Rp.int .i64) κ w 0 ad aa p0.Owner) (g0_1:Rd (Rp.sl (Rp.int .i64)) κ w 0 ac ab p0.Next){r:Int}(h:i_size p0=some r):Ret Tryz.prog 117 [.agg #[.slice ad p0.Owner.length aa,.slice ac p0.Next.length ab]] w (fun v w'=>∃(κ':Col),v=vi r∧Ent κ w κ' w'):=by
 unfold i_size at h
 refine Ret.enter F117 R N117 R ?_
 dsimp only[envOf]
 have hE:=Ent.refl κ w
 refine Je [1,2] R (Jf1 (κ:=κ) 2 R R R R R R R fun b1 w1 K2 S3 f4=>⟨tv,Jb 1 R (Je [2,1,2,2] R (Jf R (Jb2 U37 R Z22 R R) (Jl tv R R R R (Jc2 I22 R R (hvE (f4.ld 0 R R))) (Jf R (Je2 U22 R R) (Jb 1 R (Ju (Ja2 (l:=[.tmp 2]) V117 (Jp2 R R) R ?_)))))))⟩)
 cases h
 exact⟨K2,R,(hE.stp S3 R R)⟩
theorem slices_Index_I_int64_ok {w:World}{κ:Col}{a0 u0}{p0:(List Int)}{p1:Int}(g0:Rd (Rp.int .i64) κ w 0 a0 u0 p0){r:Int}(h:slices_Index_I_int64 p0 p1=some r):Ret Tryz.prog 118 [.slice a0 p0.length u0,vi p1] w (fun v w'=>∃(κ':Col),v=vi r∧Ent κ w κ' w'):=by
 unfold slices_Index_I_int64 at h
 refine Ret.enter F118 R N118 R ?_
 dsimp only[envOf]
 have hE:=Ent.refl κ w
 refine Je [2] R (Jb 1 R (Jq (Je [2,2,2] R (Jn 1 R (Jf R (Je2 U22 R R) (Jb 1 R ?_))))))
 have hN1:(p0.length:Int)≤9223372036854775807:=g0.len_le
 refine Ob h fun q2 hq3 hK2=>?_
 clear h
 refine Jx1 (fun L w'=>∃κ',L=[]∧Stp [] κ w κ' w'∧q2=Sum.inr ()) ?_ ?_
 refine Jv (Jy1 (fun k L w'=>∃κ' v8,L=[(0,.slice a0 p0.length u0),(1,vi p1),(7,vi (p0.length:Int)),(8,vi v8)]∧Stp [] κ w κ' w'∧0≤v8∧Int.toNat ((p0.length:Int)-v8)=k∧cntM (slices_Index_I_int64_b0 p0 p1) k v8 ()=some q2) ⟨_,_,⟨κ,0,R,(Jx2 _ _).wk R,(by decide),(by simp),hq3⟩,(KM R)⟩ ?_)
 rintro k _ w7 ⟨K8,v8,rfl,S9,hj1,hJ1,h⟩
 rcases k with _ | k
 have hk10:=h;obtain⟨o1,h⟩:=ex_eq (Sum.inr (Sum.inl ()):Int⊕((Unit)⊕(Unit)))
 have hc1:decide (v8<(p0.length:Int))=false:=Jo2 (by omega)
 refine Je [2] R (Jb 1 R (Jq (Jw2 R hc1 (Jc1 (Jt (Jt ?_))))))
 cases h
 have h:=hk10
 refine Jb1 ?_
 cases h
 exact Jw1 _ ⟨K8,R,S9.wk R,R⟩ KN
 obtain⟨o1,h,hk10⟩:=BI h;unfold slices_Index_I_int64_b0 at h
 have hc1:decide (v8<(p0.length:Int))=true:=Jn2 (by omega)
 refine Je [2] R (Jb 1 R (Jq (Jv2 R hc1 (Js (Jp (Jq (Jv (Je [2,2] R (Jb 2 R (Je [2,2,2,2,1,2] R (Jn 3 R (Ob h fun x14 hx14 h=>Jf R (Jf2 g0 hx14 U22 Z2 R R R R) (Jl tv R R R R (Jc2 I2 R R (hvE ((g0.stp S9 R R).gInt hx14))) (Jb 1 R ?_))))))))))))))
 revert h
 cases ht12:(p1==x14)
 refine JF fun h=>Jy R (Js (Jz (Jp (Ja [2,2] R (Jc 2 R ?_)))))
 have hw1:IntKind.wrap .i64 (v8+1)=v8+1:=wr1 hj1 (Jm2 hc1) hN1
 rw[hw1]
 have hc1:=Jm2 hc1
 cases h
 exact Jz1 fun a ha=>⟨k,_,Ja3 _,⟨K8,v8+1,R,S9.wk R,by omega,by omega,hk10⟩,(ha.mm R)⟩
 refine JT fun h=>Jx R (Je [2,2] R (Jb 2 R (Ju (Ja1 (Jw (Jw ?_))))))
 cases h
 obtain rfl:=Option.some.inj hk10
 have h:=hK2
 dsimp only[aft]at h
 refine Ja1 (Jq2 (Jw (Ja2 (l:=[.tmp 4]) V118 (Jp2 R R) R ?_)))
 cases h
 exact⟨K8,R,(hE.stp S9 R R)⟩
 rintro _ w4 ⟨K5,rfl,S6,rfl⟩
 have h:=hK2
 dsimp only[aft]at h
 refine Jp (Je [2] R (Jb 1 R (Ju (Ja2 (l:=[.tmp 4]) V118 (Jp2 R R) R ?_))))
 cases h
 exact⟨K5,R,(hE.stp S6 R R)⟩
theorem s_l1In_ok {w:World}{κ:Col}{p0:Int}{p1:Int}{p2:Int}  {r:Bool}(h:s_l1In p0 p1 p2=some r):Ret Tryz.prog 75 [vi p0,vi p1,vi p2] w (fun v w'=>∃(κ':Col),v= .bool r∧Ent κ w κ' w'):=by
 unfold s_l1In at h
 refine Ret.enter F75 R N75 R ?_
 dsimp only[envOf]
 have hE:=Ent.refl κ w
 refine Je [2] R (Jb 1 R (Je [2,2,2,2,2,2,2,2,2] R (Jn 4 R (Ob h fun p14 h hK1=>Ju1 [(4,2),(5,2),(6,2),(7,2)] [(8,2)] (fun L w'=>L=[(6,.bool false),(14,.bool p14)]∧∃κ',Stp [] κ w κ' w') tv ?_ ?_))))
 revert h
 cases ht2:decide (p1≤p0)
 refine JF fun h=>Jn 4 R ?_
 cases h
 exact Jv1 _ tv ⟨R,_,(Jx2 _ _).wk R⟩ (KM R)
 refine JT fun h=>Jn 4 R ?_
 cases h
 exact Jv1 _ tv ⟨R,_,(Jx2 _ _).wk R⟩ (KM R)
 rintro _ w3 _ ⟨rfl,K4,S5⟩
 have h:=hK1
 refine Jb 1 R (Ju (Ja2 (l:=[.tmp 6]) V75 (Jp2 R R) R ?_))
 cases h
 exact⟨K4,R,(hE.stp S5 R R)⟩
theorem s_l7None_ok {w:World}{κ:Col}{p0:Int}  {r:(List Int)}(h:s_l7None p0=some r):Ret Tryz.prog 59 [vi p0] w (fun v w'=>∃(κ':Col) (ra0:Option Addr) (ru0:Nat),v= .slice ra0 r.length ru0∧Ent κ w κ' w'∧Oc E6 2 κ' w' 2 ra0 ru0 r):=by
 unfold s_l7None at h
 refine Ret.enter F59 R N59 R ?_
 dsimp only[envOf]
 have hE:=Ent.refl κ w
 refine Je [2] R (Jb 1 R (Je [1,2] R (Jo1 (κ:=κ) (E:=E6) 2 R R R R R Y22 Tryzinfo2 R fun a5 u5 w1 K2 S3 f4=>⟨tv,Jb 1 R (Jq (Je [2] R (Jb 1 R (Ob h fun _ hr5 h=>?_))))⟩)))
 have hN5:=rng_ok hr5
 refine Ob h fun q2 hq7 hK6=>?_
 clear h
 refine Jx1 (fun L w'=>∃κ',∃s3:(List Int),∃ac aa,L=[(3,.slice ac s3.length aa)]∧Stp [2] K2 w1 κ' w'∧Oc E6 2 κ' w' 2 ac aa s3∧q2=Sum.inr s3) ?_ ?_
 refine Jv (Jy1 (fun k L w'=>∃κ' v4,∃s1:(List Int),∃ad ab,L=[(0,vi p0),(3,.slice ad s1.length ab),(4,vi v4)]∧Stp [2] K2 w1 κ' w'∧Oc E6 2 κ' w' 2 ad ab s1∧0≤v4∧Int.toNat (p0-v4)=k∧cntM s_l7None_b0 k v4 s1=some q2) ⟨_,_,⟨K2,0,(([]:List Int):(List Int)),a5,u5,R,(Jx2 _ _).wk R,f4,(by decide),(by simp),hq7⟩,(KM R)⟩ ?_)
 rintro k _ w12 ⟨K13,v4,s1,ad,ab,rfl,S14,f15,hj5,hJ5,h⟩
 rcases k with _ | k
 have hk16:=h;obtain⟨o5,h⟩:=ex_eq (Sum.inr (Sum.inl s1):(List Int)⊕(((List Int))⊕((List Int))))
 have hc5:decide (v4<p0)=false:=Jo2 (by omega)
 refine Jq (Je [2,2,2] R (Jb 3 R (Jw2 R hc5 (Jc1 (Jt (Jt ?_))))))
 cases h
 have h:=hk16
 refine Jb1 ?_
 cases h
 exact Jw1 _ ⟨K13,(s1:(List Int)),ad,ab,R,S14.wk R,f15,R⟩ (KM R)
 obtain⟨o5,h,hk16⟩:=BI h;unfold s_l7None_b0 at h
 have hc5:decide (v4<p0)=true:=Jn2 (by omega)
 refine Jq (Je [2,2,2] R (Jb 3 R (Jv2 R hc5 (Js (Jp (Jq (Jv (Ja [2,1,1,2] R (Jn 1 R (Jn1 (κ:=K13) (E:=E6) 3 [] (parts:=[(0,.const (vi (-1)))]) (cells:=[vi (-1)]) (xs:=([(-1)]:List Int)) R R R R R R Y22 Tryzinfo2 R R R R R R R R R R ⟨[vi (-1)],[],Zl K13 w12 [],Zl K13 w12 [],R,Zl.sp (l1:=[]) (l2:=[]) R,Zl.sr (l1:=[]) (l2:=[]),R,R⟩ fun ai ah w17 K18 S19 f20=>⟨tv,Ob h fun x13 hx13 h=>Jm1 (κ:=K18) (E:=E6) 2 [] R R R R R R R R R Y22 Tryzinfo2 R R R R (f15.stp S19 R R) (Sl.srcP (pu_int _) f20.rdc) sy_false hx13 R fun ae af w22 K23 S24 f25=>⟨tv,Jc 1 R (Jz (Jp (Ja [2,2,2] R (Jc 3 R ?_))))⟩⟩))))))))))
 have hw5:IntKind.wrap .i64 (v4+1)=v4+1:=wr1 hj5 (Jm2 hc5) hN5
 rw[hw5]
 have hc5:=Jm2 hc5
 cases h
 exact Jz1 fun a ha=>⟨k,_,Ja3 _,⟨K23,v4+1,(x13:(List Int)),ae,af,R,(S14.tr (S19.tr S24)).wk R,f25,by omega,by omega,hk16⟩,(ha.mm R)⟩
 rintro _ w8 ⟨K9,s3,ac,aa,rfl,S10,f11,rfl⟩
 have h:=hK6
 dsimp only[aft]at h
 refine Jp (Je [2,2] R (Jb 2 R (Ju (Ja2 (l:=[.tmp 2]) V59 (Jp2 R R) R ?_))))
 cases h
 exact⟨K9,ac,aa,R,(hE.stp (S3.tr S10) R R),f11⟩
theorem s_l7Of_ok {w:World}{κ:Col}{ai ah af aj ak ae}{p0:Parity}(g0_0_0:Rd (Rp.int .i64) κ w 0 ai ah p0.Arena.Owner) (g0_0_1:Rd (Rp.sl (Rp.int .i64)) κ w 0 af aj p0.Arena.Next) (g0_1:Rd (Rp.int .i64) κ w 0 ak ae p0.Prio){r:l7Game}(h:s_l7Of p0=some r):Ret Tryz.prog 98 [.agg #[.slice ai p0.Arena.Owner.length ah,.slice af p0.Arena.Next.length aj,.slice ak p0.Prio.length ae]] w (fun v w'=>∃(κ':Col) (ra0:Option Addr) (ru0:Nat) (ra1:Option Addr) (ru1:Nat) (ra2:Option Addr) (ru2:Nat) (ra3:Option Addr) (ru3:Nat) (ra4:Option Addr) (ru4:Nat),v= .agg #[.slice ra0 r.owner.length ru0,.slice ra1 r.prio.length ru1,.slice ra2 r.next.length ru2,.slice ra3 r.prev.length ru3,.slice ra4 r.pick.length ru4]∧Ent κ w κ' w'∧Rd (Rp.int .i64) κ' w' 0 ra0 ru0 r.owner∧Rd (Rp.int .i64) κ' w' 0 ra1 ru1 r.prio∧Rd (Rp.sl (Rp.int .i64)) κ' w' 0 ra2 ru2 r.next∧Oc (Ep.own E6 2) 22 κ' w' 5 ra3 ru3 r.prev∧Oc E6 2 κ' w' 6 ra4 ru4 r.pick):=by
 unfold s_l7Of at h
 refine Ret.enter F98 R N98 R ?_
 dsimp only[envOf]
 have hE:=Ent.refl κ w
 refine Je [1,1] R (Jf1 (κ:=κ) 2 R R R R R R R fun b1 w1 K2 S3 f4=>⟨tv,Jg1 (κ:=K2) 3 R R R R R X111 R fun b2 w5 K6 S7 f8=>⟨tv,Jd (Je [2,1,2,2] R (Jf R (Jb2 U39 R Z22 R R) ?_))⟩⟩)
 have f9:=f4.stp S7 R R
 refine Jl tv R R R R (Jc2 I22 R R (hvE (f9.ld 2 R R))) (Jf R (Je2 U22 R R) (Jb 1 R (Jq (Ob h fun x20 hx20 h=>Ob h fun x22 hx22 h=>Jx1 (fun L w'=>∃κ' b4 av ar aq au aw ap al am ao an,L=[(1,.pointer (some ⟨b1,0,none⟩)),(2,.pointer (some ⟨b2,0,none⟩)),(3,vi (p0.Prio.length:Int)),(4,.pointer (some ⟨b4,0,none⟩))]∧Stp [4,5,6] K6 w5 κ' w'∧Rd (Rp.int .i64) κ' w' 0 av ar ((⟨p0.Arena.Owner,p0.Prio,p0.Arena.Next,x20,x22⟩:l7Game).owner)∧Rd (Rp.int .i64) κ' w' 0 aq au ((⟨p0.Arena.Owner,p0.Prio,p0.Arena.Next,x20,x22⟩:l7Game).prio)∧Rd (Rp.sl (Rp.int .i64)) κ' w' 0 aw ap ((⟨p0.Arena.Owner,p0.Prio,p0.Arena.Next,x20,x22⟩:l7Game).next)∧Oc (Ep.own E6 2) 22 κ' w' 4 al am ((⟨p0.Arena.Owner,p0.Prio,p0.Arena.Next,x20,x22⟩:l7Game).prev)∧Oc E6 2 κ' w' 5 ao an ((⟨p0.Arena.Owner,p0.Prio,p0.Arena.Next,x20,x22⟩:l7Game).pick)∧Bc κ' w' 6 b4 111 [.slice av ((⟨p0.Arena.Owner,p0.Prio,p0.Arena.Next,x20,x22⟩:l7Game).owner).length ar,.slice aq ((⟨p0.Arena.Owner,p0.Prio,p0.Arena.Next,x20,x22⟩:l7Game).prio).length au,.slice aw ((⟨p0.Arena.Owner,p0.Prio,p0.Arena.Next,x20,x22⟩:l7Game).next).length ap,.slice al ((⟨p0.Arena.Owner,p0.Prio,p0.Arena.Next,x20,x22⟩:l7Game).prev).length am,.slice ao ((⟨p0.Arena.Owner,p0.Prio,p0.Arena.Next,x20,x22⟩:l7Game).pick).length an]) ?_ ?_))))
 refine WC.rxt (κ:=K6) [2] none (by kernel_rfl) fun w20 S21=>Jq1 (fuel:=5) [(0,2),(1,2),(3,2),(5,2),(6,2),(8,2),(10,2),(2,0),(4,0),(7,0)] (by kernel_rfl) (by kernel_rfl) R (Jf R (Jb2 U39 R Z37 R R) (Jf R (Jb2 U37 R Z22 R R) (Jf R (Jb2 U39 R Z22 R R) (Jf R (Jb2 U39 R Z37 R R) (Jf R (Jb2 U37 R Z23 R R) (Jn 2 R ?_))))))
 have f22:=f9.stp S21 R R
 refine Jg R (Jc2 I22 R R (hvC (f22.ld 0 R R) R)) (Jg R (Jc2 I22 R R (hvC (f22.ld 2 R R) R)) (Jg R (Jc2 I23 R R (hvC (f22.ld 1 R R) R)) (Jp1 (WA.fork3 (fuel:=4) 9 11 13 (by kernel_rfl) R ?_ ?_ ?_))))
 refine Jl1 (κ:=K6) (E:=(Ep.own E6 2)) (z:=(([]:List Int):(List Int))) 4 R R R R R R R Y23 Tryzinfo22 R R R R R (fun _ _ _=>⟨none,0,R,Ow.nil⟩) (Ju2 hx20) fun ad ac w23 K24 S25 f26=>⟨(S25.cl R),Jp1 (WA.fork2 (fuel:=3) 11 13 (by kernel_rfl) R ?_ ?_)⟩
 have S001:=(S3.tr (S7.tr (S21.tr S25)))
 exact Jl1 (κ:=K24) (E:=E6) (z:=(0:Int)) 5 R R R R R R R Y22 Tryzinfo2 R R R R R (fun _ _ _=>R) (Ju2 hx22) fun ab aa w27 K28 S29 f30=>⟨((S25.tr S29).cl R),Jp1 (Jq1 (fuel:=0) [(12,2),(13,1),(14,1)] (by kernel_rfl) (by kernel_rfl) R (Jf R (rn_build (parts:=[(0,.tmp 13),(1,.tmp 15),(2,.tmp 18),(3,.tmp 20),(4,.tmp 22)]) (cells:=[.slice ai p0.Arena.Owner.length ah,.slice ak p0.Prio.length ae,.slice af p0.Arena.Next.length aj,.slice ad x20.length ac,.slice ab x22.length aa]) R R (by kernel_rfl)) (Jg1 (κ:=K28) 6 R R R R R X111 R fun b4 w31 K32 S33 f34=>⟨((S25.tr (S29.tr S33)).cl R),Jj1 (κ:=K32) 6 (vc:=[.slice ai p0.Arena.Owner.length ah,.slice ak p0.Prio.length ae,.slice af p0.Arena.Next.length aj,.slice ad x20.length ac,.slice ab x22.length aa]) R R R R R R R Z111 R R f34 R fun w35 S36 f37=>⟨((S25.tr (S29.tr (S33.tr S36))).cl R),Jp1 (Jr1 [] (by kernel_rfl) (by kernel_rfl) R (Jo (Jw1 _ ⟨K32,b4,ai,ah,ak,ae,af,aj,ad,ac,ab,aa,R,(S21.tr (S25.tr (S29.tr (S33.tr S36)))).wk R,(g0_0_0.stp (S001.tr (S29.tr (S33.tr S36))) R R),(g0_1.stp (S001.tr (S29.tr (S33.tr S36))) R R),(g0_0_1.stp (S001.tr (S29.tr (S33.tr S36))) R R),(f26.stp (S29.tr (S33.tr S36)) R R),(f30.stp (S33.tr S36) R R),f37⟩ (KM R))))⟩⟩)))⟩
 have S002:=(S3.tr (S7.tr (S21.tr S25)))
 exact Jg1 (κ:=K24) 5 R R R R R X111 R fun b4 w43 K44 S45 f46=>⟨((S25.tr S45).cl R),Jp1 (Jq1 (fuel:=0) [(11,1),(12,2),(14,1)] (by kernel_rfl) (by kernel_rfl) R (Jl1 (κ:=K44) (E:=E6) (z:=(0:Int)) 6 R R R R R R R Y22 Tryzinfo2 R R R R R (fun _ _ _=>R) (Ju2 hx22) fun ab aa w47 K48 S49 f50=>⟨((S25.tr (S45.tr S49)).cl R),Jf R (rn_build (parts:=[(0,.tmp 13),(1,.tmp 15),(2,.tmp 18),(3,.tmp 20),(4,.tmp 22)]) (cells:=[.slice ai p0.Arena.Owner.length ah,.slice ak p0.Prio.length ae,.slice af p0.Arena.Next.length aj,.slice ad x20.length ac,.slice ab x22.length aa]) R R (by kernel_rfl)) (Jj1 (κ:=K48) 5 (vc:=[.slice ai p0.Arena.Owner.length ah,.slice ak p0.Prio.length ae,.slice af p0.Arena.Next.length aj,.slice ad x20.length ac,.slice ab x22.length aa]) R R R R R R R Z111 R R (f46.stp S49 R R) R fun w52 S53 f54=>⟨((S25.tr (S45.tr (S49.tr S53))).cl R),Jp1 (Jr1 [] (by kernel_rfl) (by kernel_rfl) R (Jo (Jw1 _ ⟨(fun b=>ren [(6,5),(5,6)] (K48 b)),b4,ai,ah,ak,ae,af,aj,ad,ac,ab,aa,R,(Jy2 ((S21.tr (S25.tr (S45.tr (S49.tr S53)))).wk R) [(6,5),(5,6)] R),((g0_0_0.stp (S002.tr (S45.tr (S49.tr S53))) R R).map (ren [(6,5),(5,6)]) R R),((g0_1.stp (S002.tr (S45.tr (S49.tr S53))) R R).map (ren [(6,5),(5,6)]) R R),((g0_0_1.stp (S002.tr (S45.tr (S49.tr S53))) R R).map (ren [(6,5),(5,6)]) R R),((f26.stp (S45.tr (S49.tr S53)) R R).map (ren [(6,5),(5,6)]) R R),((f50.stp S53 R R).map (ren [(6,5),(5,6)]) R R),(f54.map (ren [(6,5),(5,6)]) R R)⟩ (KM R))))⟩)⟩))⟩
 refine Jl1 (κ:=K6) (E:=E6) (z:=(0:Int)) 4 R R R R R R R Y22 Tryzinfo2 R R R R R (fun _ _ _=>R) (Ju2 hx22) fun ab aa w60 K61 S62 f63=>⟨(S62.cl R),Jp1 (WA.fork2 (fuel:=3) 9 13 (by kernel_rfl) R ?_ ?_)⟩
 have S003:=(S3.tr (S7.tr (S21.tr S62)))
 exact Jl1 (κ:=K61) (E:=(Ep.own E6 2)) (z:=(([]:List Int):(List Int))) 5 R R R R R R R Y23 Tryzinfo22 R R R R R (fun _ _ _=>⟨none,0,R,Ow.nil⟩) (Ju2 hx20) fun ad ac w64 K65 S66 f67=>⟨((S62.tr S66).cl R),Jp1 (Jq1 (fuel:=0) [(12,2),(13,1),(14,1)] (by kernel_rfl) (by kernel_rfl) R (Jf R (rn_build (parts:=[(0,.tmp 13),(1,.tmp 15),(2,.tmp 18),(3,.tmp 20),(4,.tmp 22)]) (cells:=[.slice ai p0.Arena.Owner.length ah,.slice ak p0.Prio.length ae,.slice af p0.Arena.Next.length aj,.slice ad x20.length ac,.slice ab x22.length aa]) R R (by kernel_rfl)) (Jg1 (κ:=K65) 6 R R R R R X111 R fun b4 w68 K69 S70 f71=>⟨((S62.tr (S66.tr S70)).cl R),Jj1 (κ:=K69) 6 (vc:=[.slice ai p0.Arena.Owner.length ah,.slice ak p0.Prio.length ae,.slice af p0.Arena.Next.length aj,.slice ad x20.length ac,.slice ab x22.length aa]) R R R R R R R Z111 R R f71 R fun w72 S73 f74=>⟨((S62.tr (S66.tr (S70.tr S73))).cl R),Jp1 (Jr1 [] (by kernel_rfl) (by kernel_rfl) R (Jo (Jw1 _ ⟨(fun b=>ren [(5,4),(4,5)] (K69 b)),b4,ai,ah,ak,ae,af,aj,ad,ac,ab,aa,R,(Jy2 ((S21.tr (S62.tr (S66.tr (S70.tr S73)))).wk R) [(5,4),(4,5)] R),((g0_0_0.stp (S003.tr (S66.tr (S70.tr S73))) R R).map (ren [(5,4),(4,5)]) R R),((g0_1.stp (S003.tr (S66.tr (S70.tr S73))) R R).map (ren [(5,4),(4,5)]) R R),((g0_0_1.stp (S003.tr (S66.tr (S70.tr S73))) R R).map (ren [(5,4),(4,5)]) R R),((f67.stp (S70.tr S73) R R).map (ren [(5,4),(4,5)]) R R),((f63.stp (S66.tr (S70.tr S73)) R R).map (ren [(5,4),(4,5)]) R R),(f74.map (ren [(5,4),(4,5)]) R R)⟩ (KM R))))⟩⟩)))⟩
 have S004:=(S3.tr (S7.tr (S21.tr S62)))
 exact Jg1 (κ:=K61) 5 R R R R R X111 R fun b4 w80 K81 S82 f83=>⟨((S62.tr S82).cl R),Jp1 (Jq1 (fuel:=0) [(9,1),(12,2),(14,1)] (by kernel_rfl) (by kernel_rfl) R (Jl1 (κ:=K81) (E:=(Ep.own E6 2)) (z:=(([]:List Int):(List Int))) 6 R R R R R R R Y23 Tryzinfo22 R R R R R (fun _ _ _=>⟨none,0,R,Ow.nil⟩) (Ju2 hx20) fun ad ac w84 K85 S86 f87=>⟨((S62.tr (S82.tr S86)).cl R),Jf R (rn_build (parts:=[(0,.tmp 13),(1,.tmp 15),(2,.tmp 18),(3,.tmp 20),(4,.tmp 22)]) (cells:=[.slice ai p0.Arena.Owner.length ah,.slice ak p0.Prio.length ae,.slice af p0.Arena.Next.length aj,.slice ad x20.length ac,.slice ab x22.length aa]) R R (by kernel_rfl)) (Jj1 (κ:=K85) 5 (vc:=[.slice ai p0.Arena.Owner.length ah,.slice ak p0.Prio.length ae,.slice af p0.Arena.Next.length aj,.slice ad x20.length ac,.slice ab x22.length aa]) R R R R R R R Z111 R R (f83.stp S86 R R) R fun w89 S90 f91=>⟨((S62.tr (S82.tr (S86.tr S90))).cl R),Jp1 (Jr1 [] (by kernel_rfl) (by kernel_rfl) R (Jo (Jw1 _ ⟨(fun b=>ren [(6,4),(4,5),(5,6)] (K85 b)),b4,ai,ah,ak,ae,af,aj,ad,ac,ab,aa,R,(Jy2 ((S21.tr (S62.tr (S82.tr (S86.tr S90)))).wk R) [(6,4),(4,5),(5,6)] R),((g0_0_0.stp (S004.tr (S82.tr (S86.tr S90))) R R).map (ren [(6,4),(4,5),(5,6)]) R R),((g0_1.stp (S004.tr (S82.tr (S86.tr S90))) R R).map (ren [(6,4),(4,5),(5,6)]) R R),((g0_0_1.stp (S004.tr (S82.tr (S86.tr S90))) R R).map (ren [(6,4),(4,5),(5,6)]) R R),((f87.stp S90 R R).map (ren [(6,4),(4,5),(5,6)]) R R),((f63.stp (S82.tr (S86.tr S90)) R R).map (ren [(6,4),(4,5),(5,6)]) R R),(f91.map (ren [(6,4),(4,5),(5,6)]) R R)⟩ (KM R))))⟩)⟩))⟩
 refine Jg1 (κ:=K6) 4 R R R R R X111 R fun b4 w97 K98 S99 f100=>⟨(S99.cl R),Jp1 (WA.fork2 (fuel:=3) 9 11 (by kernel_rfl) R ?_ ?_)⟩
 have S005:=(S3.tr (S7.tr (S21.tr S99)))
 exact Jl1 (κ:=K98) (E:=(Ep.own E6 2)) (z:=(([]:List Int):(List Int))) 5 R R R R R R R Y23 Tryzinfo22 R R R R R (fun _ _ _=>⟨none,0,R,Ow.nil⟩) (Ju2 hx20) fun ad ac w101 K102 S103 f104=>⟨((S99.tr S103).cl R),Jp1 (Jq1 (fuel:=0) [(11,1),(12,2),(14,1)] (by kernel_rfl) (by kernel_rfl) R (Jl1 (κ:=K102) (E:=E6) (z:=(0:Int)) 6 R R R R R R R Y22 Tryzinfo2 R R R R R (fun _ _ _=>R) (Ju2 hx22) fun ab aa w105 K106 S107 f108=>⟨((S99.tr (S103.tr S107)).cl R),Jf R (rn_build (parts:=[(0,.tmp 13),(1,.tmp 15),(2,.tmp 18),(3,.tmp 20),(4,.tmp 22)]) (cells:=[.slice ai p0.Arena.Owner.length ah,.slice ak p0.Prio.length ae,.slice af p0.Arena.Next.length aj,.slice ad x20.length ac,.slice ab x22.length aa]) R R (by kernel_rfl)) (Jj1 (κ:=K106) 4 (vc:=[.slice ai p0.Arena.Owner.length ah,.slice ak p0.Prio.length ae,.slice af p0.Arena.Next.length aj,.slice ad x20.length ac,.slice ab x22.length aa]) R R R R R R R Z111 R R (f100.stp (S103.tr S107) R R) R fun w110 S111 f112=>⟨((S99.tr (S103.tr (S107.tr S111))).cl R),Jp1 (Jr1 [] (by kernel_rfl) (by kernel_rfl) R (Jo (Jw1 _ ⟨(fun b=>ren [(5,4),(6,5),(4,6)] (K106 b)),b4,ai,ah,ak,ae,af,aj,ad,ac,ab,aa,R,(Jy2 ((S21.tr (S99.tr (S103.tr (S107.tr S111)))).wk R) [(5,4),(6,5),(4,6)] R),((g0_0_0.stp (S005.tr (S103.tr (S107.tr S111))) R R).map (ren [(5,4),(6,5),(4,6)]) R R),((g0_1.stp (S005.tr (S103.tr (S107.tr S111))) R R).map (ren [(5,4),(6,5),(4,6)]) R R),((g0_0_1.stp (S005.tr (S103.tr (S107.tr S111))) R R).map (ren [(5,4),(6,5),(4,6)]) R R),((f104.stp (S107.tr S111) R R).map (ren [(5,4),(6,5),(4,6)]) R R),((f108.stp S111 R R).map (ren [(5,4),(6,5),(4,6)]) R R),(f112.map (ren [(5,4),(6,5),(4,6)]) R R)⟩ (KM R))))⟩)⟩))⟩
 have S006:=(S3.tr (S7.tr (S21.tr S99)))
 exact Jl1 (κ:=K98) (E:=E6) (z:=(0:Int)) 5 R R R R R R R Y22 Tryzinfo2 R R R R R (fun _ _ _=>R) (Ju2 hx22) fun ab aa w118 K119 S120 f121=>⟨((S99.tr S120).cl R),Jp1 (Jq1 (fuel:=0) [(9,1),(12,2),(14,1)] (by kernel_rfl) (by kernel_rfl) R (Jl1 (κ:=K119) (E:=(Ep.own E6 2)) (z:=(([]:List Int):(List Int))) 6 R R R R R R R Y23 Tryzinfo22 R R R R R (fun _ _ _=>⟨none,0,R,Ow.nil⟩) (Ju2 hx20) fun ad ac w122 K123 S124 f125=>⟨((S99.tr (S120.tr S124)).cl R),Jf R (rn_build (parts:=[(0,.tmp 13),(1,.tmp 15),(2,.tmp 18),(3,.tmp 20),(4,.tmp 22)]) (cells:=[.slice ai p0.Arena.Owner.length ah,.slice ak p0.Prio.length ae,.slice af p0.Arena.Next.length aj,.slice ad x20.length ac,.slice ab x22.length aa]) R R (by kernel_rfl)) (Jj1 (κ:=K123) 4 (vc:=[.slice ai p0.Arena.Owner.length ah,.slice ak p0.Prio.length ae,.slice af p0.Arena.Next.length aj,.slice ad x20.length ac,.slice ab x22.length aa]) R R R R R R R Z111 R R (f100.stp (S120.tr S124) R R) R fun w127 S128 f129=>⟨((S99.tr (S120.tr (S124.tr S128))).cl R),Jp1 (Jr1 [] (by kernel_rfl) (by kernel_rfl) R (Jo (Jw1 _ ⟨(fun b=>ren [(6,4),(4,6)] (K123 b)),b4,ai,ah,ak,ae,af,aj,ad,ac,ab,aa,R,(Jy2 ((S21.tr (S99.tr (S120.tr (S124.tr S128)))).wk R) [(6,4),(4,6)] R),((g0_0_0.stp (S006.tr (S120.tr (S124.tr S128))) R R).map (ren [(6,4),(4,6)]) R R),((g0_1.stp (S006.tr (S120.tr (S124.tr S128))) R R).map (ren [(6,4),(4,6)]) R R),((g0_0_1.stp (S006.tr (S120.tr (S124.tr S128))) R R).map (ren [(6,4),(4,6)]) R R),((f125.stp S128 R R).map (ren [(6,4),(4,6)]) R R),((f121.stp (S124.tr S128) R R).map (ren [(6,4),(4,6)]) R R),(f129.map (ren [(6,4),(4,6)]) R R)⟩ (KM R))))⟩)⟩))⟩
 rintro _ w10 ⟨K11,b4,av,ar,aq,au,aw,ap,al,am,ao,an,rfl,S12,f14,f15,f16,f17,f18,f19⟩
 refine Jp (Jq (Je [2] R (Jb 1 R ?_)))
 have hN135:(p0.Prio.length:Int)≤9223372036854775807:=g0_1.len_le
 refine Ob h fun q2 hq137 hK136=>?_
 clear h
 refine Jx1 (fun L w'=>∃κ',∃s3:(List (List Int))×(List Int),L=[(2,.pointer (some ⟨b2,0,none⟩)),(4,.pointer (some ⟨b4,0,none⟩))]∧Stp [4,5,8] K11 w10 κ' w'∧Oc (Ep.own E6 2) 22 κ' w' 4 al am s3.1∧((⟨p0.Arena.Owner,p0.Prio,p0.Arena.Next,x20,x22⟩:l7Game).prev).length=s3.1.length∧Oc E6 2 κ' w' 5 ao an s3.2∧((⟨p0.Arena.Owner,p0.Prio,p0.Arena.Next,x20,x22⟩:l7Game).pick).length=s3.2.length∧q2=Sum.inr s3) ?_ ?_
 refine Jv (Jy1 (fun k L w'=>∃κ' v5,∃s1:(List (List Int))×(List Int),L=[(1,.pointer (some ⟨b1,0,none⟩)),(2,.pointer (some ⟨b2,0,none⟩)),(3,vi (p0.Prio.length:Int)),(4,.pointer (some ⟨b4,0,none⟩)),(5,vi v5)]∧Stp [4,5,8] K11 w10 κ' w'∧Oc (Ep.own E6 2) 22 κ' w' 4 al am s1.1∧((⟨p0.Arena.Owner,p0.Prio,p0.Arena.Next,x20,x22⟩:l7Game).prev).length=s1.1.length∧Oc E6 2 κ' w' 5 ao an s1.2∧((⟨p0.Arena.Owner,p0.Prio,p0.Arena.Next,x20,x22⟩:l7Game).pick).length=s1.2.length∧0≤v5∧Int.toNat ((p0.Prio.length:Int)-v5)=k∧cntM (s_l7Of_b0 p0) k v5 s1=some q2) ⟨_,_,⟨K11,0,(((⟨p0.Arena.Owner,p0.Prio,p0.Arena.Next,x20,x22⟩:l7Game).prev:(List (List Int))),((⟨p0.Arena.Owner,p0.Prio,p0.Arena.Next,x20,x22⟩:l7Game).pick:(List Int))),R,(Jx2 _ _).wk R,f17,R,f18,R,(by decide),(by simp),hq137⟩,(KM R)⟩ ?_)
 rintro k _ w145 ⟨K146,v5,s1,rfl,S147,f148,hn149,f150,hn151,hj135,hJ135,h⟩
 rcases k with _ | k
 have hk152:=h;obtain⟨o135,h⟩:=ex_eq (Sum.inr (Sum.inl s1):l7Game⊕(((List (List Int))×(List Int))⊕((List (List Int))×(List Int))))
 have hc135:decide (v5<(p0.Prio.length:Int))=false:=Jo2 (by omega)
 refine Jq (Je [2,2,2] R (Jb 3 R (Jw2 R hc135 (Jc1 (Jt (Jt ?_))))))
 cases h
 have h:=hk152
 refine Jb1 ?_
 cases h
 exact Jw1 _ ⟨K146,((s1.1:(List (List Int))),(s1.2:(List Int))),R,S147.wk R,f148,hn149,f150,hn151,R⟩ (KM R)
 obtain⟨o135,h,hk152⟩:=BI h;unfold s_l7Of_b0 at h
 have hc135:decide (v5<(p0.Prio.length:Int))=true:=Jn2 (by omega)
 refine Jq (Je [2,2,2] R (Jb 3 R (Jv2 R hc135 (Js (Jp (Jq (Jv (Je [2,1,2,2,1] R (Jf R (Jb2 U111 R Z22 R R) ?_)))))))))
 have f153:=f19.stp S147 R R
 refine Jl tv R R R R (Jc2 I22 R R (hvE (f153.ld 4 R R))) (Jn 1 R (Ob h fun x32 hx32 h=>Jf R (Jf2 f150.rdc hx32 U22 Z2 R R hn151 R) (Ob h fun y179 hy179 h=>Jk1 (κ:=K146) (E:=E6) 5 [] R R R R R R R R Z2 R R R R f150 hy179 fun w154 K155 S156 f157=>⟨tv,?_⟩)))
 have hn158:((⟨p0.Arena.Owner,p0.Prio,p0.Arena.Next,x20,x22⟩:l7Game).pick).length=y179.length:=hn151.trans (Jt2 hy179).2.2.2.symm
 refine Jd (Je [2] R (Jb 1 R (Ob h fun q5 hq161 hK160=>?_)))
 clear h
 refine Jx1 (fun L w'=>∃κ',∃s6:Int×(List (List Int)),L=[(1,.pointer (some ⟨b1,0,none⟩)),(2,.pointer (some ⟨b2,0,none⟩)),(3,vi (p0.Prio.length:Int)),(4,.pointer (some ⟨b4,0,none⟩)),(5,vi v5)]∧Stp [4,8] K155 w154 κ' w'∧Oc (Ep.own E6 2) 22 κ' w' 4 al am s6.2∧((⟨p0.Arena.Owner,p0.Prio,p0.Arena.Next,x20,x22⟩:l7Game).prev).length=s6.2.length∧q5=Sum.inr s6) ?_ ?_
 refine Jv (Jy1 (fun k L w'=>∃κ',∃s4:Int×(List (List Int)),L=[(1,.pointer (some ⟨b1,0,none⟩)),(2,.pointer (some ⟨b2,0,none⟩)),(3,vi (p0.Prio.length:Int)),(4,.pointer (some ⟨b4,0,none⟩)),(5,vi v5),(6,vi s4.1)]∧Stp [4,8] K155 w154 κ' w'∧Oc (Ep.own E6 2) 22 κ' w' 4 al am s4.2∧((⟨p0.Arena.Owner,p0.Prio,p0.Arena.Next,x20,x22⟩:l7Game).prev).length=s4.2.length∧whileM (s_l7Of_b2 p0 v5) k s4=some q5) ⟨_,_,⟨K155,((0:Int),(s1.1:(List (List Int)))),R,(Jx2 _ _).wk R,(f148.stp S156 R R),hn149,hq161⟩,(KM R)⟩ ?_)
 rintro k _ w167 ⟨K168,s4,rfl,S169,f170,hn171,h⟩
 rcases k with _ | k
 cases h
 obtain⟨o159,h,hk173⟩:=BI h;unfold s_l7Of_b2 at h
 refine Jq (Je [2,2,2,1,2,2,1,2,2] R (Jn 1 R (Jf R (Jb2 U39 R Z37 R R) (Jf R (Jb2 U37 R Z23 R R) ?_))))
 have f174:=f9.stp (S12.tr (S147.tr (S156.tr S169))) R R
 refine Jl tv R R R R (Jc2 I23 R R (hvE (f174.ld 1 R R))) (Jn 1 R (Ob h fun x38 hx38 h=>Jf R (Jf2 g0_0_1 hx38 U23 Z22 R R R R) ?_))
 have f175:=g0_0_1.stp (S3.tr (S7.tr (S12.tr (S147.tr (S156.tr S169))))) R R
 obtain⟨ax38,ux38,f176,hl177⟩:=f175.gSl hx38
 refine Jl tv R R R R (Jc2 I22 R R (hvE hl177)) (Jf R (Je2 U22 R R) (Jb 1 R ?_))
 revert h
 cases ht178:decide (s4.1<(x38.length:Int))
 refine JF fun h=>Jy R (Jc1 (Jt (Jt ?_)))
 cases h
 have h:=hk173
 refine Jb1 ?_
 cases h
 exact Jw1 _ ⟨K168,((s4.1:Int),(s4.2:(List (List Int)))),R,S169.wk R,f170,hn171,R⟩ (KM R)
 refine JT fun h=>Jx R (Js (Jp (Jq (Jv (Je [2,2,1,2,2,1,2,2,1,2] R (Jf R (Jb2 U39 R Z37 R R) (Jf R (Jb2 U37 R Z23 R R) (Jl tv R R R R (Jc2 I23 R R (hvE (f174.ld 1 R R))) (Jn 1 R (Ob h fun x48 hx48 h=>Jf R (Jf2 f175 hx48 U23 Z22 R R R R) ?_))))))))))
 obtain⟨ax48,ux48,f179,hl180⟩:=f175.gSl hx48
 refine Jl tv R R R R (Jc2 I22 R R (hvE hl180)) (Jn 1 R (Ob h fun x51 hx51 h=>Jf R (Jf2 f179 hx51 U22 Z2 R R R R) (Jl tv R R R R (Jc2 I2 R R (hvE (f179.gInt hx51))) (Jb 1 R (Ob h fun x59 hx59 h=>Ob h fun x63 hx63 h=>Ob h fun x64 hx64 h=>Ob h fun y181 hy181 h=>Jx1 (fun L w'=>∃κ',L=[(1,.pointer (some ⟨b1,0,none⟩)),(2,.pointer (some ⟨b2,0,none⟩)),(3,vi (p0.Prio.length:Int)),(4,.pointer (some ⟨b4,0,none⟩)),(5,vi v5),(6,vi s4.1)]∧Stp [4,8] K168 w167 κ' w'∧Oc (Ep.own E6 2) 22 κ' w' 4 al am y181∧((⟨p0.Arena.Owner,p0.Prio,p0.Arena.Next,x20,x22⟩:l7Game).prev).length=y181.length) ?_ ?_)))))
 refine WC.rxt (κ:=K168) [0,4,6] (some 10) (by kernel_rfl) fun w187 S188=>Jq1 (fuel:=5) [(0,2),(2,2),(3,2),(5,2),(8,2),(4,0),(6,2),(7,0)] (by kernel_rfl) (by kernel_rfl) R (Jf R (Jb2 U111 R Z23 R R) (Jn 1 R (Jf R (Jb2 U111 R Z23 R R) (Jn 2 R ?_))))
 have f189:=f153.stp (S156.tr (S169.tr S188)) R R
 refine Jg R (Jc2 I23 R R (hvC (f189.ld 3 R R) R)) (Jf R (Jf2 f170.rdc hx59 U23 Z22 R R hn171 R) ?_)
 have f190:=f170.stp S188 R R
 obtain⟨ax59,ux59,f191,hl192⟩:=f190.rdc.gSl hx59
 refine Jg R (Jc2 I22 R R (hvC hl192 R)) (Jp1 (WA.fork2 (fuel:=4) 1 9 (by kernel_rfl) R ?_ ?_))
 refine Jl (Cl.refl _ _ _) R R R R (Jc2 I23 R R (hvE (f189.ld 3 R R))) (Jp1 (Jq1 (fuel:=3) [(9,1)] (by kernel_rfl) (by kernel_rfl) R (Jn1 (κ:=K168) (E:=E6) 7 [] (parts:=[(0,.tmp 61)]) (cells:=[vi v5]) (xs:=([v5]:List Int)) R R R R R R Y22 Tryzinfo2 R R R R R R R R R R ⟨[vi v5],[],Zl K168 w187 [],Zl K168 w187 [],R,Zl.sp (l1:=[]) (l2:=[]) R,Zl.sr (l1:=[]) (l2:=[]),R,R⟩ fun aA az w193 K194 S195 f196=>⟨(S195.cl R),Jp1 (WA.brk (fuel:=2) 10 (by kernel_rfl) R (by kernel_rfl) ?_)⟩)))
 have f197:=f190.stp S195 R R
 obtain⟨K198,S199,f200,f201⟩:=f197.borrow hx59 (hl192 _ (Stp.ag S195 R)) 8 R R
 refine Jm1 (κ:=K198) (E:=E6) 8 [] R R R R R R R R R Y22 Tryzinfo2 R R R R f200 (Sl.srcP (pu_int _) (f196.stp S199 R R).rdc) sy_false hx63 R fun ay ax w203 K204 S205 f206=>⟨tv,Jp1 (Jq1 (fuel:=0) [(11,2),(12,1)] (by kernel_rfl) (by kernel_rfl) R (Jf R (Jf2 f197.rdc hx64 U23 Z22 R R hn171 R) (WO.stH (κ:=K204) (E:=(Ep.own E6 2)) 4 [8] R R R R R R R R Z22 R ⟨_,_,R,f206⟩ R R (f201.stp S205 R R) hy181 fun w208 K209 S210 f211=>⟨tv,?_⟩)))⟩
 have hn212:((⟨p0.Arena.Owner,p0.Prio,p0.Arena.Next,x20,x22⟩:l7Game).prev).length=y181.length:=hn171.trans (Jt2 hy181).2.2.2.symm
 exact Jp1 (Jr1 [] (by kernel_rfl) (by kernel_rfl) R (Jo (Jw1 _ ⟨K209,R,(S188.tr (S195.tr (S199.tr (S205.tr S210)))).wk R,f211,hn212⟩ (KM R))))
 refine Jn1 (κ:=K168) (E:=E6) 7 [] (parts:=[(0,.tmp 61)]) (cells:=[vi v5]) (xs:=([v5]:List Int)) R R R R R R Y22 Tryzinfo2 R R R R R R R R R R ⟨[vi v5],[],Zl K168 w187 [],Zl K168 w187 [],R,Zl.sp (l1:=[]) (l2:=[]) R,Zl.sr (l1:=[]) (l2:=[]),R,R⟩ fun aA az w213 K214 S215 f216=>⟨(S215.cl R),Jp1 (WA.forkB2r (fuel:=3) 1 10 (by kernel_rfl) R (by kernel_rfl) ?_ ?_)⟩
 refine Jl (S215.cl R) R R R R (Jc2 I23 R R (hvE ((f189.stp S215 R R).ld 3 R R))) (Jp1 (WA.brk (fuel:=2) 10 (by kernel_rfl) R (by kernel_rfl) ?_))
 have f218:=f190.stp S215 R R
 obtain⟨K219,S220,f221,f222⟩:=f218.borrow hx59 (hl192 _ (Stp.ag S215 R)) 8 R R
 refine Jm1 (κ:=K219) (E:=E6) 8 [] R R R R R R R R R Y22 Tryzinfo2 R R R R f221 (Sl.srcP (pu_int _) (f216.stp S220 R R).rdc) sy_false hx63 R fun ay ax w224 K225 S226 f227=>⟨tv,Jp1 (Jq1 (fuel:=0) [(11,2),(12,1)] (by kernel_rfl) (by kernel_rfl) R (Jf R (Jf2 f218.rdc hx64 U23 Z22 R R hn171 R) (WO.stH (κ:=K225) (E:=(Ep.own E6 2)) 4 [8] R R R R R R R R Z22 R ⟨_,_,R,f227⟩ R R (f222.stp S226 R R) hy181 fun w229 K230 S231 f232=>⟨tv,?_⟩)))⟩
 have hn233:((⟨p0.Arena.Owner,p0.Prio,p0.Arena.Next,x20,x22⟩:l7Game).prev).length=y181.length:=hn171.trans (Jt2 hy181).2.2.2.symm
 exact Jp1 (Jr1 [] (by kernel_rfl) (by kernel_rfl) R (Jo (Jw1 _ ⟨K230,R,(S188.tr (S215.tr (S220.tr (S226.tr S231)))).wk R,f232,hn233⟩ (KM R))))
 have f234:=f190.stp S215 R R
 obtain⟨K235,S236,f237,f238⟩:=f234.borrow hx59 (hl192 _ (Stp.ag S215 R)) 8 R R
 refine Jm1 (κ:=K235) (E:=E6) 8 [] R R R R R R R R R Y22 Tryzinfo2 R R R R f237 (Sl.srcP (pu_int _) (f216.stp S236 R R).rdc) sy_false hx63 R fun ay ax w240 K241 S242 f243=>⟨tv,Jp1 (Jq1 (fuel:=0) [(1,1),(11,2),(12,1)] (by kernel_rfl) (by kernel_rfl) R (Jl tv R R R R (Jc2 I23 R R (hvE ((f189.stp (S215.tr (S236.tr S242)) R R).ld 3 R R))) (Jf R (Jf2 f234.rdc hx64 U23 Z22 R R hn171 R) (WO.stH (κ:=K241) (E:=(Ep.own E6 2)) 4 [8] R R R R R R R R Z22 R ⟨_,_,R,f243⟩ R R (f238.stp S242 R R) hy181 fun w246 K247 S248 f249=>⟨tv,?_⟩))))⟩
 have hn250:((⟨p0.Arena.Owner,p0.Prio,p0.Arena.Next,x20,x22⟩:l7Game).prev).length=y181.length:=hn171.trans (Jt2 hy181).2.2.2.symm
 exact Jp1 (Jr1 [] (by kernel_rfl) (by kernel_rfl) R (Jo (Jw1 _ ⟨K247,R,(S188.tr (S215.tr (S236.tr (S242.tr S248)))).wk R,f249,hn250⟩ (KM R))))
 rintro _ w181 ⟨K182,rfl,S183,f185,hn186⟩
 refine Jz (Jp (Ja [2,2,2] R (Jc 3 R ?_)))
 cases h
 exact Jz1 fun a ha=>⟨k,_,Ja3 _,⟨K182,(((IntKind.i64.wrap (s4.1+1)):Int),(y181:(List (List Int)))),R,(S169.tr S183).wk R,f185,hn186,hk173⟩,(ha.mm R)⟩
 rintro _ w162 ⟨K163,s6,rfl,S164,f165,hn166,rfl⟩
 have h:=hK160
 dsimp only[aft]at h
 refine Jz (Jp (Ja [2,2,2] R (Jc 3 R ?_)))
 have hw135:IntKind.wrap .i64 (v5+1)=v5+1:=wr1 hj135 (Jm2 hc135) hN135
 rw[hw135]
 have hc135:=Jm2 hc135
 cases h
 exact Jz1 fun a ha=>⟨k,_,Ja3 _,⟨K163,v5+1,((s6.2:(List (List Int))),(y179:(List Int))),R,(S147.tr (S156.tr S164)).wk R,f165,hn166,(f157.stp S164 R R),hn158,by omega,by omega,hk152⟩,(ha.mm R)⟩
 rintro _ w138 ⟨K139,s3,rfl,S140,f141,hn142,f143,hn144,rfl⟩
 have h:=hK136
 dsimp only[aft]at h
 refine Jp (Je [1,1] R (Jl tv R R R R (Jd2 (cs:=[.slice av ((⟨p0.Arena.Owner,p0.Prio,p0.Arena.Next,x20,x22⟩:l7Game).owner).length ar,.slice aq ((⟨p0.Arena.Owner,p0.Prio,p0.Arena.Next,x20,x22⟩:l7Game).prio).length au,.slice aw ((⟨p0.Arena.Owner,p0.Prio,p0.Arena.Next,x20,x22⟩:l7Game).next).length ap,.slice al ((⟨p0.Arena.Owner,p0.Prio,p0.Arena.Next,x20,x22⟩:l7Game).prev).length am,.slice ao ((⟨p0.Arena.Owner,p0.Prio,p0.Arena.Next,x20,x22⟩:l7Game).pick).length an]) I111 Z111 R R R (haE (f19.stp S140 R R).cells)) (Jj1 (κ:=K139) 3 (vc:=[.slice av ((⟨p0.Arena.Owner,p0.Prio,p0.Arena.Next,x20,x22⟩:l7Game).owner).length ar,.slice aq ((⟨p0.Arena.Owner,p0.Prio,p0.Arena.Next,x20,x22⟩:l7Game).prio).length au,.slice aw ((⟨p0.Arena.Owner,p0.Prio,p0.Arena.Next,x20,x22⟩:l7Game).next).length ap,.slice al ((⟨p0.Arena.Owner,p0.Prio,p0.Arena.Next,x20,x22⟩:l7Game).prev).length am,.slice ao ((⟨p0.Arena.Owner,p0.Prio,p0.Arena.Next,x20,x22⟩:l7Game).pick).length an]) R R R R R R R Z111 R R (f8.stp (S12.tr S140) R R) R fun w254 S255 f256=>⟨tv,Jd (Ju (Ja2 (l:=[.cell 2 111]) V98 (res_cellA R f256 I111 Z111 R R) R ?_))⟩)))
 cases h
 have S007:=(S140.tr S255)
 exact⟨(fun b=>ren [(4,5),(5,6)] (K139 b)),av,ar,aq,au,aw,ap,al,am,ao,an,(by simp only[hn142,hn144]),((hE.stp (S3.tr (S7.tr (S12.tr (S140.tr S255)))) R R).map (ren [(4,5),(5,6)]) R R),((f14.stp S007 R R).map (ren [(4,5),(5,6)]) R R),((f15.stp S007 R R).map (ren [(4,5),(5,6)]) R R),((f16.stp S007 R R).map (ren [(4,5),(5,6)]) R R),((f141.stp S255 R R).map (ren [(4,5),(5,6)]) R R),((f143.stp S255 R R).map (ren [(4,5),(5,6)]) R R)⟩
theorem s_l1Max_ok {w:World}{κ:Col}{p0:Int}{p1:Int}  {r:Int}(h:s_l1Max p0 p1=some r):Ret Tryz.prog 171 [vi p0,vi p1] w (fun v w'=>∃(κ':Col),v=vi r∧Ent κ w κ' w'):=by
 unfold s_l1Max at h
 refine Ret.enter F171 R N171 R ?_
 dsimp only[envOf]
 have hE:=Ent.refl κ w
 refine Je [2] R (Jb 1 R (Jq (Je [2,2,2] R (Jb 3 R ?_))))
 revert h
 cases ht1:decide (p1<p0)
 refine JF fun h=>Jy R (Js (Jp (Je [2,2] R (Jb 2 R (Ju (Ja2 (l:=[.tmp 4]) V171 (Jp2 R R) R ?_))))))
 cases h
 exact⟨κ,R,hE⟩
 refine JT fun h=>Jx R (Je [2,2] R (Jb 2 R (Ju (Jw (Ja2 (l:=[.tmp 4]) V171 (Jp2 R R) R ?_)))))
 cases h
 exact⟨κ,R,hE⟩
theorem i_AllOf_ok {w:World}{κ:Col}{p0:Int}  {r:(List Int)}(h:i_AllOf p0=some r):Ret Tryz.prog 132 [vi p0] w (fun v w'=>∃(κ':Col) (ra0:Option Addr) (ru0:Nat),v= .slice ra0 r.length ru0∧Ent κ w κ' w'∧Oc E6 2 κ' w' 2 ra0 ru0 r):=by
 unfold i_AllOf at h
 refine Ret.enter F132 R N132 R ?_
 dsimp only[envOf]
 have hE:=Ent.refl κ w
 refine Je [2] R (Jb 1 R (Jq (Je [2,2,2,2,2,2] R (Jn 3 R (Ob h fun p10 h hK1=>Ju1 [(3,2),(4,2),(5,2)] [] (fun L w'=>L=[(0,vi p0),(10,.bool p10)]∧∃κ',Stp [] κ w κ' w') tv ?_ ?_)))))
 revert h
 cases ht2:decide (p0<0)
 refine JF fun h=>Jn 3 R ?_
 cases h
 exact Jv1 _ tv ⟨R,_,(Jx2 _ _).wk R⟩ (KM R)
 refine JT fun h=>Jn 3 R ?_
 cases h
 exact Jv1 _ tv ⟨R,_,(Jx2 _ _).wk R⟩ (KM R)
 rintro _ w3 _ ⟨rfl,K4,S5⟩
 have h:=hK1
 refine Jd ?_
 revert h
 cases ht6:p10
 refine JF fun h=>Jy R (Js (Jp (Je [1,2] R (Jo1 (κ:=K4) (E:=E6) 2 R R R R R Y22 Tryzinfo2 R fun ai ae w8 K9 S10 f11=>⟨tv,Jb 1 R (Jq (Je [2] R (Jb 1 R (Ob h fun _ hr12 h=>?_))))⟩))))
 have hN12:=rng_ok hr12
 refine Ob h fun q2 hq14 hK13=>?_
 clear h
 refine Jx1 (fun L w'=>∃κ',∃s3:(List Int),∃ac aa,L=[(3,.slice ac s3.length aa)]∧Stp [2] K9 w8 κ' w'∧Oc E6 2 κ' w' 2 ac aa s3∧q2=Sum.inr s3) ?_ ?_
 refine Jv (Jy1 (fun k L w'=>∃κ' v4,∃s1:(List Int),∃ad ab,L=[(0,vi p0),(3,.slice ad s1.length ab),(4,vi v4)]∧Stp [2] K9 w8 κ' w'∧Oc E6 2 κ' w' 2 ad ab s1∧0≤v4∧Int.toNat (p0-v4)=k∧cntM i_AllOf_b0 k v4 s1=some q2) ⟨_,_,⟨K9,0,(([]:List Int):(List Int)),ai,ae,R,(Jx2 _ _).wk R,f11,(by decide),(by simp),hq14⟩,(KM R)⟩ ?_)
 rintro k _ w19 ⟨K20,v4,s1,ad,ab,rfl,S21,f22,hj12,hJ12,h⟩
 rcases k with _ | k
 have hk23:=h;obtain⟨o12,h⟩:=ex_eq (Sum.inr (Sum.inl s1):(List Int)⊕(((List Int))⊕((List Int))))
 have hc12:decide (v4<p0)=false:=Jo2 (by omega)
 refine Jq (Je [2,2,2] R (Jb 3 R (Jw2 R hc12 (Jc1 (Jt (Jt ?_))))))
 cases h
 have h:=hk23
 refine Jb1 ?_
 cases h
 exact Jw1 _ ⟨K20,(s1:(List Int)),ad,ab,R,S21.wk R,f22,R⟩ (KM R)
 obtain⟨o12,h,hk23⟩:=BI h;unfold i_AllOf_b0 at h
 have hc12:decide (v4<p0)=true:=Jn2 (by omega)
 refine Jq (Je [2,2,2] R (Jb 3 R (Jv2 R hc12 (Js (Jp (Jq (Jv (Ja [2,2,1,1,2] R (Jn 2 R (Jn1 (κ:=K20) (E:=E6) 3 [] (parts:=[(0,.tmp 18)]) (cells:=[vi v4]) (xs:=([v4]:List Int)) R R R R R R Y22 Tryzinfo2 R R R R R R R R R R ⟨[vi v4],[],Zl K20 w19 [],Zl K20 w19 [],R,Zl.sp (l1:=[]) (l2:=[]) R,Zl.sr (l1:=[]) (l2:=[]),R,R⟩ fun ak aj w24 K25 S26 f27=>⟨tv,Ob h fun x20 hx20 h=>Jm1 (κ:=K25) (E:=E6) 2 [] R R R R R R R R R Y22 Tryzinfo2 R R R R (f22.stp S26 R R) (Sl.srcP (pu_int _) f27.rdc) sy_false hx20 R fun ah af w29 K30 S31 f32=>⟨tv,Jc 1 R (Jz (Jp (Ja [2,2,2] R (Jc 3 R ?_))))⟩⟩))))))))))
 have hw12:IntKind.wrap .i64 (v4+1)=v4+1:=wr1 hj12 (Jm2 hc12) hN12
 rw[hw12]
 have hc12:=Jm2 hc12
 cases h
 exact Jz1 fun a ha=>⟨k,_,Ja3 _,⟨K30,v4+1,(x20:(List Int)),ah,af,R,(S21.tr (S26.tr S31)).wk R,f32,by omega,by omega,hk23⟩,(ha.mm R)⟩
 rintro _ w15 ⟨K16,s3,ac,aa,rfl,S17,f18,rfl⟩
 have h:=hK13
 dsimp only[aft]at h
 refine Jp (Je [2,2] R (Jb 2 R (Ju (Ja2 (l:=[.tmp 2]) V132 (Jp2 R R) R ?_))))
 cases h
 exact⟨K16,ac,aa,R,(hE.stp (S5.tr (S10.tr S17)) R R),f18⟩
 refine JT fun h=>Jx R (Je [2] R (Jb 1 R (Ju (Jw (Ja2 (l:=[.tmp 2]) V132 (Jp2 R R) R ?_)))))
 cases h
 exact⟨K4,none,0,R,(hE.stp S5 R R),Ow.nil⟩
theorem s_l1Has_ok {w:World}{κ:Col}{a0 u0}{p0:(List Int)}{p1:Int}(g0:Rd (Rp.int .i64) κ w 0 a0 u0 p0){r:Bool}(h:s_l1Has p0 p1=some r):Ret Tryz.prog 103 [.slice a0 p0.length u0,vi p1] w (fun v w'=>∃(κ':Col),v= .bool r∧Ent κ w κ' w'):=by
 unfold s_l1Has at h
 refine Ret.enter F103 R N103 R ?_
 dsimp only[envOf]
 have hE:=Ent.refl κ w
 refine Je [2] R (Jb 1 R (Jq (Je [2] R (Jb 1 R ?_))))
 have hN1:(p0.length:Int)≤9223372036854775807:=g0.len_le
 refine Ob h fun q2 hq3 hK2=>?_
 clear h
 refine Jx1 (fun L w'=>∃κ',L=[]∧Stp [] κ w κ' w'∧q2=Sum.inr ()) ?_ ?_
 refine Jv (Jy1 (fun k L w'=>∃κ' v5,L=[(0,.slice a0 p0.length u0),(1,vi p1),(5,vi v5)]∧Stp [] κ w κ' w'∧0≤v5∧Int.toNat ((p0.length:Int)-v5)=k∧cntM (s_l1Has_b0 p0 p1) k v5 ()=some q2) ⟨_,_,⟨κ,0,R,(Jx2 _ _).wk R,(by decide),(by simp),hq3⟩,(KM R)⟩ ?_)
 rintro k _ w7 ⟨K8,v5,rfl,S9,hj1,hJ1,h⟩
 rcases k with _ | k
 have hk10:=h;obtain⟨o1,h⟩:=ex_eq (Sum.inr (Sum.inl ()):Bool⊕((Unit)⊕(Unit)))
 have hc1:decide (v5<(p0.length:Int))=false:=Jo2 (by omega)
 refine Jq (Je [2,2,2,2] R (Jn 2 R (Jf R (Je2 U22 R R) (Jb 1 R (Jw2 R hc1 (Jc1 (Jt (Jt ?_))))))))
 cases h
 have h:=hk10
 refine Jb1 ?_
 cases h
 exact Jw1 _ ⟨K8,R,S9.wk R,R⟩ KN
 obtain⟨o1,h,hk10⟩:=BI h;unfold s_l1Has_b0 at h
 have hc1:decide (v5<(p0.length:Int))=true:=Jn2 (by omega)
 refine Jq (Je [2,2,2,2] R (Jn 2 R (Jf R (Je2 U22 R R) (Jb 1 R (Jv2 R hc1 (Js (Jp (Jq (Jv (Je [2,2,2,1,2,2] R (Jn 2 R (Ob h fun x14 hx14 h=>Jf R (Jf2 g0 hx14 U22 Z2 R R R R) (Jl tv R R R R (Jc2 I2 R R (hvE ((g0.stp S9 R R).gInt hx14))) (Jb 2 R ?_))))))))))))))
 revert h
 cases ht12:(x14==p1)
 refine JF fun h=>Jy R (Js (Jz (Jp (Ja [2,2,2] R (Jc 3 R ?_)))))
 have hw1:IntKind.wrap .i64 (v5+1)=v5+1:=wr1 hj1 (Jm2 hc1) hN1
 rw[hw1]
 have hc1:=Jm2 hc1
 cases h
 exact Jz1 fun a ha=>⟨k,_,Ja3 _,⟨K8,v5+1,R,S9.wk R,by omega,by omega,hk10⟩,(ha.mm R)⟩
 refine JT fun h=>Jx R (Je [2] R (Jb 1 R (Ju (Ja1 (Jw (Jw ?_))))))
 cases h
 obtain rfl:=Option.some.inj hk10
 have h:=hK2
 dsimp only[aft]at h
 refine Ja1 (Jq2 (Jw (Ja2 (l:=[.tmp 4]) V103 (Jp2 R R) R ?_)))
 cases h
 exact⟨K8,R,(hE.stp S9 R R)⟩
 rintro _ w4 ⟨K5,rfl,S6,rfl⟩
 have h:=hK2
 dsimp only[aft]at h
 refine Jp (Je [2] R (Jb 1 R (Ju (Ja2 (l:=[.tmp 4]) V103 (Jp2 R R) R ?_))))
 cases h
 exact⟨K5,R,(hE.stp S6 R R)⟩
theorem s_l1Marks_ok {w:World}{κ:Col}{a0 u0}{p0:(List Int)}{p1:Int}(g0:Rd (Rp.int .i64) κ w 0 a0 u0 p0){r:(List Bool)}(h:s_l1Marks p0 p1=some r):Ret Tryz.prog 136 [.slice a0 p0.length u0,vi p1] w (fun v w'=>∃(κ':Col) (ra0:Option Addr) (ru0:Nat),v= .slice ra0 r.length ru0∧Ent κ w κ' w'∧Oc Ep.bool 4 κ' w' 2 ra0 ru0 r):=by
 unfold s_l1Marks at h
 refine Ret.enter F136 R N136 R ?_
 dsimp only[envOf]
 have hE:=Ent.refl κ w
 refine Je [2] R (Jb 1 R (Je [2,1,2] R (Jn 1 R (Ob h fun x8 hx8 h=>Jl1 (κ:=κ) (E:=Ep.bool) (z:=(false:Bool)) 2 R R R R R R R Y70 Tryzinfo4 R R R R R (fun _ _ _=>R) (Ju2 hx8) fun a8 u8 w1 K2 S3 f4=>⟨tv,Jb 1 R (Jq (Je [2] R (Jb 1 R ?_)))⟩))))
 have hN5:(p0.length:Int)≤9223372036854775807:=g0.len_le
 refine Ob h fun q2 hq7 hK6=>?_
 clear h
 refine Jx1 (fun L w'=>∃κ',∃s3:(List Bool),L=[(5,.slice a8 x8.length u8)]∧Stp [2] K2 w1 κ' w'∧Oc Ep.bool 4 κ' w' 2 a8 u8 s3∧x8.length=s3.length∧q2=Sum.inr s3) ?_ ?_
 refine Jv (Jy1 (fun k L w'=>∃κ' v6,∃s1:(List Bool),L=[(0,.slice a0 p0.length u0),(5,.slice a8 x8.length u8),(6,vi v6)]∧Stp [2] K2 w1 κ' w'∧Oc Ep.bool 4 κ' w' 2 a8 u8 s1∧x8.length=s1.length∧0≤v6∧Int.toNat ((p0.length:Int)-v6)=k∧cntM (s_l1Marks_b0 p0) k v6 s1=some q2) ⟨_,_,⟨K2,0,(x8:(List Bool)),R,(Jx2 _ _).wk R,f4,R,(by decide),(by simp),hq7⟩,(KM R)⟩ ?_)
 rintro k _ w13 ⟨K14,v6,s1,rfl,S15,f16,hn17,hj5,hJ5,h⟩
 rcases k with _ | k
 have hk18:=h;obtain⟨o5,h⟩:=ex_eq (Sum.inr (Sum.inl s1):(List Bool)⊕(((List Bool))⊕((List Bool))))
 have hc5:decide (v6<(p0.length:Int))=false:=Jo2 (by omega)
 refine Jq (Je [2,2,2,2] R (Jn 2 R (Jf R (Je2 U22 R R) (Jb 1 R (Jw2 R hc5 (Jc1 (Jt (Jt ?_))))))))
 cases h
 have h:=hk18
 refine Jb1 ?_
 cases h
 exact Jw1 _ ⟨K14,(s1:(List Bool)),R,S15.wk R,f16,hn17,R⟩ (KM R)
 obtain⟨o5,h,hk18⟩:=BI h;unfold s_l1Marks_b0 at h
 have hc5:decide (v6<(p0.length:Int))=true:=Jn2 (by omega)
 refine Jq (Je [2,2,2,2] R (Jn 2 R (Jf R (Je2 U22 R R) (Jb 1 R (Jv2 R hc5 (Js (Jp (Jq (Jv (Ja [2,2,2,2,1,2,1] R (Jn 3 R (Ob h fun x18 hx18 h=>Jf R (Jf2 g0 hx18 U22 Z2 R R R R) (Jl tv R R R R (Jc2 I2 R R (hvE ((g0.stp (S3.tr S15) R R).gInt hx18))) (Ob h fun x20 hx20 h=>Jf R (Jf2 f16.rdc hx20 U70 Z4 R R hn17 R) (Ob h fun y399 hy399 h=>Jk1 (κ:=K14) (E:=Ep.bool) 2 [] R R R R R R R R Z4 R R R R f16 hy399 fun w20 K21 S22 f23=>⟨tv,?_⟩)))))))))))))))
 have hn24:x8.length=y399.length:=hn17.trans (Jt2 hy399).2.2.2.symm
 refine Jo (Jz (Jp (Ja [2,2,2] R (Jc 3 R ?_))))
 have hw5:IntKind.wrap .i64 (v6+1)=v6+1:=wr1 hj5 (Jm2 hc5) hN5
 rw[hw5]
 have hc5:=Jm2 hc5
 cases h
 exact Jz1 fun a ha=>⟨k,_,Ja3 _,⟨K21,v6+1,(y399:(List Bool)),R,(S15.tr S22).wk R,f23,hn24,by omega,by omega,hk18⟩,(ha.mm R)⟩
 rintro _ w8 ⟨K9,s3,rfl,S10,f11,hn12,rfl⟩
 have h:=hK6
 dsimp only[aft]at h
 refine Jp (Je [2,2] R (Jb 2 R (Ju (Ja2 (l:=[.tmp 4]) V136 (Jp2 R R) R ?_))))
 cases h
 exact⟨K9,a8,u8,(by simp only[hn12]),(hE.stp (S3.tr S10) R R),f11⟩
theorem l_likeInts_ok {w:World}{κ:Col}{a0 u0}{p0:(List Int)}{a1 u1}{p1:(List Int)}(g0:Rd (Rp.int .i64) κ w 0 a0 u0 p0) (g1:Rd (Rp.int .i64) κ w 0 a1 u1 p1){r:Bool}(h:l_likeInts p0 p1=some r):Ret Tryz.prog 28 [.slice a0 p0.length u0,.slice a1 p1.length u1] w (fun v w'=>∃(κ':Col),v= .bool r∧Ent κ w κ' w'):=by
 unfold l_likeInts at h
 refine Ret.enter F28 R N28 R ?_
 dsimp only[envOf]
 have hE:=Ent.refl κ w
 refine Je [2] R (Jb 1 R (Jq (Je [2,2,2,2,2] R (Jn 1 R (Jf R (Je2 U22 R R) (Jn 1 R (Jf R (Je2 U22 R R) (Jb 1 R ?_))))))))
 revert h
 cases ht1:((p0.length:Int) !=(p1.length:Int))
 refine JF fun h=>Jy R (Js (Jp (Jq (Je [2] R (Jb 1 R ?_)))))
 have hN2:(p0.length:Int)≤9223372036854775807:=g0.len_le
 refine Ob h fun q2 hq4 hK3=>?_
 clear h
 refine Jx1 (fun L w'=>∃κ',L=[]∧Stp [] κ w κ' w'∧q2=Sum.inr ()) ?_ ?_
 refine Jv (Jy1 (fun k L w'=>∃κ' v5,L=[(0,.slice a0 p0.length u0),(1,.slice a1 p1.length u1),(5,vi v5)]∧Stp [] κ w κ' w'∧0≤v5∧Int.toNat ((p0.length:Int)-v5)=k∧cntM (l_likeInts_b0 p0 p1) k v5 ()=some q2) ⟨_,_,⟨κ,0,R,(Jx2 _ _).wk R,(by decide),(by simp),hq4⟩,(KM R)⟩ ?_)
 rintro k _ w8 ⟨K9,v5,rfl,S10,hj2,hJ2,h⟩
 rcases k with _ | k
 have hk11:=h;obtain⟨o2,h⟩:=ex_eq (Sum.inr (Sum.inl ()):Bool⊕((Unit)⊕(Unit)))
 have hc2:decide (v5<(p0.length:Int))=false:=Jo2 (by omega)
 refine Jq (Je [2,2,2,2] R (Jn 2 R (Jf R (Je2 U22 R R) (Jb 1 R (Jw2 R hc2 (Jc1 (Jt (Jt ?_))))))))
 cases h
 have h:=hk11
 refine Jb1 ?_
 cases h
 exact Jw1 _ ⟨K9,R,S10.wk R,R⟩ KN
 obtain⟨o2,h,hk11⟩:=BI h;unfold l_likeInts_b0 at h
 have hc2:decide (v5<(p0.length:Int))=true:=Jn2 (by omega)
 refine Jq (Je [2,2,2,2] R (Jn 2 R (Jf R (Je2 U22 R R) (Jb 1 R (Jv2 R hc2 (Js (Jp (Jq (Jv (Jq (Js1 (κ:=K9) [0] none [(0,2),(1,2),(2,2),(4,2),(5,2),(6,2),(3,0),(7,0),(8,2)] [] (by kernel_rfl) (by kernel_rfl) fun w13 S12=>Jn 2 R (Ob h fun x19 hx19 h=>Jf R (Jf2 g0 hx19 U22 Z2 R R R R) (Jn 2 R (Ob h fun x23 hx23 h=>Jf R (Jf2 g1 hx23 U22 Z2 R R R R) (Jg R (Jc2 I2 R R (hvC ((g0.stp (S10.tr S12) R R).gInt hx19) R)) (Jg R (Jc2 I2 R R (hvC ((g1.stp (S10.tr S12) R R).gInt hx23) R)) (Jn 1 R (Jt1 (Jd ?_)))))))))))))))))))
 revert h
 cases ht16:(x19 !=x23)
 refine JF fun h=>Jy R (Js (Jz (Jp (Ja [2,2,2] R (Jc 3 R ?_)))))
 have hw2:IntKind.wrap .i64 (v5+1)=v5+1:=wr1 hj2 (Jm2 hc2) hN2
 rw[hw2]
 have hc2:=Jm2 hc2
 cases h
 exact Jz1 fun a ha=>⟨k,_,Ja3 _,⟨K9,v5+1,R,(S10.tr S12).wk R,by omega,by omega,hk11⟩,(ha.mm R)⟩
 refine JT fun h=>Jx R (Je [2] R (Jb 1 R (Ju (Ja1 (Jw (Jw ?_))))))
 cases h
 obtain rfl:=Option.some.inj hk11
 have h:=hK3
 dsimp only[aft]at h
 refine Ja1 (Jq2 (Jw (Ja2 (l:=[.tmp 4]) V28 (Jp2 R R) R ?_)))
 cases h
 exact⟨K9,R,(hE.stp (S10.tr S12) R R)⟩
 rintro _ w5 ⟨K6,rfl,S7,rfl⟩
 have h:=hK3
 dsimp only[aft]at h
 refine Jp (Je [2] R (Jb 1 R (Ju (Ja2 (l:=[.tmp 4]) V28 (Jp2 R R) R ?_))))
 cases h
 exact⟨K6,R,(hE.stp S7 R R)⟩
 refine JT fun h=>Jx R (Je [2] R (Jb 1 R (Ju (Jw (Ja2 (l:=[.tmp 4]) V28 (Jp2 R R) R ?_)))))
 cases h
 exact⟨κ,R,hE⟩
end Go.Proofs.YtmiilifclnanlaaGreat
