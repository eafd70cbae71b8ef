/- The walks, part 9. By program. -/
import Derived.Test.YtmiilifclnanlaaGreatFns6EE
import Derived.Test.YtmiilifclnanlaaGreatFns7EE
set_option linter.unusedVariables false
set_option linter.unusedSimpArgs false
namespace Go.Proofs.YtmiilifclnanlaaGreat
open Go Go.Wk Go.Proofs
set_option maxRecDepth 100000
set_option maxHeartbeats 1000000
theorem s_l4Draw_ok {w:World}{κ:Col}{ai ah}{p0:l1Cur}{b0}(g0_0:Rd (Rp.int .u8) κ w 0 ai ah p0.b) (gb0:Bc κ w 2 b0 107 [.slice ai p0.b.length ah,vi p0.i,vi p0.h]){r:Parity×Int×Int}(h:s_l4Draw p0=some r):Ret Tryz.prog 107 [.pointer (some ⟨b0,0,none⟩)] w (fun v w'=>∃(κ':Col) (ra0:Option Addr) (ru0:Nat) (ra1:Option Addr) (ru1:Nat) (ra2:Option Addr) (ru2:Nat),v= .agg #[.slice ra0 r.1.Arena.Owner.length ru0,.slice ra1 r.1.Arena.Next.length ru1,.slice ra2 r.1.Prio.length ru2]∧Ent κ w κ' w'∧Oc E6 2 κ' w' 3 ra0 ru0 r.1.Arena.Owner∧Oc (Ep.own E6 2) 22 κ' w' 4 ra1 ru1 r.1.Arena.Next∧Oc E6 2 κ' w' 5 ra2 ru2 r.1.Prio∧Bc κ' w' 2 b0 107 [.slice ai p0.b.length ah,vi r.2.1,vi r.2.2]):=by
 unfold s_l4Draw at h
 refine Ret.enter F107 R N107 R ?_
 dsimp only[envOf]
 have hE:=Ent.refl κ w
 refine Je [1] R (Jg1 (κ:=κ) 3 R R R R R X39 R fun b2 w1 K2 S3 f4=>⟨tv,Jd (Je [2,1,2,1,1] R (Jn 1 R (Ob h fun x7 hx7 h=>?_)))⟩)
 have f5:=g0_0.stp S3 R R
 refine Jh R R R C137 (s_l1Draw_ok (κ:=fun b=>mp [(2,2)] 0 (K2 b)) (p0:=p0) (Jl2 f5 (mp [(2,2)] 0) R R) ((gb0.stp S3 R R).map (mp [(2,2)] 0) R R) hx7) ?_
 rintro _ w7 ⟨k8,ab,aa,ac,ad,rfl,e9,f10,f11,f12⟩
 obtain⟨K13,S14,m15⟩:=Ji e9 4 R
 refine⟨tv,?_⟩
 have f17:=f10.mx (no_int _) m15 R (R:4+3=7)
 refine Jf R (rn_build (parts:=[(0,.tmp 7)]) (cells:=[.slice ab x7.1.Owner.length aa,.slice ac x7.1.Next.length ad,.slice none 0 0]) R R (by kernel_rfl)) (Jg1 (κ:=K13) 9 R R R R R X39 R fun b3 w20 K21 S22 f23=>⟨tv,Jj1 (κ:=K21) 9 (vc:=[.slice ab x7.1.Owner.length aa,.slice ac x7.1.Next.length ad,.slice none 0 0]) R R R R R R R Z39 R R f23 R fun w24 S25 f26=>⟨tv,Jd (Je [2,1,2,2] R (Jn 1 R (Ob h fun x10 hx10 h=>?_)))⟩⟩)
 have f27:=f5.stp (S14.tr (S22.tr S25)) R R
 refine Jh R R R C69 (s_l1Below_ok (κ:=fun b=>mp [(6,2)] 0 (K21 b)) (p0:=(⟨p0.b,x7.2.1,x7.2.2⟩:l1Cur)) (Jl2 f27 (mp [(6,2)] 0) R R) (((f12.mx m15 R (R:4+2=6)).stp (S22.tr S25) R R).map (mp [(6,2)] 0) R R) hx10) ?_
 rintro _ w29 ⟨k30,rfl,e31,f32⟩
 obtain⟨K33,S34,m35⟩:=Ji e31 10 R
 refine⟨tv,Jb 2 R (Jq (Je [2] R (Jb 1 R ?_)))⟩
 have hN38:(x7.1.Owner.length:Int)≤9223372036854775807:=f17.len_le
 refine Ob h fun q2 hq40 hK39=>?_
 clear h
 refine Jx1 (fun L w'=>∃κ',∃s3:Int×Int×(List Int),∃af ae,L=[(0,.pointer (some ⟨b0,0,none⟩)),(2,.pointer (some ⟨b2,0,none⟩)),(3,.pointer (some ⟨b3,0,none⟩))]∧Stp [9,12,13,16] K33 w29 κ' w'∧Oc E6 2 κ' w' 13 af ae s3.2.2∧Bc κ' w' 12 b0 107 [.slice ai p0.b.length ah,vi s3.1,vi s3.2.1]∧Bc κ' w' 9 b3 39 [.slice ab x7.1.Owner.length aa,.slice ac x7.1.Next.length ad,.slice af s3.2.2.length ae]∧q2=Sum.inr s3) ?_ ?_
 refine Jv (Jy1 (fun k L w'=>∃κ' v5,∃s1:Int×Int×(List Int),∃ak aj,L=[(0,.pointer (some ⟨b0,0,none⟩)),(2,.pointer (some ⟨b2,0,none⟩)),(3,.pointer (some ⟨b3,0,none⟩)),(4,vi (IntKind.i64.wrap (3+x10.1))),(5,vi v5)]∧Stp [9,12,13,16] K33 w29 κ' w'∧Oc E6 2 κ' w' 13 ak aj s1.2.2∧Bc κ' w' 12 b0 107 [.slice ai p0.b.length ah,vi s1.1,vi s1.2.1]∧Bc κ' w' 9 b3 39 [.slice ab x7.1.Owner.length aa,.slice ac x7.1.Next.length ad,.slice ak s1.2.2.length aj]∧0≤v5∧Int.toNat ((x7.1.Owner.length:Int)-v5)=k∧cntM (s_l4Draw_b0 p0 x10) k v5 s1=some q2) ⟨_,_,⟨K33,0,((x10.2.1:Int),(x10.2.2:Int),(([]:List Int):(List Int))),none,0,R,(Jx2 _ _).wk R,Ow.nil,(f32.mx m35 R (R:10+2=12)),(f26.stp S34 R R),(by decide),(by simp),hq40⟩,(KM R)⟩ ?_)
 rintro k _ w47 ⟨K48,v5,s1,ak,aj,rfl,S49,f50,f51,f52,hj38,hJ38,h⟩
 rcases k with _ | k
 have hk54:=h;obtain⟨o38,h⟩:=ex_eq (Sum.inr (Sum.inl s1):(Parity×Int×Int)⊕((Int×Int×(List Int))⊕(Int×Int×(List Int))))
 have hc38:decide (v5<(x7.1.Owner.length:Int))=false:=Jo2 (by omega)
 refine Jq (Je [2,2,2,1,2,2] R (Jn 1 R (Jf R (Jb2 U39 R Z37 R R) (Jf R (Jb2 U37 R Z22 R R) (Jl tv R R R R (Jc2 I22 R R (hvE (f52.ld 0 R R))) (Jf R (Je2 U22 R R) (Jb 1 R (Jw2 R hc38 (Jc1 (Jt (Jt ?_)))))))))))
 cases h
 have h:=hk54
 refine Jb1 ?_
 cases h
 exact Jw1 _ ⟨K48,((s1.1:Int),(s1.2.1:Int),(s1.2.2:(List Int))),ak,aj,R,S49.wk R,f50,f51,f52,R⟩ (KM R)
 obtain⟨o38,h,hk54⟩:=BI h;unfold s_l4Draw_b0 at h
 have hc38:decide (v5<(x7.1.Owner.length:Int))=true:=Jn2 (by omega)
 refine Jq (Je [2,2,2,1,2,2] R (Jn 1 R (Jf R (Jb2 U39 R Z37 R R) (Jf R (Jb2 U37 R Z22 R R) (Jl tv R R R R (Jc2 I22 R R (hvE (f52.ld 0 R R))) (Jf R (Je2 U22 R R) (Jb 1 R (Jv2 R hc38 (Js (Jp (Jq (Jv (Js1 (κ:=K48) [9] (some 8) [(0,2),(2,2),(3,2),(1,0),(4,1),(5,1),(6,1),(7,2)] [(8,1)] (by kernel_rfl) (by kernel_rfl) fun w56 S55=>Jf R (Jb2 U39 R Z22 R R) (Jn 2 R ?_))))))))))))))
 have f57:=f52.stp S55 R R
 refine Jg R (Jc2 I22 R R (hvC (f57.ld 2 R R) R)) (Ob h fun x24 hx24 h=>Jh R R R C69 (s_l1Below_ok (κ:=fun b=>mp [(12,2)] 0 (K48 b)) (p0:=(⟨p0.b,s1.1,s1.2.1⟩:l1Cur)) (Jl2 (f27.stp (S34.tr (S49.tr S55)) R R) (mp [(12,2)] 0) R R) ((f51.stp S55 R R).map (mp [(12,2)] 0) R R) hx24) ?_)
 rintro _ w60 ⟨k61,rfl,e62,f63⟩
 obtain⟨K64,S65,m66⟩:=Ji e62 14 R
 refine⟨(S65.cl R),Jn1 (κ:=K64) (E:=E6) 17 [] (parts:=[(0,.tmp 24)]) (cells:=[vi x24.1]) (xs:=([x24.1]:List Int)) R R R R R R Y22 Tryzinfo2 R R R R R R R R R R ⟨[vi x24.1],[],Zl K64 w60 [],Zl K64 w60 [],R,Zl.sp (l1:=[]) (l2:=[]) R,Zl.sr (l1:=[]) (l2:=[]),R,R⟩ fun ao an w69 K70 S71 f72=>⟨((S65.tr S71).cl R),Ob h fun x26 hx26 h=>Jm1 (κ:=K70) (E:=E6) 13 [] R R R R R R R R R Y22 Tryzinfo2 R R R R (f50.stp (S55.tr (S65.tr S71)) R R) (Sl.srcP (pu_int _) f72.rdc) sy_false hx26 R fun am al w74 K75 S76 f77=>⟨((S65.tr (S71.tr S76)).cl R),Jf R (Jb2 U39 R Z22 R R) (Jt1 (Ji1 (κ:=K75) 9 (off:=2) (vc:=[.slice am x26.length al]) (cs':=[.slice ab x7.1.Owner.length aa,.slice ac x7.1.Next.length ad,.slice am x26.length al]) R R R R R R R Z22 R R (f57.stp (S65.tr (S71.tr S76)) R R) R R fun w79 S80 f81=>⟨tv,Jo (Jz (Jp (Ja [2,2,2] R (Jc 3 R ?_))))⟩))⟩⟩⟩
 have hw38:IntKind.wrap .i64 (v5+1)=v5+1:=wr1 hj38 (Jm2 hc38) hN38
 rw[hw38]
 have hc38:=Jm2 hc38
 cases h
 exact Jz1 fun a ha=>⟨k,_,Ja3 _,⟨(fun b=>ren [(16,12)] (K75 b)),v5+1,((x24.2.1:Int),(x24.2.2:Int),(x26:(List Int))),am,al,R,(Jy2 ((S49.tr (S55.tr (S65.tr (S71.tr (S76.tr S80))))).wk R) [(16,12)] R),((f77.stp S80 R R).map (ren [(16,12)]) R R),(((f63.mx m66 R (R:14+2=16)).stp (S71.tr (S76.tr S80)) R R).map (ren [(16,12)]) R R),(f81.map (ren [(16,12)]) R R),by omega,by omega,hk54⟩,(ha.mm R)⟩
 rintro _ w41 ⟨K42,s3,af,ae,rfl,S43,f44,f45,f46,rfl⟩
 have h:=hK39
 dsimp only[aft]at h
 refine Jp (Je [1,1] R (Jl tv R R R R (Jd2 (cs:=[.slice ab x7.1.Owner.length aa,.slice ac x7.1.Next.length ad,.slice af s3.2.2.length ae]) I39 Z39 R R R (haE f46.cells)) (Jj1 (κ:=K42) 3 (vc:=[.slice ab x7.1.Owner.length aa,.slice ac x7.1.Next.length ad,.slice af s3.2.2.length ae]) R R R R R R R Z39 R R (f4.stp (S14.tr (S22.tr (S25.tr (S34.tr S43)))) R R) R fun w85 S86 f87=>⟨tv,Jd (Ju (Ja2 (l:=[.cell 2 39]) V107 (res_cellA R f87 I39 Z39 R R) R ?_))⟩)))
 cases h
 have S001:=(S22.tr (S25.tr (S34.tr (S43.tr S86))))
 exact⟨(fun b=>ren [(7,3),(8,4),(13,5),(12,2)] (K42 b)),ab,aa,ac,ad,af,ae,R,((hE.stp (S3.tr (S14.tr (S22.tr (S25.tr (S34.tr (S43.tr S86)))))) R R).map (ren [(7,3),(8,4),(13,5),(12,2)]) R R),((f17.stp S001 R R).map (ren [(7,3),(8,4),(13,5),(12,2)]) R R),(((f11.mx (no_own (no_int _) _) m15 R (R:4+4=8)).stp S001 R R).map (ren [(7,3),(8,4),(13,5),(12,2)]) R R),((f44.stp S86 R R).map (ren [(7,3),(8,4),(13,5),(12,2)]) R R),((f45.stp S86 R R).map (ren [(7,3),(8,4),(13,5),(12,2)]) R R)⟩
theorem i_lessOf_ok {w:World}{κ:Col}{a0 u0}{p0:(List Int)}{a1 u1}{p1:(List Int)}(g0:Rd (Rp.int .i64) κ w 0 a0 u0 p0) (g1:Rd (Rp.int .i64) κ w 0 a1 u1 p1){r:(List Int)}(h:i_lessOf p0 p1=some r):Ret Tryz.prog 90 [.slice a0 p0.length u0,.slice a1 p1.length u1] w (fun v w'=>∃(κ':Col) (ra0:Option Addr) (ru0:Nat),v= .slice ra0 r.length ru0∧Ent κ w κ' w'∧Oc E6 2 κ' w' 2 ra0 ru0 r):=by
 unfold i_lessOf at h
 refine Ret.enter F90 R N90 R ?_
 dsimp only[envOf]
 have hE:=Ent.refl κ w
 refine Je [2] R (Jb 1 R (Je [1,2] R (Jo1 (κ:=κ) (E:=E6) 2 R R R R R Y22 Tryzinfo2 R fun ah ai w1 K2 S3 f4=>⟨tv,Jb 1 R (Jq (Je [2,2,2] R (Jn 1 R (Jf R (Je2 U22 R R) (Jb 1 R ?_)))))⟩)))
 have hN5:(p0.length:Int)≤9223372036854775807:=g0.len_le
 refine Ob h fun q2 hq7 hK6=>?_
 clear h
 refine Jx1 (fun L w'=>∃κ',∃s3:(List Int),∃ae ad,L=[(5,.slice ae s3.length ad)]∧Stp [2] K2 w1 κ' w'∧Oc E6 2 κ' w' 2 ae ad s3∧q2=Sum.inr s3) ?_ ?_
 refine Jv (Jy1 (fun k L w'=>∃κ' v13,∃s1:(List Int),∃ab aa,L=[(1,.slice a1 p1.length u1),(5,.slice ab s1.length aa),(11,.slice a0 p0.length u0),(12,vi (p0.length:Int)),(13,vi v13)]∧Stp [2] K2 w1 κ' w'∧Oc E6 2 κ' w' 2 ab aa s1∧0≤v13∧Int.toNat ((p0.length:Int)-v13)=k∧cntM (i_lessOf_b0 p0 p1) k v13 s1=some q2) ⟨_,_,⟨K2,0,(([]:List Int):(List Int)),ah,ai,R,(Jx2 _ _).wk R,f4,(by decide),(by simp),hq7⟩,(KM R)⟩ ?_)
 rintro k _ w12 ⟨K13,v13,s1,ab,aa,rfl,S14,f15,hj5,hJ5,h⟩
 rcases k with _ | k
 have hk16:=h;obtain⟨o5,h⟩:=ex_eq (Sum.inr (Sum.inl s1):(List Int)⊕(((List Int))⊕((List Int))))
 have hc5:decide (v13<(p0.length:Int))=false:=Jo2 (by omega)
 refine Je [2] R (Jb 1 R (Jq (Jw2 R hc5 (Jc1 (Jt (Jt ?_))))))
 cases h
 have h:=hk16
 refine Jb1 ?_
 cases h
 exact Jw1 _ ⟨K13,(s1:(List Int)),ab,aa,R,S14.wk R,f15,R⟩ (KM R)
 obtain⟨o5,h,hk16⟩:=BI h;unfold i_lessOf_b0 at h
 have hc5:decide (v13<(p0.length:Int))=true:=Jn2 (by omega)
 refine Je [2] R (Jb 1 R (Jq (Jv2 R hc5 (Js (Jp (Jq (Jv (Je [2,1,2] R (Ob h fun x15 hx15 h=>Jf R (Jf2 g0 hx15 U22 Z2 R R R R) (Jl tv R R R R (Jc2 I2 R R (hvE ((g0.stp (S3.tr S14) R R).gInt hx15))) (Jb 1 R (Je [2,2,1,2,2,2,2,2] R (Jn 2 R (Ob h fun x20 hx20 h=>Jh R R R C121 (slices_BinarySearch_I_int64_ok (κ:=fun b=>mp [] 0 (K13 b)) (Jl2 (g1.stp (S3.tr S14) R R) (mp [] 0) R R) hx20) ?_))))))))))))))
 rintro _ w19 ⟨k20,rfl,e21⟩
 obtain⟨K22,S23,m24⟩:=Ji e21 3 R
 refine⟨tv,Jb 5 R (Je [2,2] R (Jb 2 R (Ob h fun q4 h hK26=>Jx1 (fun L w'=>∃κ' af ac,L=[(1,.slice a1 p1.length u1),(5,.slice af q4.length ac),(11,.slice a0 p0.length u0),(12,vi (p0.length:Int)),(13,vi v13)]∧Stp [2] K22 w19 κ' w'∧Oc E6 2 κ' w' 2 af ac q4) ?_ ?_)))⟩
 revert h
 cases ht31:(!x20.2)
 refine JF fun h=>Jy R (Js ?_)
 cases h
 exact Jw1 _ ⟨K22,ab,aa,R,(Jx2 _ _).wk R,(f15.stp S23 R R)⟩ (KM R)
 refine JT fun h=>Jx R (Ja [2,2,1,1,2] R (Jn 2 R (Jn1 (κ:=K22) (E:=E6) 5 [] (parts:=[(0,.tmp 26)]) (cells:=[vi x15]) (xs:=([x15]:List Int)) R R R R R R Y22 Tryzinfo2 R R R R R R R R R R ⟨[vi x15],[],Zl K22 w19 [],Zl K22 w19 [],R,Zl.sp (l1:=[]) (l2:=[]) R,Zl.sr (l1:=[]) (l2:=[]),R,R⟩ fun al am w32 K33 S34 f35=>⟨tv,Ob h fun x28 hx28 h=>Jm1 (κ:=K33) (E:=E6) 2 [] R R R R R R R R R Y22 Tryzinfo2 R R R R (f15.stp (S23.tr S34) R R) (Sl.srcP (pu_int _) f35.rdc) sy_false hx28 R fun ak aj w37 K38 S39 f40=>⟨tv,Jc 1 R ?_⟩⟩)))
 cases h
 exact Jw1 _ ⟨K38,ak,aj,R,(S34.tr S39).wk R,f40⟩ (KM R)
 rintro _ w27 ⟨K28,af,ac,rfl,S29,f30⟩
 have h:=hK26
 refine Jz (Jp (Ja [2,2] R (Jc 2 R ?_)))
 have hw5:IntKind.wrap .i64 (v13+1)=v13+1:=wr1 hj5 (Jm2 hc5) hN5
 rw[hw5]
 have hc5:=Jm2 hc5
 cases h
 exact Jz1 fun a ha=>⟨k,_,Ja3 _,⟨K28,v13+1,(q4:(List Int)),af,ac,R,(S14.tr (S23.tr S29)).wk R,f30,by omega,by omega,hk16⟩,(ha.mm R)⟩
 rintro _ w8 ⟨K9,s3,ae,ad,rfl,S10,f11,rfl⟩
 have h:=hK6
 dsimp only[aft]at h
 refine Jp (Je [2,2] R (Jb 2 R (Ju (Ja2 (l:=[.tmp 4]) V90 (Jp2 R R) R ?_))))
 cases h
 exact⟨K9,ae,ad,R,(hE.stp (S3.tr S10) R R),f11⟩
theorem s_l32Do_ok {w:World}{κ:Col}{aq ap an ar au al}{p0:Parity}{p1:Edit}(g0_0_0:Rd (Rp.int .i64) κ w 0 aq ap p0.Arena.Owner) (g0_0_1:Rd (Rp.sl (Rp.int .i64)) κ w 0 an ar p0.Arena.Next) (g0_1:Rd (Rp.int .i64) κ w 0 au al p0.Prio){r:Parity}(h:s_l32Do p0 p1=some r):Ret Tryz.prog 38 [.agg #[.slice aq p0.Arena.Owner.length ap,.slice an p0.Arena.Next.length ar,.slice au p0.Prio.length al],.agg #[vi p1.Kind,vi p1.V,vi p1.N]] w (fun v w'=>∃(κ':Col) (ra0:Option Addr) (ru0:Nat) (ra1:Option Addr) (ru1:Nat) (ra2:Option Addr) (ru2:Nat),v= .agg #[.slice ra0 r.Arena.Owner.length ru0,.slice ra1 r.Arena.Next.length ru1,.slice ra2 r.Prio.length ru2]∧Ent κ w κ' w'∧Oc E6 2 κ' w' 2 ra0 ru0 r.Arena.Owner∧Oc (Ep.fz (Rp.sl (Rp.int .i64))) 22 κ' w' 3 ra1 ru1 r.Arena.Next∧Oc E6 2 κ' w' 4 ra2 ru2 r.Prio):=by
 unfold s_l32Do at h
 refine Ret.enter F38 R N38 R ?_
 dsimp only[envOf]
 have hE:=Ent.refl κ w
 refine Je [1,1,1] R (Jf1 (κ:=κ) 2 R R R R R R R fun b2 w1 K2 S3 f4=>⟨tv,Jf1 (κ:=K2) 3 R R R R R R R fun b3 w5 K6 S7 f8=>⟨tv,Jg1 (κ:=K6) 4 R R R R R X39 R fun b4 w9 K10 S11 f12=>⟨tv,Jd (Je [1,1,1,1] R ?_)⟩⟩⟩)
 have f13:=f4.stp (S7.tr S11) R R
 refine Jl tv R R R R (Jd2 (cs:=[.slice aq p0.Arena.Owner.length ap,.slice an p0.Arena.Next.length ar,.slice au p0.Prio.length al]) I39 Z39 R R R (haE f13.cells)) (Ob h fun x9 hx9 h=>?_)
 have f15:=g0_0_1.stp (S3.tr (S7.tr S11)) R R
 refine Jh R R R C73 (s_l4Copy_ok (κ:=fun b=>mp [] 1 (K10 b)) (p0:=p0) (Jl2 (g0_0_0.stp (S3.tr (S7.tr S11)) R R) (mp [] 1) R R) (Jl2 f15 (mp [] 1) R R) (Jl2 (g0_1.stp (S3.tr (S7.tr S11)) R R) (mp [] 1) R R) hx9) ?_
 rintro _ w17 ⟨k18,ac,ad,aa,ab,af,ah,rfl,e19,f20,f21,f22⟩
 obtain⟨K23,S24,m25,z26⟩:=Jj e19 5 R
 refine⟨tv,?_⟩
 have f27:=f20.mx (no_int _) m25 R (R:5+2=7)
 have f28:=f21.mxz z26 m25 R (R:5+3=8)
 have f29:=f22.mx (no_int _) m25 R (R:5+4=9)
 refine Jg1 (κ:=K23) 10 R R R R R X39 R fun b5 w30 K31 S32 f33=>⟨tv,Jj1 (κ:=K31) 10 (vc:=[.slice ac x9.Arena.Owner.length ad,.slice aa x9.Arena.Next.length ab,.slice af x9.Prio.length ah]) R R R R R R R Z39 R R f33 R fun w34 S35 f36=>⟨tv,Jd (Jq (Je [2,1] R (Jf R (Jb2 U42 R Z2 R R) ?_)))⟩⟩
 have f37:=f8.stp (S11.tr (S24.tr (S32.tr S35))) R R
 refine Jl tv R R R R (Jc2 I2 R R (hvE (f37.ld 0 R R))) (Jd (Jv (Je [2,2] R (Jb 2 R (Ob h fun q1 h hK38=>Jx1 (fun L w'=>∃κ',L=[(4,.pointer (some ⟨b4,0,none⟩)),(5,.pointer (some ⟨b5,0,none⟩))]∧Stp [7,8,9,11] K31 w34 κ' w'∧Oc E6 2 κ' w' 7 ac ad q1.1∧x9.Arena.Owner.length=q1.1.length∧Oc (Ep.fz (Rp.sl (Rp.int .i64))) 22 κ' w' 8 aa ab q1.2.1∧x9.Arena.Next.length=q1.2.1.length∧Oc E6 2 κ' w' 9 af ah q1.2.2∧x9.Prio.length=q1.2.2.length) ?_ ?_)))))
 revert h
 cases ht48:(p1.Kind==1)
 refine JF fun h=>Jy R (Je [2,2] R (Jb 2 R (Ob h fun q2 h hK57=>Jx1 (fun L w'=>∃κ',L=[(4,.pointer (some ⟨b4,0,none⟩)),(5,.pointer (some ⟨b5,0,none⟩))]∧Stp [7,8,11] K31 w34 κ' w'∧Oc E6 2 κ' w' 7 ac ad q2.1∧x9.Arena.Owner.length=q2.1.length∧Oc (Ep.fz (Rp.sl (Rp.int .i64))) 22 κ' w' 8 aa ab q2.2∧x9.Arena.Next.length=q2.2.length) ?_ ?_)))
 revert h
 cases ht65:(p1.Kind==2)
 refine JF fun h=>Jy R (Je [2,2] R (Jb 2 R (Ob h fun q3 h hK73=>Jx1 (fun L w'=>∃κ',L=[(4,.pointer (some ⟨b4,0,none⟩)),(5,.pointer (some ⟨b5,0,none⟩))]∧Stp [8,11] K31 w34 κ' w'∧Oc (Ep.fz (Rp.sl (Rp.int .i64))) 22 κ' w' 8 aa ab q3∧x9.Arena.Next.length=q3.length) ?_ ?_)))
 revert h
 cases ht79:(p1.Kind==3)
 refine JF fun h=>Jy R (Je [2,2] R (Jb 2 R (Ob h fun q4 h hK102=>Jx1 (fun L w'=>∃κ',L=[(4,.pointer (some ⟨b4,0,none⟩)),(5,.pointer (some ⟨b5,0,none⟩))]∧Stp [8,11] K31 w34 κ' w'∧Oc (Ep.fz (Rp.sl (Rp.int .i64))) 22 κ' w' 8 aa ab q4∧x9.Arena.Next.length=q4.length) ?_ ?_)))
 revert h
 cases ht108:(p1.Kind==4)
 refine JF fun h=>Jy R (Js ?_)
 cases h
 exact Jw1 _ ⟨K31,R,(Jx2 _ _).wk R,(f28.stp (S32.tr S35) R R),R⟩ (KM R)
 refine JT fun h=>Jx R (Je [1,2] R (Jo1 (κ:=K31) (E:=E6) 11 R R R R R Y22 Tryzinfo2 R fun ax aw w109 K110 S111 f112=>⟨tv,Jb 1 R (Jq (Je [2] R (Jb 1 R (Ob h fun q6 hq115 hK114=>?_))))⟩))
 clear h
 refine Jx1 (fun L w'=>∃κ',∃s7:(List Int)×Int,∃ao am,L=[(3,.pointer (some ⟨b3,0,none⟩)),(4,.pointer (some ⟨b4,0,none⟩)),(5,.pointer (some ⟨b5,0,none⟩)),(6,.slice ao s7.1.length am)]∧Stp [11] K110 w109 κ' w'∧Oc E6 2 κ' w' 11 ao am s7.1∧q6=Sum.inr s7) ?_ ?_
 refine Jv (Jy1 (fun k L w'=>∃κ',∃s5:(List Int)×Int,∃ae ai,L=[(2,.pointer (some ⟨b2,0,none⟩)),(3,.pointer (some ⟨b3,0,none⟩)),(4,.pointer (some ⟨b4,0,none⟩)),(5,.pointer (some ⟨b5,0,none⟩)),(6,.slice ae s5.1.length ai),(7,vi s5.2)]∧Stp [11] K110 w109 κ' w'∧Oc E6 2 κ' w' 11 ae ai s5.1∧whileM (s_l32Do_b1 p0 p1) k s5=some q6) ⟨_,_,⟨K110,((([]:List Int):(List Int)),(0:Int)),ax,aw,R,(Jx2 _ _).wk R,f112,hq115⟩,(KM R)⟩ ?_)
 rintro k _ w120 ⟨K121,s5,ae,ai,rfl,S122,f123,h⟩
 rcases k with _ | k
 cases h
 obtain⟨o113,h,hk124⟩:=BI h;unfold s_l32Do_b1 at h
 refine Jq (Je [2,2,2,1,2,1,2,1,2,2] R (Jn 1 R (Jf R (Jb2 U39 R Z37 R R) (Jf R (Jb2 U37 R Z23 R R) ?_))))
 have f125:=f13.stp (S24.tr (S32.tr (S35.tr (S111.tr S122)))) R R
 refine Jl tv R R R R (Jc2 I23 R R (hvE (f125.ld 1 R R))) (Jf R (Jb2 U42 R Z2 R R) ?_)
 have f126:=f37.stp (S111.tr S122) R R
 refine Jl tv R R R R (Jc2 I2 R R (hvE (f126.ld 1 R R))) (Ob h fun x58 hx58 h=>Jf R (Jf2 f15 hx58 U23 Z22 R R R R) ?_)
 have f127:=f15.stp (S24.tr (S32.tr (S35.tr (S111.tr S122)))) R R
 obtain⟨ax58,ux58,f128,hl129⟩:=f127.gSl hx58
 refine Jl tv R R R R (Jc2 I22 R R (hvE hl129)) (Jf R (Je2 U22 R R) (Jb 1 R ?_))
 revert h
 cases ht130:decide (s5.2<(x58.length:Int))
 refine JF fun h=>Jy R (Jc1 (Jt (Jt ?_)))
 cases h
 have h:=hk124
 refine Jb1 ?_
 cases h
 exact Jw1 _ ⟨K121,((s5.1:(List Int)),(s5.2:Int)),ae,ai,R,S122.wk R,f123,R⟩ (KM R)
 refine JT fun h=>Jx R (Js (Jp (Jq (Jv (Jq (Js1 (κ:=K121) [0,2,3] none [(0,2),(1,2),(3,2),(7,2),(10,2),(2,0),(4,0),(5,2),(6,0),(8,2),(9,0),(11,0),(12,2)] [] (by kernel_rfl) (by kernel_rfl) fun w132 S131=>Jf R (Jb2 U39 R Z37 R R) (Jf R (Jb2 U37 R Z23 R R) (Jf R (Jb2 U42 R Z2 R R) (Jn 1 R (Jf R (Jb2 U42 R Z2 R R) ?_))))))))))
 have f133:=f125.stp S131 R R
 refine Jg R (Jc2 I23 R R (hvC (f133.ld 1 R R) R)) ?_
 have f134:=f126.stp S131 R R
 refine Jg R (Jc2 I2 R R (hvC (f134.ld 1 R R) R)) (Ob h fun x69 hx69 h=>Jf R (Jf2 f127 hx69 U23 Z22 R R R R) ?_)
 have f135:=f127.stp S131 R R
 obtain⟨ax69,ux69,f136,hl137⟩:=f135.gSl hx69
 refine Jg R (Jc2 I22 R R (hvC hl137 R)) (Ob h fun x72 hx72 h=>Jf R (Jf2 f136 hx72 U22 Z2 R R R R) (Jg R (Jc2 I2 R R (hvC (f136.gInt hx72) R)) (Jg R (Jc2 I2 R R (hvC (f134.ld 2 R R) R)) (Jn 1 R (Jt1 (Jd (Ob h fun q8 h hK138=>Jx1 (fun L w'=>∃κ' aj ak,L=[(2,.pointer (some ⟨b2,0,none⟩)),(3,.pointer (some ⟨b3,0,none⟩)),(4,.pointer (some ⟨b4,0,none⟩)),(5,.pointer (some ⟨b5,0,none⟩)),(6,.slice aj q8.length ak),(7,vi s5.2)]∧Stp [11] K121 w132 κ' w'∧Oc E6 2 κ' w' 11 aj ak q8) ?_ ?_)))))))
 revert h
 cases ht143:(x72 !=p1.N)
 refine JF fun h=>Jy R (Js ?_)
 cases h
 exact Jw1 _ ⟨K121,ae,ai,R,(Jx2 _ _).wk R,(f123.stp S131 R R)⟩ (KM R)
 refine JT fun h=>Jx R (Ja [2,2,2,1,2,1,2,1,2,2,1,1,1,2] R (Jn 1 R (Jf R (Jb2 U39 R Z37 R R) (Jf R (Jb2 U37 R Z23 R R) (Jl tv R R R R (Jc2 I23 R R (hvE (f133.ld 1 R R))) (Jf R (Jb2 U42 R Z2 R R) (Jl tv R R R R (Jc2 I2 R R (hvE (f134.ld 1 R R))) (Ob h fun x83 hx83 h=>Jf R (Jf2 f135 hx83 U23 Z22 R R R R) ?_))))))))
 obtain⟨ax83,ux83,f144,hl145⟩:=f135.gSl hx83
 refine Jl tv R R R R (Jc2 I22 R R (hvE hl145)) (Jn 1 R (Ob h fun x86 hx86 h=>Jf R (Jf2 f144 hx86 U22 Z2 R R R R) (Jl tv R R R R (Jc2 I2 R R (hvE (f144.gInt hx86))) (Jn1 (κ:=K121) (E:=E6) 12 [] (parts:=[(0,.tmp 87)]) (cells:=[vi x86]) (xs:=([x86]:List Int)) R R R R R R Y22 Tryzinfo2 R R R R R R R R R R ⟨[vi x86],[],Zl K121 w132 [],Zl K121 w132 [],R,Zl.sp (l1:=[]) (l2:=[]) R,Zl.sr (l1:=[]) (l2:=[]),R,R⟩ fun aA aC w146 K147 S148 f149=>⟨tv,Ob h fun x89 hx89 h=>Jm1 (κ:=K147) (E:=E6) 11 [] R R R R R R R R R Y22 Tryzinfo2 R R R R (f123.stp (S131.tr S148) R R) (Sl.srcP (pu_int _) f149.rdc) sy_false hx89 R fun av ay w151 K152 S153 f154=>⟨tv,Jc 1 R ?_⟩⟩))))
 cases h
 exact Jw1 _ ⟨K152,av,ay,R,(S148.tr S153).wk R,f154⟩ (KM R)
 rintro _ w139 ⟨K140,aj,ak,rfl,S141,f142⟩
 have h:=hK138
 refine Jz (Jp (Ja [2,2,2] R (Jc 3 R ?_)))
 cases h
 exact Jz1 fun a ha=>⟨k,_,Ja3 _,⟨K140,((q8:(List Int)),((IntKind.i64.wrap (s5.2+1)):Int)),aj,ak,R,(S122.tr (S131.tr S141)).wk R,f142,hk124⟩,(ha.mm R)⟩
 rintro _ w116 ⟨K117,s7,ao,am,rfl,S118,f119,rfl⟩
 have h:=hK114
 dsimp only[aft]at h
 refine Jp (Ja [2,2,1,2,1,2,2,1] R (Jf R (Jb2 U39 R Z37 R R) (Jf R (Jb2 U37 R Z23 R R) (Jl tv R R R R (Jc2 I23 R R (hvE ((f36.stp (S111.tr S118) R R).ld 1 R R))) (Jf R (Jb2 U42 R Z2 R R) (Jl tv R R R R (Jc2 I2 R R (hvE ((f37.stp (S111.tr S118) R R).ld 1 R R))) (Jn 1 R (Ob h fun x96 hx96 h=>Jf R (Jf2 f28.rdc hx96 U23 Z22 R R R R) ?_))))))))
 obtain⟨K158,S159,z160⟩:=fz_ex K117 w116 11
 refine Ob h fun y144 hy144 h=>Jk1 (κ:=K158) (E:=(Ep.fz (Rp.sl (Rp.int .i64)))) 8 [] R R R R R R R R Z22 R ⟨_,_,R,(Sl.z1 (Sl.st z160 f119.rdc))⟩ R R (f28.stp (S32.tr (S35.tr (S111.tr (S118.tr S159)))) R R) hy144 fun w163 K164 S165 f166=>⟨tv,?_⟩
 have hn167:x9.Arena.Next.length=y144.length:=(Jt2 hy144).2.2.2.symm
 refine Jo ?_
 cases h
 exact Jw1 _ ⟨K164,R,(S111.tr (S118.tr (S159.tr S165))).wk R,f166,hn167⟩ (KM R)
 rintro _ w103 ⟨K104,rfl,S105,f106,hn107⟩
 have h:=hK102
 cases h
 exact Jw1 _ ⟨K104,R,S105.wk R,f106,hn107⟩ (KM R)
 refine JT fun h=>Jx R (Js1 (κ:=K31) [0,3,8,10] (some 16) [(0,2),(1,2),(3,2),(5,2),(6,2),(8,2),(12,2),(2,0),(4,0),(7,0),(9,0),(10,2),(11,0),(13,0),(14,1),(15,2)] [(16,1)] (by kernel_rfl) (by kernel_rfl) fun w81 S80=>Jf R (Jb2 U39 R Z37 R R) (Jf R (Jb2 U37 R Z23 R R) (Jf R (Jb2 U42 R Z2 R R) (Jf R (Jb2 U39 R Z37 R R) (Jf R (Jb2 U37 R Z23 R R) (Jf R (Jb2 U42 R Z2 R R) (Jf R (Jb2 U42 R Z2 R R) ?_)))))))
 have f82:=f36.stp S80 R R
 refine Jg R (Jc2 I23 R R (hvC (f82.ld 1 R R) R)) ?_
 have f83:=f37.stp S80 R R
 refine Jg R (Jc2 I2 R R (hvC (f83.ld 1 R R) R)) (Jg R (Jc2 I23 R R (hvC (f82.ld 1 R R) R)) (Jg R (Jc2 I2 R R (hvC (f83.ld 1 R R) R)) (Ob h fun x43 hx43 h=>Jf R (Jf2 f28.rdc hx43 U23 Z22 R R R R) ?_)))
 have f84:=f28.stp (S32.tr (S35.tr S80)) R R
 obtain⟨ax43,ux43,f85,hl86⟩:=f84.gZ hx43
 refine Jg R (Jc2 I22 R R (hvC hl86 R)) (Jg R (Jc2 I2 R R (hvC (f83.ld 2 R R) R)) (Ob h fun x47 hx47 h=>Jh R R R C78 (s_l1Into_ok (κ:=fun b=>mp [] 1 (K31 b)) (Jl2 f85 (mp [] 1) R R) hx47) ?_))
 rintro _ w87 ⟨k88,aB,az,rfl,e89,f90⟩
 obtain⟨K91,S92,m93,z94⟩:=Jj e89 11 R
 refine⟨(S92.cl R),Ob h fun x48 hx48 h=>Jf R (Jf2 f84.rdc hx48 U23 Z22 R R R R) (Jt1 (Ob h fun y141 hy141 h=>Jk1 (κ:=K91) (E:=(Ep.fz (Rp.sl (Rp.int .i64)))) 8 [] R R R R R R R R Z22 R ⟨_,_,R,(Sl.z1 (f90.mx z94))⟩ R R (f84.stp S92 R R) hy141 fun w97 K98 S99 f100=>⟨tv,?_⟩))⟩
 have hn101:x9.Arena.Next.length=y141.length:=(Jt2 hy141).2.2.2.symm
 refine Jo ?_
 cases h
 exact Jw1 _ ⟨K98,R,(S80.tr (S92.tr S99)).wk R,f100,hn101⟩ (KM R)
 rintro _ w74 ⟨K75,rfl,S76,f77,hn78⟩
 have h:=hK73
 cases h
 exact Jw1 _ ⟨K75,R,S76.wk R,(f27.stp (S32.tr (S35.tr S76)) R R),R,f77,hn78⟩ (KM R)
 refine JT fun h=>Jx R (Ja [2,2,1,2,1,2,1,2,1] R (Jf R (Jb2 U39 R Z37 R R) (Jf R (Jb2 U37 R Z22 R R) (Jl tv R R R R (Jc2 I22 R R (hvE (f36.ld 0 R R))) (Jf R (Jb2 U42 R Z2 R R) (Jl tv R R R R (Jc2 I2 R R (hvE (f37.ld 1 R R))) (Jf R (Jb2 U42 R Z2 R R) (Jl tv R R R R (Jc2 I2 R R (hvE (f37.ld 2 R R))) (Ob h fun x30 hx30 h=>Jf R (Jf2 f27.rdc hx30 U22 Z2 R R R R) (Ob h fun y139 hy139 h=>Jk1 (κ:=K31) (E:=E6) 7 [] R R R R R R R R Z2 R R R R (f27.stp (S32.tr S35) R R) hy139 fun w67 K68 S69 f70=>⟨tv,?_⟩))))))))))
 have hn71:x9.Arena.Owner.length=y139.length:=(Jt2 hy139).2.2.2.symm
 refine Jo ?_
 cases h
 exact Jw1 _ ⟨K68,R,S69.wk R,f70,hn71,(f28.stp (S32.tr (S35.tr S69)) R R),R⟩ (KM R)
 rintro _ w58 ⟨K59,rfl,S60,f61,hn62,f63,hn64⟩
 have h:=hK57
 cases h
 exact Jw1 _ ⟨K59,R,S60.wk R,f61,hn62,f63,hn64,(f29.stp (S32.tr (S35.tr S60)) R R),R⟩ (KM R)
 refine JT fun h=>Jx R (Ja [2,1,2,1,2,1,2,1] R (Jf R (Jb2 U39 R Z22 R R) (Jl tv R R R R (Jc2 I22 R R (hvE (f36.ld 2 R R))) (Jf R (Jb2 U42 R Z2 R R) (Jl tv R R R R (Jc2 I2 R R (hvE (f37.ld 1 R R))) (Jf R (Jb2 U42 R Z2 R R) (Jl tv R R R R (Jc2 I2 R R (hvE (f37.ld 2 R R))) (Ob h fun x20 hx20 h=>Jf R (Jf2 f29.rdc hx20 U22 Z2 R R R R) (Ob h fun y138 hy138 h=>Jk1 (κ:=K31) (E:=E6) 9 [] R R R R R R R R Z2 R R R R (f29.stp (S32.tr S35) R R) hy138 fun w50 K51 S52 f53=>⟨tv,?_⟩)))))))))
 have hn54:x9.Prio.length=y138.length:=(Jt2 hy138).2.2.2.symm
 refine Jo ?_
 cases h
 exact Jw1 _ ⟨K51,R,S52.wk R,(f27.stp (S32.tr (S35.tr S52)) R R),R,(f28.stp (S32.tr (S35.tr S52)) R R),R,f53,hn54⟩ (KM R)
 rintro _ w39 ⟨K40,rfl,S41,f42,hn43,f44,hn45,f46,hn47⟩
 have h:=hK38
 refine Jz (Jp (Je [1,1] R (Jl tv R R R R (Jd2 (cs:=[.slice ac x9.Arena.Owner.length ad,.slice aa x9.Arena.Next.length ab,.slice af x9.Prio.length ah]) I39 Z39 R R R (haE (f36.stp S41 R R).cells)) (Jj1 (κ:=K40) 4 (vc:=[.slice ac x9.Arena.Owner.length ad,.slice aa x9.Arena.Next.length ab,.slice af x9.Prio.length ah]) R R R R R R R Z39 R R (f12.stp (S24.tr (S32.tr (S35.tr S41))) R R) R fun w173 S174 f175=>⟨tv,Jd (Ju (Ja2 (l:=[.cell 4 39]) V38 (res_cellA R f175 I39 Z39 R R) R ?_))⟩))))
 cases h
 exact⟨(fun b=>ren [(7,2),(8,3),(9,4)] (K40 b)),ac,ad,aa,ab,af,ah,(by simp only[hn43,hn45,hn47]),((hE.stp (S3.tr (S7.tr (S11.tr (S24.tr (S32.tr (S35.tr (S41.tr S174))))))) R R).map (ren [(7,2),(8,3),(9,4)]) R R),((f42.stp S174 R R).map (ren [(7,2),(8,3),(9,4)]) R R),((f44.stp S174 R R).map (ren [(7,2),(8,3),(9,4)]) R R),((f46.stp S174 R R).map (ren [(7,2),(8,3),(9,4)]) R R)⟩
theorem i_badLoops_ok {w:World}{κ:Col}{an am al ao aw aq}{p0:Parity}{p1:Int}{a2 u2}{p2:(List Int)}{a3 u3}{p3:(List Int)}(g0_0_0:Rd (Rp.int .i64) κ w 0 an am p0.Arena.Owner) (g0_0_1:Rd (Rp.sl (Rp.int .i64)) κ w 0 al ao p0.Arena.Next) (g0_1:Rd (Rp.int .i64) κ w 0 aw aq p0.Prio) (g2:Rd (Rp.int .i64) κ w 0 a2 u2 p2) (g3:Rd (Rp.int .i64) κ w 0 a3 u3 p3){r:(List Int)}(h:i_badLoops p0 p1 p2 p3=some r):Ret Tryz.prog 116 [.agg #[.slice an p0.Arena.Owner.length am,.slice al p0.Arena.Next.length ao,.slice aw p0.Prio.length aq],vi p1,.slice a2 p2.length u2,.slice a3 p3.length u3] w (fun v w'=>∃(κ':Col) (ra0:Option Addr) (ru0:Nat),v= .slice ra0 r.length ru0∧Ent κ w κ' w'∧Oc E6 2 κ' w' 2 ra0 ru0 r):=by
 unfold i_badLoops at h
 refine Ret.enter F116 R N116 R ?_
 dsimp only[envOf]
 have hE:=Ent.refl κ w
 refine Je [1,2] R (Jf1 (κ:=κ) 2 R R R R R R R fun b4 w1 K2 S3 f4=>⟨tv,Jb 1 R (Je [2,1,2,1,1,1] R (Jf R (Jb2 U39 R Z37 R R) (Jl tv R R R R (Jd2 (cs:=[.slice an p0.Arena.Owner.length am,.slice al p0.Arena.Next.length ao]) I37 Z37 R R R (haE (f4.lds 0 2 R))) (Jn 1 R (Ob h fun x22 hx22 h=>Jh R R R C141 (i_fixedBy_ok (κ:=fun b=>mp [] 0 (K2 b)) (p0:=p0.Arena) (Jl2 (g0_0_0.stp S3 R R) (mp [] 0) R R) (Jl2 (g0_0_1.stp S3 R R) (mp [] 0) R R) (Jl2 (g3.stp S3 R R) (mp [] 0) R R) hx22) ?_)))))⟩)
 rintro _ w8 ⟨k9,av,ar,ap,au,rfl,e10,f11,f12⟩
 obtain⟨K13,S14,m15⟩:=Ji e10 3 R
 refine⟨tv,?_⟩
 have f18:=f12.mx (no_own (no_int _) _) m15 R (R:3+3=6)
 refine Jg1 (κ:=K13) 7 R R R R R X37 R fun b9 w19 K20 S21 f22=>⟨tv,Jj1 (κ:=K20) 7 (vc:=[.slice av x22.Owner.length ar,.slice ap x22.Next.length au]) R R R R R R R Z37 R R f22 R fun w23 S24 f25=>⟨tv,Jd (Je [1,2] R (Jo1 (κ:=K20) (E:=E6) 8 R R R R R Y22 Tryzinfo2 R fun ax ay w26 K27 S28 f29=>⟨tv,Jb 1 R (Jq (Je [2,2,2] R (Jn 1 R (Jf R (Je2 U22 R R) (Jb 1 R ?_)))))⟩))⟩⟩
 have hN30:(p2.length:Int)≤9223372036854775807:=g2.len_le
 refine Ob h fun q2 hq32 hK31=>?_
 clear h
 refine Jx1 (fun L w'=>∃κ',∃s3:(List Int),∃aj ae,L=[(10,.slice aj s3.length ae)]∧Stp [8,9,10] K27 w26 κ' w'∧Oc E6 2 κ' w' 8 aj ae s3∧q2=Sum.inr s3) ?_ ?_
 refine Jv (Jy1 (fun k L w'=>∃κ' v26,∃s1:(List Int),∃ab aa,L=[(1,vi p1),(2,.slice a2 p2.length u2),(4,.pointer (some ⟨b4,0,none⟩)),(9,.pointer (some ⟨b9,0,none⟩)),(10,.slice ab s1.length aa),(24,.slice a2 p2.length u2),(25,vi (p2.length:Int)),(26,vi v26)]∧Stp [8,9,10] K27 w26 κ' w'∧Oc E6 2 κ' w' 8 ab aa s1∧0≤v26∧Int.toNat ((p2.length:Int)-v26)=k∧cntM (i_badLoops_b0 p0 p1 p2 x22) k v26 s1=some q2) ⟨_,_,⟨K27,0,(([]:List Int):(List Int)),ax,ay,R,(Jx2 _ _).wk R,f29,(by decide),(by simp),hq32⟩,(KM R)⟩ ?_)
 rintro k _ w37 ⟨K38,v26,s1,ab,aa,rfl,S39,f40,hj30,hJ30,h⟩
 rcases k with _ | k
 have hk41:=h;obtain⟨o30,h⟩:=ex_eq (Sum.inr (Sum.inl s1):(List Int)⊕(((List Int))⊕((List Int))))
 have hc30:decide (v26<(p2.length:Int))=false:=Jo2 (by omega)
 refine Je [2] R (Jb 1 R (Jq (Jw2 R hc30 (Jc1 (Jt (Jt ?_))))))
 cases h
 have h:=hk41
 refine Jb1 ?_
 cases h
 exact Jw1 _ ⟨K38,(s1:(List Int)),ab,aa,R,S39.wk R,f40,R⟩ (KM R)
 obtain⟨o30,h,hk41⟩:=BI h;unfold i_badLoops_b0 at h
 have hc30:decide (v26<(p2.length:Int))=true:=Jn2 (by omega)
 refine Je [2] R (Jb 1 R (Jq (Jv2 R hc30 (Js (Jp (Jq (Jv (Je [2,1,2] R (Ob h fun x28 hx28 h=>Jf R (Jf2 g2 hx28 U22 Z2 R R R R) ?_)))))))))
 have f42:=g2.stp (S3.tr (S14.tr (S21.tr (S24.tr (S28.tr S39))))) R R
 refine Jl tv R R R R (Jc2 I2 R R (hvE (f42.gInt hx28))) (Jb 1 R (Jq (Je [2,1,2,2,1,2,2,2] R (Jf R (Jb2 U39 R Z22 R R) ?_))))
 have f43:=f4.stp (S14.tr (S21.tr (S24.tr (S28.tr S39)))) R R
 refine Jl tv R R R R (Jc2 I22 R R (hvE (f43.ld 2 R R))) (Jn 1 R (Ob h fun x33 hx33 h=>Jf R (Jf2 g0_1 hx33 U22 Z2 R R R R) ?_))
 have f44:=g0_1.stp (S3.tr (S14.tr (S21.tr (S24.tr (S28.tr S39))))) R R
 refine Jl tv R R R R (Jc2 I2 R R (hvE (f44.gInt hx33))) (Jf R (rn_rem R R R (by decide)) (Jb 2 R ?_))
 revert h
 cases ht45:((Int.tmod x33 2)==p1)
 refine JF fun h=>Jy R (Js (Jp (Je [2,1,2,1,2] R (Jf R (Jb2 U39 R Z22 R R) (Jl tv R R R R (Jc2 I22 R R (hvE (f43.ld 2 R R))) (Jf R (Je2 U22 R R) (Ob h fun x41 hx41 h=>Jl1 (κ:=K38) (E:=Ep.bool) (z:=(false:Bool)) 9 R R R R R R R Y70 Tryzinfo4 R R R R R (fun _ _ _=>R) (Ju2 hx41) fun ac ad w46 K47 S48 f49=>⟨tv,Jb 1 R (Jq (Je [2,2,2] R (Jn 1 R (Jf R (Je2 U22 R R) (Jb 1 R ?_)))))⟩)))))))
 have hN50:(p2.length:Int)≤9223372036854775807:=f42.len_le
 refine Ob h fun q5 hq52 hK51=>?_
 clear h
 refine Jx1 (fun L w'=>∃κ',∃s6:(List Bool),L=[(1,vi p1),(2,.slice a2 p2.length u2),(4,.pointer (some ⟨b4,0,none⟩)),(9,.pointer (some ⟨b9,0,none⟩)),(10,.slice ab s1.length aa),(12,vi x28),(13,.slice ac x41.length ad),(24,.slice a2 p2.length u2),(25,vi (p2.length:Int)),(26,vi v26)]∧Stp [9] K47 w46 κ' w'∧Oc Ep.bool 4 κ' w' 9 ac ad s6∧x41.length=s6.length∧q5=Sum.inr s6) ?_ ?_
 refine Jv (Jy1 (fun k L w'=>∃κ' v44,∃s4:(List Bool),L=[(1,vi p1),(2,.slice a2 p2.length u2),(4,.pointer (some ⟨b4,0,none⟩)),(9,.pointer (some ⟨b9,0,none⟩)),(10,.slice ab s1.length aa),(12,vi x28),(13,.slice ac x41.length ad),(24,.slice a2 p2.length u2),(25,vi (p2.length:Int)),(26,vi v26),(42,.slice a2 p2.length u2),(43,vi (p2.length:Int)),(44,vi v44)]∧Stp [9] K47 w46 κ' w'∧Oc Ep.bool 4 κ' w' 9 ac ad s4∧x41.length=s4.length∧0≤v44∧Int.toNat ((p2.length:Int)-v44)=k∧cntM (i_badLoops_b2 p0 p2 x28) k v44 s4=some q5) ⟨_,_,⟨K47,0,(x41:(List Bool)),R,(Jx2 _ _).wk R,f49,R,(by decide),(by simp),hq52⟩,(KM R)⟩ ?_)
 rintro k _ w58 ⟨K59,v44,s4,rfl,S60,f61,hn62,hj50,hJ50,h⟩
 rcases k with _ | k
 have hk63:=h;obtain⟨o50,h⟩:=ex_eq (Sum.inr (Sum.inl s4):(List Int)⊕(((List Bool))⊕((List Bool))))
 have hc50:decide (v44<(p2.length:Int))=false:=Jo2 (by omega)
 refine Je [2] R (Jb 1 R (Jq (Jw2 R hc50 (Jc1 (Jt (Jt ?_))))))
 cases h
 have h:=hk63
 refine Jb1 ?_
 cases h
 exact Jw1 _ ⟨K59,(s4:(List Bool)),R,S60.wk R,f61,hn62,R⟩ (KM R)
 obtain⟨o50,h,hk63⟩:=BI h;unfold i_badLoops_b2 at h
 have hc50:decide (v44<(p2.length:Int))=true:=Jn2 (by omega)
 refine Je [2] R (Jb 1 R (Jq (Jv2 R hc50 (Js (Jp (Jq (Jv (Je [2,1,2] R (Ob h fun x46 hx46 h=>Jf R (Jf2 f42 hx46 U22 Z2 R R R R) (Jl tv R R R R (Jc2 I2 R R (hvE ((f42.stp (S48.tr S60) R R).gInt hx46))) (Jb 1 R (Js1 (κ:=K59) [0,2] none [(0,2),(1,2),(2,2),(4,2),(7,2),(9,2),(3,0),(5,2),(6,0),(8,0),(10,2),(11,0),(12,2),(13,2),(14,1)] [] (by kernel_rfl) (by kernel_rfl) fun w66 S65=>Jn 2 R (Jf R (Jb2 U39 R Z22 R R) (Jn 1 R (Jf R (Jb2 U39 R Z22 R R) (Jn 1 R ?_))))))))))))))))
 have f67:=f43.stp (S48.tr (S60.tr S65)) R R
 refine Jg R (Jc2 I22 R R (hvC (f67.ld 2 R R) R)) (Ob h fun x53 hx53 h=>Jf R (Jf2 f44 hx53 U22 Z2 R R R R) ?_)
 have f68:=f44.stp (S48.tr (S60.tr S65)) R R
 refine Jg R (Jc2 I2 R R (hvC (f68.gInt hx53) R)) (Jg R (Jc2 I22 R R (hvC (f67.ld 2 R R) R)) (Ob h fun x58 hx58 h=>Jf R (Jf2 f68 hx58 U22 Z2 R R R R) (Jg R (Jc2 I2 R R (hvC (f68.gInt hx58) R)) (Jn 1 R (Ob h fun x61 hx61 h=>Jf R (Jf2 f61.rdc hx61 U70 Z4 R R hn62 R) (Ob h fun y258 hy258 h=>Jk1 (κ:=K59) (E:=Ep.bool) 9 [] R R R R R R R R Z4 R R R R (f61.stp S65 R R) hy258 fun w70 K71 S72 f73=>⟨(S72.cl R),?_⟩))))))
 have hn74:x41.length=y258.length:=hn62.trans (Jt2 hy258).2.2.2.symm
 refine Jt1 (Jo (Jz (Jp (Ja [2,2] R (Jc 2 R ?_)))))
 have hw50:IntKind.wrap .i64 (v44+1)=v44+1:=wr1 hj50 (Jm2 hc50) hN50
 rw[hw50]
 have hc50:=Jm2 hc50
 cases h
 exact Jz1 fun a ha=>⟨k,_,Ja3 _,⟨K71,v44+1,(y258:(List Bool)),R,(S60.tr (S65.tr S72)).wk R,f73,hn74,by omega,by omega,hk63⟩,(ha.mm R)⟩
 rintro _ w53 ⟨K54,s6,rfl,S55,f56,hn57,rfl⟩
 have h:=hK51
 dsimp only[aft]at h
 refine Jp (Je [2,1,2,1,2] R (Jf R (Jb2 U39 R Z22 R R) (Jl tv R R R R (Jc2 I22 R R (hvE ((f43.stp (S48.tr S55) R R).ld 2 R R))) (Jf R (Je2 U22 R R) (Ob h fun x66 hx66 h=>Jl1 (κ:=K54) (E:=Ep.bool) (z:=(false:Bool)) 10 R R R R R R R Y70 Tryzinfo4 R R R R R (fun _ _ _=>R) (Ju2 hx66) fun ak ah w76 K77 S78 f79=>⟨tv,Jb 1 R (Jq (Je [2,1,2,2,1,2,2] R (Jf R (Jb2 U37 R Z23 R R) ?_)))⟩)))))
 have f80:=f25.stp (S28.tr (S39.tr (S48.tr (S55.tr S78)))) R R
 refine Jl tv R R R R (Jc2 I23 R R (hvE (f80.ld 1 R R))) (Jn 1 R (Ob h fun x70 hx70 h=>Jf R (Jf2 f18.rdc hx70 U23 Z22 R R R R) ?_))
 have f81:=f18.stp (S21.tr (S24.tr (S28.tr (S39.tr (S48.tr (S55.tr S78)))))) R R
 obtain⟨ax70,ux70,f82,hl83⟩:=f81.rdc.gSl hx70
 refine Jl tv R R R R (Jc2 I22 R R (hvE hl83)) (Jf R (Je2 U22 R R) (Jb 1 R ?_))
 have hN84:(x70.length:Int)≤9223372036854775807:=f82.len_le
 refine Ob h fun q8 hq86 hK85=>?_
 clear h
 refine Jx1 (fun L w'=>∃κ',∃s9:(List Bool),L=[(1,vi p1),(2,.slice a2 p2.length u2),(4,.pointer (some ⟨b4,0,none⟩)),(9,.pointer (some ⟨b9,0,none⟩)),(10,.slice ab s1.length aa),(12,vi x28),(13,.slice ac x41.length ad),(16,.slice ak x66.length ah),(24,.slice a2 p2.length u2),(25,vi (p2.length:Int)),(26,vi v26)]∧Stp [10] K77 w76 κ' w'∧Oc Ep.bool 4 κ' w' 10 ak ah s9∧x66.length=s9.length∧q8=Sum.inr s9) ?_ ?_
 refine Jv (Jy1 (fun k L w'=>∃κ' v73,∃s7:(List Bool),L=[(1,vi p1),(2,.slice a2 p2.length u2),(4,.pointer (some ⟨b4,0,none⟩)),(9,.pointer (some ⟨b9,0,none⟩)),(10,.slice ab s1.length aa),(12,vi x28),(13,.slice ac x41.length ad),(16,.slice ak x66.length ah),(24,.slice a2 p2.length u2),(25,vi (p2.length:Int)),(26,vi v26),(71,.slice ax70 x70.length ux70),(72,vi (x70.length:Int)),(73,vi v73)]∧Stp [10] K77 w76 κ' w'∧Oc Ep.bool 4 κ' w' 10 ak ah s7∧x66.length=s7.length∧0≤v73∧Int.toNat ((x70.length:Int)-v73)=k∧cntM (i_badLoops_b4 s6 x70) k v73 s7=some q8) ⟨_,_,⟨K77,0,(x66:(List Bool)),R,(Jx2 _ _).wk R,f79,R,(by decide),(by simp),hq86⟩,(KM R)⟩ ?_)
 rintro k _ w92 ⟨K93,v73,s7,rfl,S94,f95,hn96,hj84,hJ84,h⟩
 rcases k with _ | k
 have hk97:=h;obtain⟨o84,h⟩:=ex_eq (Sum.inr (Sum.inl s7):(List Int)⊕(((List Bool))⊕((List Bool))))
 have hc84:decide (v73<(x70.length:Int))=false:=Jo2 (by omega)
 refine Je [2] R (Jb 1 R (Jq (Jw2 R hc84 (Jc1 (Jt (Jt ?_))))))
 cases h
 have h:=hk97
 refine Jb1 ?_
 cases h
 exact Jw1 _ ⟨K93,(s7:(List Bool)),R,S94.wk R,f95,hn96,R⟩ (KM R)
 obtain⟨o84,h,hk97⟩:=BI h;unfold i_badLoops_b4 at h
 have hc84:decide (v73<(x70.length:Int))=true:=Jn2 (by omega)
 refine Je [2] R (Jb 1 R (Jq (Jv2 R hc84 (Js (Jp (Jq (Jv (Je [2,1,2] R (Ob h fun x75 hx75 h=>Jf R (Jf2 f82 hx75 U22 Z2 R R R R) (Jl tv R R R R (Jc2 I2 R R (hvE ((f82.stp S94 R R).gInt hx75))) (Jb 1 R (Ja [2,2,2,2,2,1,2,1] R (Jn 4 R (Ob h fun x81 hx81 h=>Jf R (Jf2 f56.rdc hx81 U70 Z4 R R hn57 R) (Jl tv R R R R (Jc2 I4 R R (hvE ((f56.stp (S78.tr S94) R R).rdc.gBool hx81))) (Ob h fun x83 hx83 h=>Jf R (Jf2 f95.rdc hx83 U70 Z4 R R hn96 R) (Ob h fun y260 hy260 h=>Jk1 (κ:=K93) (E:=Ep.bool) 10 [] R R R R R R R R Z4 R R R R f95 hy260 fun w100 K101 S102 f103=>⟨tv,?_⟩)))))))))))))))))
 have hn104:x66.length=y260.length:=hn96.trans (Jt2 hy260).2.2.2.symm
 refine Jo (Jz (Jp (Ja [2,2] R (Jc 2 R ?_))))
 have hw84:IntKind.wrap .i64 (v73+1)=v73+1:=wr1 hj84 (Jm2 hc84) hN84
 rw[hw84]
 have hc84:=Jm2 hc84
 cases h
 exact Jz1 fun a ha=>⟨k,_,Ja3 _,⟨K101,v73+1,(y260:(List Bool)),R,(S94.tr S102).wk R,f103,hn104,by omega,by omega,hk97⟩,(ha.mm R)⟩
 rintro _ w87 ⟨K88,s9,rfl,S89,f90,hn91,rfl⟩
 have h:=hK85
 dsimp only[aft]at h
 refine Jp (Je [1,2,2,1,2,2,1] R (Jl tv R R R R (Jd2 (cs:=[.slice av x22.Owner.length ar,.slice ap x22.Next.length au]) I37 Z37 R R R (haE (f80.stp S89 R R).cells)) (Jn 2 R (Ob h fun x88 hx88 h=>Jh R R R C142 (Ret.cast (by simp only[hn91,hn57,List.cons_append,List.nil_append]) (i_reachIn_ok (κ:=fun b=>mp [] 0 (K88 b)) (p0:=x22) (Jl2 ((f11.mx (no_int _) m15 R (R:3+2=5)).stp (S21.tr (S24.tr (S28.tr (S39.tr (S48.tr (S55.tr (S78.tr S89))))))) R R).rdc (mp [] 0) R R) (Jl2 (f81.stp S89 R R).rdc (mp [] 0) R R) (Jl2 f90.rdc (mp [] 0) R R) (Jl2 (f56.stp (S78.tr S89) R R).rdc (mp [] 0) R R) hx88)) ?_))))
 rintro _ w109 ⟨k110,aB,aD,rfl,e111,f112⟩
 obtain⟨K113,S114,m115⟩:=Ji e111 11 R
 refine⟨tv,?_⟩
 have f117:=f112.mx no_bool m115 R (R:11+2=13)
 refine Jn 1 R (Ob h fun x90 hx90 h=>Jf R (Jf2 f117.rdc hx90 U70 Z4 R R R R) (Jl tv R R R R (Jc2 I4 R R (hvE (f117.rdc.gBool hx90))) (Jd (Ob h fun q10 h hK118=>Jx1 (fun L w'=>∃κ' af ai,L=[(1,vi p1),(2,.slice a2 p2.length u2),(4,.pointer (some ⟨b4,0,none⟩)),(9,.pointer (some ⟨b9,0,none⟩)),(10,.slice af q10.length ai),(24,.slice a2 p2.length u2),(25,vi (p2.length:Int)),(26,vi v26)]∧Stp [8] K113 w109 κ' w'∧Oc E6 2 κ' w' 8 af ai q10) ?_ ?_))))
 revert h
 cases ht123:x90
 refine JF fun h=>Jy R (Js ?_)
 cases h
 exact Jw1 _ ⟨K113,ab,aa,R,(Jx2 _ _).wk R,(f40.stp (S48.tr (S55.tr (S78.tr (S89.tr S114)))) R R)⟩ (KM R)
 refine JT fun h=>Jx R (Ja [2,2,1,1,2] R (Jn 2 R (Jn1 (κ:=K113) (E:=E6) 14 [] (parts:=[(0,.tmp 93)]) (cells:=[vi x28]) (xs:=([x28]:List Int)) R R R R R R Y22 Tryzinfo2 R R R R R R R R R R ⟨[vi x28],[],Zl K113 w109 [],Zl K113 w109 [],R,Zl.sp (l1:=[]) (l2:=[]) R,Zl.sr (l1:=[]) (l2:=[]),R,R⟩ fun aC aE w124 K125 S126 f127=>⟨tv,Ob h fun x95 hx95 h=>Jm1 (κ:=K125) (E:=E6) 8 [] R R R R R R R R R Y22 Tryzinfo2 R R R R (f40.stp (S48.tr (S55.tr (S78.tr (S89.tr (S114.tr S126))))) R R) (Sl.srcP (pu_int _) f127.rdc) sy_false hx95 R fun az aA w129 K130 S131 f132=>⟨tv,Jc 1 R ?_⟩⟩)))
 cases h
 exact Jw1 _ ⟨K130,az,aA,R,(S126.tr S131).wk R,f132⟩ (KM R)
 rintro _ w119 ⟨K120,af,ai,rfl,S121,f122⟩
 have h:=hK118
 refine Jz (Jp (Ja [2,2] R (Jc 2 R ?_)))
 have hw30:IntKind.wrap .i64 (v26+1)=v26+1:=wr1 hj30 (Jm2 hc30) hN30
 rw[hw30]
 have hc30:=Jm2 hc30
 cases h
 exact Jz1 fun a ha=>⟨k,_,Ja3 _,⟨K120,v26+1,(q10:(List Int)),af,ai,R,(S39.tr (S48.tr (S55.tr (S78.tr (S89.tr (S114.tr S121)))))).wk R,f122,by omega,by omega,hk41⟩,(ha.mm R)⟩
 refine JT fun h=>Jx R (Jc1 (Jt (Jb1 (Jp (Ja [2,2] R (Jc 2 R ?_))))))
 have hw30:IntKind.wrap .i64 (v26+1)=v26+1:=wr1 hj30 (Jm2 hc30) hN30
 rw[hw30]
 have hc30:=Jm2 hc30
 cases h
 exact Jz1 fun a ha=>⟨k,_,Ja3 _,⟨K38,v26+1,(s1:(List Int)),ab,aa,R,S39.wk R,f40,by omega,by omega,hk41⟩,(ha.mm R)⟩
 rintro _ w33 ⟨K34,s3,aj,ae,rfl,S35,f36,rfl⟩
 have h:=hK31
 dsimp only[aft]at h
 refine Jp (Je [2,2] R (Jb 2 R (Ju (Ja2 (l:=[.tmp 8]) V116 (Jp2 R R) R ?_))))
 cases h
 exact⟨(fun b=>ren [(8,2)] (K34 b)),aj,ae,R,((hE.stp (S3.tr (S14.tr (S21.tr (S24.tr (S28.tr S35))))) R R).map (ren [(8,2)]) R R),(f36.map (ren [(8,2)]) R R)⟩
theorem i_wonIn_ok {w:World}{κ:Col}{ac ab aa ad af ae}{p0:Parity}{a1 u1}{p1:(List Int)}(g0_0_0:Rd (Rp.int .i64) κ w 0 ac ab p0.Arena.Owner) (g0_0_1:Rd (Rp.sl (Rp.int .i64)) κ w 0 aa ad p0.Arena.Next) (g0_1:Rd (Rp.int .i64) κ w 0 af ae p0.Prio) (g1:Rd (Rp.int .i64) κ w 0 a1 u1 p1){r:(List Int)×(List Int)}(h:i_wonIn p0 p1=some r):Ret Tryz.prog 101 [.agg #[.slice ac p0.Arena.Owner.length ab,.slice aa p0.Arena.Next.length ad,.slice af p0.Prio.length ae],.slice a1 p1.length u1] w (fun v w'=>∃(κ':Col) (ra0:Option Addr) (ru0:Nat) (ra1:Option Addr) (ru1:Nat),v= .tuple #[.slice ra0 r.1.length ru0,.slice ra1 r.2.length ru1]∧Ent κ w κ' w'∧Oc E6 2 κ' w' 2 ra0 ru0 r.1∧Oc E6 2 κ' w' 3 ra1 ru1 r.2):=by
 unfold i_wonIn at h
 refine Ret.enter F101 R N101 R ?_
 dsimp only[envOf]
 have hE:=Ent.refl κ w
 refine Je [1,2,2] R (Jf1 (κ:=κ) 2 R R R R R R R fun b2 w1 K2 S3 f4=>⟨tv,Jb 2 R (Jq (Js1 (κ:=K2) [2] none [(1,2),(0,0),(2,0),(3,1),(4,2),(5,1),(6,2)] [] (by kernel_rfl) (by kernel_rfl) fun w6 S5=>Jf R (Jb2 U39 R Z37 R R) ?_))⟩)
 have f7:=f4.stp S5 R R
 refine Jg R (Jd2 (cs:=[.slice ac p0.Arena.Owner.length ab,.slice aa p0.Arena.Next.length ad,.slice af p0.Prio.length ae]) I39 Z39 R R R (haC f7.cells R)) (Jg R (Jd2 (cs:=[.slice ac p0.Arena.Owner.length ab,.slice aa p0.Arena.Next.length ad]) I37 Z37 R R R (haC (f7.lds 0 2 R) R)) (Ob h fun x13 hx13 h=>?_))
 have f8:=g0_0_0.stp (S3.tr S5) R R
 have f9:=g0_0_1.stp (S3.tr S5) R R
 refine Jh R R R C91 (i_predsOf_ok (κ:=fun b=>mp [] 0 (K2 b)) (p0:=p0.Arena) (Jl2 f8 (mp [] 0) R R) (Jl2 f9 (mp [] 0) R R) hx13) ?_
 rintro _ w10 ⟨k11,ap,am,rfl,e12,f13⟩
 obtain⟨K14,S15,m16⟩:=Ji e12 3 R
 refine⟨(S15.cl R),Jf R (rn_build (parts:=[(0,.tmp 10),(1,.tmp 13)]) (cells:=[.slice ac p0.Arena.Owner.length ab,.slice aa p0.Arena.Next.length ad,.slice af p0.Prio.length ae,.slice ap x13.length am]) R R (by kernel_rfl)) (Jf1 (κ:=K14) 6 R R R R R R R fun b15 w19 K20 S21 f22=>⟨((S15.tr S21).cl R),Jn 1 R (Jt1 (Jd (Je [2,1,2,1,2] R (Jf R (Jb2 U39 R Z37 R R) (Jl tv R R R R (Jd2 (cs:=[.slice ac p0.Arena.Owner.length ab,.slice aa p0.Arena.Next.length ad]) I37 Z37 R R R (haE ((f7.stp (S15.tr S21) R R).lds 0 2 R))) (Jn 1 R (Ob h fun x19 hx19 h=>?_)))))))⟩)⟩
 have f24:=f8.stp (S15.tr S21) R R
 have f25:=f9.stp (S15.tr S21) R R
 refine Jh R R R C46 (i_markOf_ok (κ:=fun b=>mp [] 0 (K20 b)) (p0:=p0.Arena) (Jl2 f24 (mp [] 0) R R) (Jl2 f25 (mp [] 0) R R) (Jl2 (g1.stp (S3.tr (S5.tr (S15.tr S21))) R R) (mp [] 0) R R) hx19) ?_
 rintro _ w27 ⟨k28,ar,au,rfl,e29,f30⟩
 obtain⟨K31,S32,m33⟩:=Ji e29 7 R
 refine⟨tv,Jb 1 R (Je [2,2,1,2,2,2,2,2] R (Jn 2 R ?_))⟩
 obtain⟨K37,S38,z39⟩:=fz_ex K31 w27 5
 obtain⟨K42,S43,z44⟩:=fz_ex K37 w27 9
 obtain⟨K47,S48,z49⟩:=fz_ex K42 w27 6
 refine Ob h fun x23 hx23 h=>?_
 have f55:=(Sl.st z44 ((f30.mx no_bool m33 R (R:7+2=9)).stp S38 R R).rdc).stp S48 R R
 have S001:=(S32.tr (S38.tr S43))
 refine Jh R R R C130 (i_solver_won_ok _ (κ:=fun b=>mp [] 1 (K47 b)) (p0:=(⟨p0,x13⟩:solver)) (Jl2 (f24.stp (S001.tr S48) R R) (mp [] 1) R R) (Jl2 (f25.stp (S001.tr S48) R R) (mp [] 1) R R) (Jl2 (g0_1.stp (S3.tr (S5.tr (S15.tr (S21.tr (S32.tr (S38.tr (S43.tr S48))))))) R R) (mp [] 1) R R) (Jl2 ((Sl.st z39 ((f13.mx (no_own (no_int _) _) m16 R (R:3+2=5)).stp (S21.tr S32) R R).rdc).stp (S43.tr S48) R R) (mp [] 1) R R) (Jl2 f55 (mp [] 1) R R) ((Bc.fzz z49 (f22.stp S001 R R)).map (mp [] 1) R R) hx23) ?_
 rintro _ w56 ⟨k57,ay,aw,rfl,e58,f59⟩
 obtain⟨K60,S61,m62,z63⟩:=Jj e58 10 R
 refine⟨tv,?_⟩
 have f64:=f59.mx z63
 refine Jb 5 R (Jq (Je [2,2] R (Jb 2 R ?_)))
 revert h
 cases ht65:(x23.2==0)
 refine JF fun h=>Jy R (Js (Jp (Je [2,2,1,1,2,1,2,2] R (Jn 2 R (Ob h fun x36 hx36 h=>Jh R R R C131 (i_without_ok (κ:=fun b=>mp [] 0 (K60 b)) (Jl2 (f55.stp S61 R R) (mp [] 0) R R) (Jl2 f64 (mp [] 0) R R) hx36) ?_)))))
 rintro _ w98 ⟨k99,ax,az,rfl,e100,f101⟩
 obtain⟨K102,S103,m104⟩:=Ji e100 13 R
 refine⟨tv,Ob h fun x37 hx37 h=>Jh R R R C60 (i_listOf_ok (κ:=fun b=>mp [] 0 (K102 b)) (Jl2 (f101.mx no_bool m104 R (R:13+2=15)).rdc (mp [] 0) R R) hx37) ?_⟩
 rintro _ w107 ⟨k108,ao,ah,rfl,e109,f110⟩
 obtain⟨K111,S112,m113⟩:=Ji e109 16 R
 refine⟨tv,Jn 1 R (Ob h fun x39 hx39 h=>Jh R R R C60 (i_listOf_ok (κ:=fun b=>mp [] 0 (K111 b)) (Jl2 (f64.stp (S103.tr S112) R R) (mp [] 0) R R) hx39) ?_)⟩
 rintro _ w117 ⟨k118,aj,ak,rfl,e119,f120⟩
 obtain⟨K121,S122,m123⟩:=Ji e119 19 R
 refine⟨tv,Jb 2 R (Ju (Ja2 (l:=[.tmp 4,.tmp 5]) V101 (Jp2 R (Jp2 R R)) R ?_))⟩
 cases h
 exact⟨(fun b=>ren [(18,2),(21,3)] (K121 b)),ao,ah,aj,ak,R,((hE.stp (S3.tr (S5.tr (S15.tr (S21.tr (S32.tr (S38.tr (S43.tr (S48.tr (S61.tr (S103.tr (S112.tr S122))))))))))) R R).map (ren [(18,2),(21,3)]) R R),(((f110.mx (no_int _) m113 R (R:16+2=18)).stp S122 R R).map (ren [(18,2),(21,3)]) R R),((f120.mx (no_int _) m123 R (R:19+2=21)).map (ren [(18,2),(21,3)]) R R)⟩
 refine JT fun h=>Jx R (Je [2,1,2,2,1,1,2,2] R (Jn 1 R (Ob h fun x29 hx29 h=>Jh R R R C60 (i_listOf_ok (κ:=fun b=>mp [] 0 (K60 b)) (Jl2 f64 (mp [] 0) R R) hx29) ?_)))
 rintro _ w66 ⟨k67,an,ai,rfl,e68,f69⟩
 obtain⟨K70,S71,m72⟩:=Ji e68 13 R
 refine⟨tv,Jn 2 R (Ob h fun x32 hx32 h=>Jh R R R C131 (i_without_ok (κ:=fun b=>mp [] 0 (K70 b)) (Jl2 (f55.stp (S61.tr S71) R R) (mp [] 0) R R) (Jl2 (f64.stp S71 R R) (mp [] 0) R R) hx32) ?_)⟩
 rintro _ w77 ⟨k78,aA,av,rfl,e79,f80⟩
 obtain⟨K81,S82,m83⟩:=Ji e79 16 R
 refine⟨tv,Ob h fun x33 hx33 h=>Jh R R R C60 (i_listOf_ok (κ:=fun b=>mp [] 0 (K81 b)) (Jl2 (f80.mx no_bool m83 R (R:16+2=18)).rdc (mp [] 0) R R) hx33) ?_⟩
 rintro _ w86 ⟨k87,aq,al,rfl,e88,f89⟩
 obtain⟨K90,S91,m92⟩:=Ji e88 19 R
 refine⟨tv,Jb 2 R (Ju (Jw (Ja2 (l:=[.tmp 4,.tmp 5]) V101 (Jp2 R (Jp2 R R)) R ?_)))⟩
 cases h
 exact⟨(fun b=>ren [(15,2),(21,3)] (K90 b)),an,ai,aq,al,R,((hE.stp (S3.tr (S5.tr (S15.tr (S21.tr (S32.tr (S38.tr (S43.tr (S48.tr (S61.tr (S71.tr (S82.tr S91))))))))))) R R).map (ren [(15,2),(21,3)]) R R),(((f69.mx (no_int _) m72 R (R:13+2=15)).stp (S82.tr S91) R R).map (ren [(15,2),(21,3)]) R R),((f89.mx (no_int _) m92 R (R:19+2=21)).map (ren [(15,2),(21,3)]) R R)⟩
theorem i_TouchedBy_ok {w:World}{κ:Col}{aa ad ab ac ae af}{p0:Parity}{p1:Edit}(g0_0_0:Rd (Rp.int .i64) κ w 0 aa ad p0.Arena.Owner) (g0_0_1:Rd (Rp.sl (Rp.int .i64)) κ w 0 ab ac p0.Arena.Next) (g0_1:Rd (Rp.int .i64) κ w 0 ae af p0.Prio){r:(List Int)}(h:i_TouchedBy p0 p1=some r):Ret Tryz.prog 25 [.agg #[.slice aa p0.Arena.Owner.length ad,.slice ab p0.Arena.Next.length ac,.slice ae p0.Prio.length af],.agg #[vi p1.Kind,vi p1.V,vi p1.N]] w (fun v w'=>∃(κ':Col) (ra0:Option Addr) (ru0:Nat),v= .slice ra0 r.length ru0∧Ent κ w κ' w'∧Oc E6 2 κ' w' 2 ra0 ru0 r):=by
 unfold i_TouchedBy at h
 refine Ret.enter F25 R N25 R ?_
 dsimp only[envOf]
 have hE:=Ent.refl κ w
 refine Je [1,1,2] R (Jf1 (κ:=κ) 2 R R R R R R R fun b2 w1 K2 S3 f4=>⟨tv,Jf1 (κ:=K2) 3 R R R R R R R fun b3 w5 K6 S7 f8=>⟨tv,Jb 1 R (Jq (Je [1,1,2,2,1,1,1,2,2] R ?_))⟩⟩)
 have f9:=f4.stp S7 R R
 refine Jl tv R R R R (Jd2 (cs:=[.slice aa p0.Arena.Owner.length ad,.slice ab p0.Arena.Next.length ac,.slice ae p0.Prio.length af]) I39 Z39 R R R (haE f9.cells)) (Ob h fun x6 hx6 h=>?_)
 have f10:=g0_0_0.stp (S3.tr S7) R R
 have f11:=g0_0_1.stp (S3.tr S7) R R
 have f12:=g0_1.stp (S3.tr S7) R R
 refine Jh R R R C54 (i_ParityOk_ok (κ:=fun b=>mp [] 0 (K6 b)) (p0:=p0) (Jl2 f10 (mp [] 0) R R) (Jl2 f11 (mp [] 0) R R) (Jl2 f12 (mp [] 0) R R) hx6) ?_
 rintro _ w13 ⟨k14,rfl,e15⟩
 obtain⟨K16,S17,m18⟩:=Ji e15 4 R
 refine⟨tv,Jn 2 R (Ob h fun p13 h hK20=>Ju1 [(4,1),(5,1),(6,1),(7,2),(8,2)] [] (fun L w'=>L=[(2,.pointer (some ⟨b2,0,none⟩)),(3,.pointer (some ⟨b3,0,none⟩)),(13,.bool p13)]∧∃κ',Stp [] K16 w13 κ' w') tv ?_ ?_)⟩
 revert h
 cases ht21:(!x6)
 refine JF fun h=>Jl tv R R R R (Jd2 (cs:=[.slice aa p0.Arena.Owner.length ad,.slice ab p0.Arena.Next.length ac,.slice ae p0.Prio.length af]) I39 Z39 R R R (haE (f9.stp S17 R R).cells)) (Jl tv R R R R (Jd2 (cs:=[vi p1.Kind,vi p1.V,vi p1.N]) I42 Z42 R R R (haE (f8.stp S17 R R).cells)) (Ob h fun x11 hx11 h=>Jh R R R C42 (i_isEdit_ok (κ:=fun b=>mp [] 0 (K16 b)) (p0:=p0) (p1:=p1) (Jl2 (f10.stp S17 R R) (mp [] 0) R R) (Jl2 (f11.stp S17 R R) (mp [] 0) R R) (Jl2 (f12.stp S17 R R) (mp [] 0) R R) hx11) ?_))
 rintro _ w27 ⟨k28,rfl,e29⟩
 obtain⟨K30,S31,m32⟩:=Ji e29 6 R
 refine⟨tv,Jn 2 R ?_⟩
 cases h
 exact Jv1 _ tv ⟨R,_,S31.wk R⟩ (KM R)
 refine JT fun h=>Jd1 R R R R (Jd1 R R R R (Jd1 R R R R (Jn 2 R ?_)))
 cases h
 exact Jv1 _ tv ⟨R,_,(Jx2 _ _).wk R⟩ (KM R)
 rintro _ w34 _ ⟨rfl,K35,S36⟩
 have h:=hK20
 refine Jd ?_
 revert h
 cases ht37:p13
 refine JF fun h=>Jy R (Js (Jp (Jq (Js1 (κ:=K35) [2,3] none [(0,2),(2,2),(4,2),(1,0),(3,0),(5,0),(6,1),(7,1),(8,1),(9,1),(10,2)] [] (by kernel_rfl) (by kernel_rfl) fun w40 S39=>Jf R (Jb2 U39 R Z37 R R) (Jf R (Jb2 U39 R Z37 R R) (Jf R (Jb2 U42 R Z2 R R) ?_))))))
 have f41:=f9.stp (S17.tr (S36.tr S39)) R R
 refine Jg R (Jd2 (cs:=[.slice aa p0.Arena.Owner.length ad,.slice ab p0.Arena.Next.length ac]) I37 Z37 R R R (haC (f41.lds 0 2 R) R)) (Jg R (Jd2 (cs:=[.slice aa p0.Arena.Owner.length ad,.slice ab p0.Arena.Next.length ac]) I37 Z37 R R R (haC (f41.lds 0 2 R) R)) (Jg R (Jc2 I2 R R (hvC ((f8.stp (S17.tr (S36.tr S39)) R R).ld 1 R R) R)) (Jn1 (κ:=K35) (E:=E6) 6 [] (parts:=[(0,.tmp 19)]) (cells:=[vi p1.V]) (xs:=([p1.V]:List Int)) R R R R R R Y22 Tryzinfo2 R R R R R R R R R R ⟨[vi p1.V],[],Zl K35 w40 [],Zl K35 w40 [],R,Zl.sp (l1:=[]) (l2:=[]) R,Zl.sr (l1:=[]) (l2:=[]),R,R⟩ fun an am w43 K44 S45 f46=>⟨(S45.cl R),Ob h fun x21 hx21 h=>?_⟩)))
 have f47:=f10.stp (S17.tr (S36.tr (S39.tr S45))) R R
 have f48:=f11.stp (S17.tr (S36.tr (S39.tr S45))) R R
 refine Jh R R R C46 (i_markOf_ok (κ:=fun b=>mp [] 0 (K44 b)) (p0:=p0.Arena) (Jl2 f47 (mp [] 0) R R) (Jl2 f48 (mp [] 0) R R) (Jl2 f46.rdc (mp [] 0) R R) hx21) ?_
 rintro _ w49 ⟨k50,aj,ak,rfl,e51,f52⟩
 obtain⟨K53,S54,m55⟩:=Ji e51 7 R
 refine⟨((S45.tr S54).cl R),Ob h fun x22 hx22 h=>Jh R R R C45 (i_leadTo_ok (κ:=fun b=>mp [] 0 (K53 b)) (p0:=p0.Arena) (Jl2 (f47.stp S54 R R) (mp [] 0) R R) (Jl2 (f48.stp S54 R R) (mp [] 0) R R) (Jl2 (f52.mx no_bool m55 R (R:7+2=9)).rdc (mp [] 0) R R) hx22) ?_⟩
 rintro _ w60 ⟨k61,ao,al,rfl,e62,f63⟩
 obtain⟨K64,S65,m66⟩:=Ji e62 10 R
 refine⟨((S45.tr (S54.tr S65)).cl R),Ob h fun x23 hx23 h=>Jh R R R C60 (i_listOf_ok (κ:=fun b=>mp [] 0 (K64 b)) (Jl2 (f63.mx no_bool m66 R (R:10+2=12)).rdc (mp [] 0) R R) hx23) ?_⟩
 rintro _ w69 ⟨k70,ai,ah,rfl,e71,f72⟩
 obtain⟨K73,S74,m75⟩:=Ji e71 13 R
 refine⟨((S45.tr (S54.tr (S65.tr S74))).cl R),Jn 1 R (Jt1 (Jd (Ju (Ja2 (l:=[.tmp 4]) V25 (Jp2 R R) R ?_))))⟩
 cases h
 exact⟨(fun b=>ren [(15,2)] (K73 b)),ai,ah,R,((hE.stp (S3.tr (S7.tr (S17.tr (S36.tr (S39.tr (S45.tr (S54.tr (S65.tr S74)))))))) R R).map (ren [(15,2)]) R R),((f72.mx (no_int _) m75 R (R:13+2=15)).map (ren [(15,2)]) R R)⟩
 refine JT fun h=>Jx R (Je [2] R (Jb 1 R (Ju (Jw (Ja2 (l:=[.tmp 4]) V25 (Jp2 R R) R ?_)))))
 cases h
 exact⟨K35,none,0,R,(hE.stp (S3.tr (S7.tr (S17.tr S36))) R R),Ow.nil⟩
end Go.Proofs.YtmiilifclnanlaaGreat
