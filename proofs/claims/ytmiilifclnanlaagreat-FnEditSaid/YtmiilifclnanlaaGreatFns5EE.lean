/- The walks, part 5. By program. -/
import Derived.Test.YtmiilifclnanlaaGreatFns0EE
import Derived.Test.YtmiilifclnanlaaGreatFns1EE
import Derived.Test.YtmiilifclnanlaaGreatFns2EE
set_option linter.unusedVariables false
set_option linter.unusedSimpArgs false
namespace Go.Proofs.YtmiilifclnanlaaGreat
open Go Go.Wk Go.Proofs
set_option maxRecDepth 100000
set_option maxHeartbeats 1000000
theorem s_l1Below_ok {w:World}{κ:Col}{ab aa}{p0:l1Cur}{p1:Int}{b0}(g0_0:Rd (Rp.int .u8) κ w 0 ab aa p0.b) (gb0:Bc κ w 2 b0 107 [.slice ab p0.b.length aa,vi p0.i,vi p0.h]){r:Int×Int×Int}(h:s_l1Below p0 p1=some r):Ret Tryz.prog 69 [.pointer (some ⟨b0,0,none⟩),vi p1] w (fun v w'=>∃(κ':Col),v=vi r.1∧Ent κ w κ' w'∧Bc κ' w' 2 b0 107 [.slice ab p0.b.length aa,vi r.2.1,vi r.2.2]):=by
 unfold s_l1Below at h
 refine Ret.enter F69 R N69 R ?_
 dsimp only[envOf]
 have hE:=Ent.refl κ w
 refine Je [2] R (Jb 1 R (Jq (Je [2,2] R (Jb 2 R ?_))))
 revert h
 cases ht1:decide (p1≤0)
 refine JF fun h=>Jy R (Js (Jp (Jq (Je [2,2] R (Jb 2 R ?_)))))
 revert h
 cases ht2:decide (p1≤256)
 refine JF fun h=>Jy R (Js (Jp (Je [2,1,2] R (Jn 1 R (Ob h fun x18 hx18 h=>Jh R R R C110 (s_l1Byte_ok (κ:=fun b=>mp [(2,2)] 0 (κ b)) (p0:=p0) (Jl2 g0_0 (mp [(2,2)] 0) R R) (gb0.map (mp [(2,2)] 0) R R) hx18) ?_)))))
 rintro _ w13 ⟨k14,rfl,e15,f16⟩
 obtain⟨K17,S18,m19⟩:=Ji e15 3 R
 refine⟨tv,Jb 1 R (Je [2,1,2] R (Jn 1 R (Ob h fun x20 hx20 h=>?_)))⟩
 have f22:=g0_0.stp S18 R R
 refine Jh R R R C110 (s_l1Byte_ok (κ:=fun b=>mp [(5,2)] 0 (K17 b)) (p0:=(⟨p0.b,x18.2.1,x18.2.2⟩:l1Cur)) (Jl2 f22 (mp [(5,2)] 0) R R) ((f16.mx m19 R (R:3+2=5)).map (mp [(5,2)] 0) R R) hx20) ?_
 rintro _ w23 ⟨k24,rfl,e25,f26⟩
 obtain⟨K27,S28,m29⟩:=Ji e25 6 R
 refine⟨tv,Jb 1 R (Je [2,1,2] R (Jn 1 R (Ob h fun x22 hx22 h=>?_)))⟩
 have f32:=f22.stp S28 R R
 refine Jh R R R C110 (s_l1Byte_ok (κ:=fun b=>mp [(8,2)] 0 (K27 b)) (p0:=(⟨p0.b,x20.2.1,x20.2.2⟩:l1Cur)) (Jl2 f32 (mp [(8,2)] 0) R R) ((f26.mx m29 R (R:6+2=8)).map (mp [(8,2)] 0) R R) hx22) ?_
 rintro _ w33 ⟨k34,rfl,e35,f36⟩
 obtain⟨K37,S38,m39⟩:=Ji e35 9 R
 refine⟨tv,Jb 1 R (Je [2,1,2] R (Jn 1 R (Ob h fun x24 hx24 h=>Jh R R R C110 (s_l1Byte_ok (κ:=fun b=>mp [(11,2)] 0 (K37 b)) (p0:=(⟨p0.b,x22.2.1,x22.2.2⟩:l1Cur)) (Jl2 (f32.stp S38 R R) (mp [(11,2)] 0) R R) ((f36.mx m39 R (R:9+2=11)).map (mp [(11,2)] 0) R R) hx24) ?_)))⟩
 rintro _ w43 ⟨k44,rfl,e45,f46⟩
 obtain⟨K47,S48,m49⟩:=Ji e45 12 R
 refine⟨tv,Jb 1 R (Je [2,2,2,2,2,2,2,2,2,2,2,2,2] R (Jn 11 R (Ob h fun _z36 hz36 h=>Jf R (rn_rem R R R (nz_ok hz36)) (Jb 1 R (Ju (Ja2 (l:=[.tmp 4]) V69 (Jp2 R R) R ?_))))))⟩
 cases h
 exact⟨(fun b=>ren [(14,2)] (K47 b)),R,((hE.stp (S18.tr (S28.tr (S38.tr S48))) R R).map (ren [(14,2)]) R R),((f46.mx m49 R (R:12+2=14)).map (ren [(14,2)]) R R)⟩
 refine JT fun h=>Jx R (Je [2,1,2,2,2] R (Jn 1 R (Ob h fun x14 hx14 h=>Jh R R R C110 (s_l1Byte_ok (κ:=fun b=>mp [(2,2)] 0 (κ b)) (p0:=p0) (Jl2 g0_0 (mp [(2,2)] 0) R R) (gb0.map (mp [(2,2)] 0) R R) hx14) ?_)))
 rintro _ w3 ⟨k4,rfl,e5,f6⟩
 obtain⟨K7,S8,m9⟩:=Ji e5 3 R
 refine⟨tv,Jn 1 R (Ob h fun _z16 hz16 h=>Jf R (rn_rem R R R (nz_ok hz16)) (Jb 1 R (Ju (Jw (Ja2 (l:=[.tmp 4]) V69 (Jp2 R R) R ?_)))))⟩
 cases h
 exact⟨(fun b=>ren [(5,2)] (K7 b)),R,((hE.stp S8 R R).map (ren [(5,2)]) R R),((f6.mx m9 R (R:3+2=5)).map (ren [(5,2)]) R R)⟩
 refine JT fun h=>Jx R (Je [2] R (Jb 1 R (Ju (Jw (Ja2 (l:=[.tmp 4]) V69 (Jp2 R R) R ?_)))))
 cases h
 exact⟨κ,R,hE,gb0⟩
theorem i_ArenaOk_ok {w:World}{κ:Col}{ad ac ab aa}{p0:Arena}(g0_0:Rd (Rp.int .i64) κ w 0 ad ac p0.Owner) (g0_1:Rd (Rp.sl (Rp.int .i64)) κ w 0 ab aa p0.Next){r:Bool}(h:i_ArenaOk p0=some r):Ret Tryz.prog 94 [.agg #[.slice ad p0.Owner.length ac,.slice ab p0.Next.length aa]] w (fun v w'=>∃(κ':Col),v= .bool r∧Ent κ w κ' w'):=by
 unfold i_ArenaOk at h
 refine Ret.enter F94 R N94 R ?_
 dsimp only[envOf]
 have hE:=Ent.refl κ w
 refine Je [1,2] R (Jf1 (κ:=κ) 2 R R R R R R R fun b1 w1 K2 S3 f4=>⟨tv,Jb 1 R (Je [2,1,2,2] R (Jf R (Jb2 U37 R Z22 R R) (Jl tv R R R R (Jc2 I22 R R (hvE (f4.ld 0 R R))) (Jf R (Je2 U22 R R) (Jb 1 R (Jq (Je [2,2,2,2,2,2,2,2,1,2,2,2,2] R (Jn 3 R (Ob h fun p14 h hK5=>Ju1 [(3,2),(4,2),(5,2)] [(6,2),(7,2),(8,1),(9,2),(10,2),(11,2),(12,2)] (fun L w'=>L=[(1,.pointer (some ⟨b1,0,none⟩)),(3,vi (p0.Owner.length:Int)),(14,.bool p14)]∧∃κ',Stp [] K2 w1 κ' w') tv ?_ ?_)))))))))⟩)
 revert h
 cases ht6:decide ((p0.Owner.length:Int)<1)
 refine JF fun h=>Jn 3 R ?_
 cases h
 exact Jv1 _ tv ⟨R,_,(Jx2 _ _).wk R⟩ (KM R)
 refine JT fun h=>Jn 3 R ?_
 cases h
 exact Jv1 _ tv ⟨R,_,(Jx2 _ _).wk R⟩ (KM R)
 rintro _ w7 _ ⟨rfl,K8,S9⟩
 have h:=hK5
 refine Jn 1 R (Ob h fun p21 h hK10=>Ju1 [(7,2),(8,1),(9,2),(10,2),(11,2),(12,2)] [] (fun L w'=>L=[(1,.pointer (some ⟨b1,0,none⟩)),(3,vi (p0.Owner.length:Int)),(21,.bool p21)]∧∃κ',Stp [] K8 w7 κ' w') tv ?_ ?_)
 revert h
 cases ht11:p14
 refine JF fun h=>Jf R (Jb2 U37 R Z23 R R) (Jl tv R R R R (Jc2 I23 R R (hvE ((f4.stp S9 R R).ld 1 R R))) (Jf R (Je2 U23 R R) (Jn 3 R ?_)))
 cases h
 exact Jv1 _ tv ⟨R,_,(Jx2 _ _).wk R⟩ (KM R)
 refine JT fun h=>Jn 1 R (Jd1 R R R R (Jn 4 R ?_))
 cases h
 exact Jv1 _ tv ⟨R,_,(Jx2 _ _).wk R⟩ (KM R)
 rintro _ w13 _ ⟨rfl,K14,S15⟩
 have h:=hK10
 refine Jd ?_
 revert h
 cases ht16:p21
 refine JF fun h=>Jy R (Js (Jp (Jq (Je [2,1,2,2] R (Jf R (Jb2 U37 R Z23 R R) ?_)))))
 have f18:=f4.stp (S9.tr S15) R R
 refine Jl tv R R R R (Jc2 I23 R R (hvE (f18.ld 1 R R))) (Jf R (Je2 U23 R R) (Jb 1 R ?_))
 have hN19:(p0.Next.length:Int)≤9223372036854775807:=g0_1.len_le
 refine Ob h fun q2 hq21 hK20=>?_
 clear h
 refine Jx1 (fun L w'=>∃κ',L=[]∧Stp [] K14 w13 κ' w'∧q2=Sum.inr ()) ?_ ?_
 refine Jv (Jy1 (fun k L w'=>∃κ' v25,L=[(1,.pointer (some ⟨b1,0,none⟩)),(3,vi (p0.Owner.length:Int)),(23,.slice ab p0.Next.length aa),(24,vi (p0.Next.length:Int)),(25,vi v25)]∧Stp [] K14 w13 κ' w'∧0≤v25∧Int.toNat ((p0.Next.length:Int)-v25)=k∧cntM (i_ArenaOk_b0 p0) k v25 ()=some q2) ⟨_,_,⟨K14,0,R,(Jx2 _ _).wk R,(by decide),(by simp),hq21⟩,(KM R)⟩ ?_)
 rintro k _ w25 ⟨K26,v25,rfl,S27,hj19,hJ19,h⟩
 rcases k with _ | k
 have hk28:=h;obtain⟨o19,h⟩:=ex_eq (Sum.inr (Sum.inl ()):Bool⊕((Unit)⊕(Unit)))
 have hc19:decide (v25<(p0.Next.length:Int))=false:=Jo2 (by omega)
 refine Je [2] R (Jb 1 R (Jq (Jw2 R hc19 (Jc1 (Jt (Jt ?_))))))
 cases h
 have h:=hk28
 refine Jb1 ?_
 cases h
 exact Jw1 _ ⟨K26,R,S27.wk R,R⟩ KN
 obtain⟨o19,h,hk28⟩:=BI h;unfold i_ArenaOk_b0 at h
 have hc19:decide (v25<(p0.Next.length:Int))=true:=Jn2 (by omega)
 refine Je [2] R (Jb 1 R (Jq (Jv2 R hc19 (Js (Jp (Jq (Jv (Je [2,2,1,2,2] R (Jn 1 R (Ob h fun x28 hx28 h=>Jf R (Jf2 g0_1 hx28 U23 Z22 R R R R) ?_))))))))))
 obtain⟨ax28,ux28,f30,hl31⟩:=(g0_1.stp (S3.tr (S9.tr (S15.tr S27))) R R).gSl hx28
 refine Jl tv R R R R (Jc2 I22 R R (hvE hl31)) (Jb 2 R (Je [2,1,2,2,1,2,2,2,1,2,2,1,2,2,2,2,2,2,2,2,2,2,2,2,2,2,2,1,2,2] R (Jf R (Jb2 U37 R Z22 R R) ?_)))
 have f32:=f18.stp S27 R R
 refine Jl tv R R R R (Jc2 I22 R R (hvE (f32.ld 0 R R))) (Jn 1 R (Ob h fun x33 hx33 h=>Jf R (Jf2 g0_0 hx33 U22 Z2 R R R R) ?_))
 have f33:=g0_0.stp (S3.tr (S9.tr (S15.tr S27))) R R
 refine Jl tv R R R R (Jc2 I2 R R (hvE (f33.gInt hx33))) (Jn 2 R (Ob h fun p43 h hK34=>Ju1 [(7,2),(8,1),(9,2),(10,2),(11,1),(12,2),(13,2)] [(14,2),(15,2),(16,2),(17,2),(18,2),(19,2),(20,2),(21,2),(22,2),(23,2),(24,2),(25,2),(26,2),(27,1),(28,2),(29,2)] (fun L w'=>L=[(1,.pointer (some ⟨b1,0,none⟩)),(3,vi (p0.Owner.length:Int)),(5,.slice ax28 x28.length ux28),(23,.slice ab p0.Next.length aa),(24,vi (p0.Next.length:Int)),(25,vi v25),(43,.bool p43)]∧∃κ',Stp [] K26 w25 κ' w') tv ?_ ?_))
 revert h
 cases ht35:decide (x33<0)
 refine JF fun h=>Jf R (Jb2 U37 R Z22 R R) (Jl tv R R R R (Jc2 I22 R R (hvE (f32.ld 0 R R))) (Jn 1 R (Ob h fun x40 hx40 h=>Jf R (Jf2 f33 hx40 U22 Z2 R R R R) (Jl tv R R R R (Jc2 I2 R R (hvE (f33.gInt hx40))) (Jn 2 R ?_)))))
 cases h
 exact Jv1 _ tv ⟨R,_,(Jx2 _ _).wk R⟩ (KM R)
 refine JT fun h=>Jn 1 R (Jd1 R R R R (Jn 2 R (Jd1 R R R R (Jn 2 R ?_))))
 cases h
 exact Jv1 _ tv ⟨R,_,(Jx2 _ _).wk R⟩ (KM R)
 rintro _ w36 _ ⟨rfl,K37,S38⟩
 have h:=hK34
 refine Jn 1 R (Ob h fun p48 h hK39=>Ju1 [(15,2),(16,2),(17,2),(18,2)] [(19,2),(20,2),(21,2),(22,2),(23,2),(24,2),(25,2),(26,2),(27,1),(28,2),(29,2)] (fun L w'=>L=[(1,.pointer (some ⟨b1,0,none⟩)),(3,vi (p0.Owner.length:Int)),(5,.slice ax28 x28.length ux28),(23,.slice ab p0.Next.length aa),(24,vi (p0.Next.length:Int)),(25,vi v25),(48,.bool p48)]∧∃κ',Stp [] K37 w36 κ' w') tv ?_ ?_)
 revert h
 cases ht40:p43
 refine JF fun h=>Jn 1 R (Jf R (Je2 U22 R R) (Jn 2 R ?_))
 cases h
 exact Jv1 _ tv ⟨R,_,(Jx2 _ _).wk R⟩ (KM R)
 refine JT fun h=>Jn 4 R ?_
 cases h
 exact Jv1 _ tv ⟨R,_,(Jx2 _ _).wk R⟩ (KM R)
 rintro _ w41 _ ⟨rfl,K42,S43⟩
 have h:=hK39
 refine Jn 1 R (Ob h fun p53 h hK44=>Ju1 [(20,2),(21,2),(22,2),(23,2)] [(24,2),(25,2),(26,2),(27,1),(28,2),(29,2)] (fun L w'=>L=[(1,.pointer (some ⟨b1,0,none⟩)),(3,vi (p0.Owner.length:Int)),(5,.slice ax28 x28.length ux28),(23,.slice ab p0.Next.length aa),(24,vi (p0.Next.length:Int)),(25,vi v25),(53,.bool p53)]∧∃κ',Stp [] K42 w41 κ' w') tv ?_ ?_)
 revert h
 cases ht45:p48
 refine JF fun h=>Jn 1 R (Jf R (Je2 U22 R R) (Jn 2 R ?_))
 cases h
 exact Jv1 _ tv ⟨R,_,(Jx2 _ _).wk R⟩ (KM R)
 refine JT fun h=>Jn 4 R ?_
 cases h
 exact Jv1 _ tv ⟨R,_,(Jx2 _ _).wk R⟩ (KM R)
 rintro _ w46 _ ⟨rfl,K47,S48⟩
 have h:=hK44
 refine Jn 1 R (Ob h fun p59 h hK49=>Ju1 [(25,2),(26,2),(27,1),(28,2),(29,2)] [] (fun L w'=>L=[(1,.pointer (some ⟨b1,0,none⟩)),(3,vi (p0.Owner.length:Int)),(23,.slice ab p0.Next.length aa),(24,vi (p0.Next.length:Int)),(25,vi v25),(59,.bool p59)]∧∃κ',Stp [] K47 w46 κ' w') tv ?_ ?_)
 revert h
 cases ht50:p53
 refine JF fun h=>Jn 2 R (Ob h fun x57 hx57 h=>Jh R R R C122 (i_isSet_ok (κ:=fun b=>mp [] 0 (K47 b)) (Jl2 (f30.stp (S38.tr (S43.tr S48)) R R) (mp [] 0) R R) hx57) ?_)
 rintro _ w52 ⟨k53,rfl,e54⟩
 obtain⟨K55,S56,m57⟩:=Ji e54 3 R
 refine⟨tv,Jn 2 R ?_⟩
 cases h
 exact Jv1 _ tv ⟨R,_,S56.wk R⟩ (KM R)
 refine JT fun h=>Jn 2 R (Jd1 R R R R (Jn 2 R ?_))
 cases h
 exact Jv1 _ tv ⟨R,_,(Jx2 _ _).wk R⟩ (KM R)
 rintro _ w59 _ ⟨rfl,K60,S61⟩
 have h:=hK49
 refine Jd ?_
 revert h
 cases ht62:p59
 refine JF fun h=>Jy R (Js (Jz (Jp (Ja [2,2] R (Jc 2 R ?_)))))
 have hw19:IntKind.wrap .i64 (v25+1)=v25+1:=wr1 hj19 (Jm2 hc19) hN19
 rw[hw19]
 have hc19:=Jm2 hc19
 cases h
 exact Jz1 fun a ha=>⟨k,_,Ja3 _,⟨K60,v25+1,R,(S27.tr (S38.tr (S43.tr (S48.tr S61)))).wk R,by omega,by omega,hk28⟩,(ha.mm R)⟩
 refine JT fun h=>Jx R (Je [2] R (Jb 1 R (Ju (Ja1 (Jw (Jw ?_))))))
 cases h
 obtain rfl:=Option.some.inj hk28
 have h:=hK20
 dsimp only[aft]at h
 refine Ja1 (Jq2 (Jw (Ja2 (l:=[.tmp 2]) V94 (Jp2 R R) R ?_)))
 cases h
 exact⟨K60,R,(hE.stp (S3.tr (S9.tr (S15.tr (S27.tr (S38.tr (S43.tr (S48.tr S61))))))) R R)⟩
 rintro _ w22 ⟨K23,rfl,S24,rfl⟩
 have h:=hK20
 dsimp only[aft]at h
 refine Jp (Je [2] R (Jb 1 R (Ju (Ja2 (l:=[.tmp 2]) V94 (Jp2 R R) R ?_))))
 cases h
 exact⟨K23,R,(hE.stp (S3.tr (S9.tr (S15.tr S24))) R R)⟩
 refine JT fun h=>Jx R (Je [2] R (Jb 1 R (Ju (Jw (Ja2 (l:=[.tmp 2]) V94 (Jp2 R R) R ?_)))))
 cases h
 exact⟨K14,R,(hE.stp (S3.tr (S9.tr S15)) R R)⟩
theorem i_hasVertex_ok {w:World}{κ:Col}{ad aa ac ab}{p0:Arena}{p1:Int}(g0_0:Rd (Rp.int .i64) κ w 0 ad aa p0.Owner) (g0_1:Rd (Rp.sl (Rp.int .i64)) κ w 0 ac ab p0.Next){r:Bool}(h:i_hasVertex p0 p1=some r):Ret Tryz.prog 84 [.agg #[.slice ad p0.Owner.length aa,.slice ac p0.Next.length ab],vi p1] w (fun v w'=>∃(κ':Col),v= .bool r∧Ent κ w κ' w'):=by
 unfold i_hasVertex at h
 refine Ret.enter F84 R N84 R ?_
 dsimp only[envOf]
 have hE:=Ent.refl κ w
 refine Je [1,2] R (Jf1 (κ:=κ) 2 R R R R R R R fun b2 w1 K2 S3 f4=>⟨tv,Jb 1 R (Je [2,2,2,2,1,1,2,2,2] R (Jn 3 R (Ob h fun p12 h hK5=>Ju1 [(3,2),(4,1),(5,1),(6,2),(7,2)] [(8,2)] (fun L w'=>L=[(4,.bool false),(12,.bool p12)]∧∃κ',Stp [] K2 w1 κ' w') tv ?_ ?_)))⟩)
 revert h
 cases ht6:decide (0≤p1)
 refine JF fun h=>Jn 1 R (Jd1 R R R R (Jd1 R R R R (Jn 2 R ?_)))
 cases h
 exact Jv1 _ tv ⟨R,_,(Jx2 _ _).wk R⟩ (KM R)
 refine JT fun h=>Jn 1 R (Jl tv R R R R (Jd2 (cs:=[.slice ad p0.Owner.length aa,.slice ac p0.Next.length ab]) I37 Z37 R R R (haE f4.cells)) (Ob h fun x10 hx10 h=>Jh R R R C117 (i_size_ok (κ:=fun b=>mp [] 0 (K2 b)) (p0:=p0) (Jl2 (g0_0.stp S3 R R) (mp [] 0) R R) (Jl2 (g0_1.stp S3 R R) (mp [] 0) R R) hx10) ?_))
 rintro _ w9 ⟨k10,rfl,e11⟩
 obtain⟨K12,S13,m14⟩:=Ji e11 3 R
 refine⟨tv,Jn 2 R ?_⟩
 cases h
 exact Jv1 _ tv ⟨R,_,S13.wk R⟩ (KM R)
 rintro _ w16 _ ⟨rfl,K17,S18⟩
 have h:=hK5
 refine Jb 1 R (Ju (Ja2 (l:=[.tmp 4]) V84 (Jp2 R R) R ?_))
 cases h
 exact⟨K17,R,(hE.stp (S3.tr S18) R R)⟩
theorem slices_Contains_I_int64_ok {w:World}{κ:Col}{a0 u0}{p0:(List Int)}{p1:Int}(g0:Rd (Rp.int .i64) κ w 0 a0 u0 p0){r:Bool}(h:slices_Contains_I_int64 p0 p1=some r):Ret Tryz.prog 86 [.slice a0 p0.length u0,vi p1] w (fun v w'=>∃(κ':Col),v= .bool r∧Ent κ w κ' w'):=by
 unfold slices_Contains_I_int64 at h
 refine Ret.enter F86 R N86 R ?_
 dsimp only[envOf]
 have hE:=Ent.refl κ w
 refine Je [2] R (Jb 1 R (Je [2,2,1,2,2] R (Jn 2 R (Ob h fun x7 hx7 h=>Jh R R R C118 (slices_Index_I_int64_ok (κ:=fun b=>mp [] 0 (κ b)) (Jl2 g0 (mp [] 0) R R) hx7) ?_))))
 rintro _ w1 ⟨k2,rfl,e3⟩
 obtain⟨K4,S5,m6⟩:=Ji e3 2 R
 refine⟨tv,Jb 2 R (Ju (Ja2 (l:=[.tmp 4]) V86 (Jp2 R R) R ?_))⟩
 cases h
 exact⟨K4,R,(hE.stp S5 R R)⟩
theorem s_l1Rises_ok {w:World}{κ:Col}{a0 u0}{p0:(List Int)}{p1:Int}(g0:Rd (Rp.int .i64) κ w 0 a0 u0 p0){r:Bool}(h:s_l1Rises p0 p1=some r):Ret Tryz.prog 147 [.slice a0 p0.length u0,vi p1] w (fun v w'=>∃(κ':Col),v= .bool r∧Ent κ w κ' w'):=by
 unfold s_l1Rises at h
 refine Ret.enter F147 R N147 R ?_
 dsimp only[envOf]
 have hE:=Ent.refl κ w
 refine Je [2] R (Jb 1 R (Jq (Je [2] R (Jb 1 R ?_))))
 have hN1:(p0.length:Int)≤9223372036854775807:=g0.len_le
 refine Ob h fun q2 hq3 hK2=>?_
 clear h
 refine Jx1 (fun L w'=>∃κ',L=[]∧Stp [] κ w κ' w'∧q2=Sum.inr ()) ?_ ?_
 refine Jv (Jy1 (fun k L w'=>∃κ' v5,L=[(0,.slice a0 p0.length u0),(1,vi p1),(5,vi v5)]∧Stp [] κ w κ' w'∧0≤v5∧Int.toNat ((p0.length:Int)-v5)=k∧cntM (s_l1Rises_b0 p0 p1) k v5 ()=some q2) ⟨_,_,⟨κ,0,R,(Jx2 _ _).wk R,(by decide),(by simp),hq3⟩,(KM R)⟩ ?_)
 rintro k _ w7 ⟨K8,v5,rfl,S9,hj1,hJ1,h⟩
 rcases k with _ | k
 have hk10:=h;obtain⟨o1,h⟩:=ex_eq (Sum.inr (Sum.inl ()):Bool⊕((Unit)⊕(Unit)))
 have hc1:decide (v5<(p0.length:Int))=false:=Jo2 (by omega)
 refine Jq (Je [2,2,2,2] R (Jn 2 R (Jf R (Je2 U22 R R) (Jb 1 R (Jw2 R hc1 (Jc1 (Jt (Jt ?_))))))))
 cases h
 have h:=hk10
 refine Jb1 ?_
 cases h
 exact Jw1 _ ⟨K8,R,S9.wk R,R⟩ KN
 obtain⟨o1,h,hk10⟩:=BI h;unfold s_l1Rises_b0 at h
 have hc1:decide (v5<(p0.length:Int))=true:=Jn2 (by omega)
 refine Jq (Je [2,2,2,2] R (Jn 2 R (Jf R (Je2 U22 R R) (Jb 1 R (Jv2 R hc1 (Js (Jp (Jq (Jv (Jq (Js1 (κ:=K8) [0] none [(0,2),(1,2),(2,2),(4,2),(5,2),(3,0),(6,1),(7,2),(8,2),(9,2),(10,2),(11,2),(12,2),(13,2),(14,2),(16,2),(17,2),(18,2),(19,2),(15,0),(20,0),(21,2),(22,2),(23,2)] [] (by kernel_rfl) (by kernel_rfl) fun w12 S11=>Jn 2 R (Ob h fun x14 hx14 h=>Jf R (Jf2 g0 hx14 U22 Z2 R R R R) (Jn 2 R ?_)))))))))))))
 have f13:=g0.stp (S9.tr S11) R R
 refine Jg R (Jc2 I2 R R (hvC (f13.gInt hx14) R)) (Ob h fun x18 hx18 h=>Jh R R R C75 (s_l1In_ok (κ:=fun b=>mp [] 0 (K8 b)) hx18) ?_)
 rintro _ w14 ⟨k15,rfl,e16⟩
 obtain⟨K17,S18,m19⟩:=Ji e16 2 R
 refine⟨(S18.cl R),Jn 2 R (Ob h fun p35 h hK21=>Ju1 [(9,2),(10,2),(11,2),(12,2),(13,2),(14,2),(16,2),(17,2),(18,2),(19,2),(15,0),(20,0),(21,2),(22,2),(23,2)] [] (fun L w'=>L=[(0,.slice a0 p0.length u0),(1,vi p1),(5,vi v5),(35,.bool p35)]∧∃κ',Stp [] K17 w14 κ' w') (S18.cl R) ?_ ?_)⟩
 revert h
 cases ht22:(!x18)
 refine JF fun h=>Jn 3 R (Ob h fun p34 h hK23=>Ju1 [(12,2),(13,2),(14,2),(16,2),(17,2),(18,2),(19,2),(15,0),(20,0),(21,2),(22,2)] [(23,2)] (fun L w'=>L=[(0,.slice a0 p0.length u0),(1,vi p1),(5,vi v5),(20,.bool false),(21,vi v5),(22,.bool (decide (0<v5))),(23,.bool (decide (0<v5))),(34,.bool p34)]∧∃κ',Stp [] K17 w14 κ' w') (S18.cl R) ?_ ?_)
 revert h
 cases ht24:decide (0<v5)
 refine JF fun h=>Jn 7 R (Je1 R R R R (Je1 R R R R (Jn 2 R ?_)))
 cases h
 exact Jv1 _ (S18.cl R) ⟨R,_,(Jx2 _ _).wk R⟩ (KM R)
 refine JT fun h=>Jn 2 R (Ob h fun x26 hx26 h=>Jf R (Jf2 f13 hx26 U22 Z2 R R R R) (Jn 3 R (Ob h fun x31 hx31 h=>Jf R (Jf2 f13 hx31 U22 Z2 R R R R) (Jg R (Jc2 I2 R R (hvC (f13.gInt hx26) R)) (Jg R (Jc2 I2 R R (hvC (f13.gInt hx31) R)) (Jn 2 R ?_))))))
 cases h
 exact Jv1 _ (S18.cl R) ⟨R,_,(Jx2 _ _).wk R⟩ (KM R)
 rintro _ w25 _ ⟨rfl,K26,S27⟩
 have h:=hK23
 refine Jn 1 R ?_
 cases h
 exact Jv1 _ ((S18.tr S27).cl R) ⟨R,_,S27.wk R⟩ (KM R)
 refine JT fun h=>Jn 10 R (Je1 R R R R (Je1 R R R R (Jn 3 R ?_)))
 cases h
 exact Jv1 _ (S18.cl R) ⟨R,_,(Jx2 _ _).wk R⟩ (KM R)
 rintro _ w28 _ ⟨rfl,K29,S30⟩
 have h:=hK21
 refine Jt1 (Jd ?_)
 revert h
 cases ht31:p35
 refine JF fun h=>Jy R (Js (Jz (Jp (Ja [2,2,2] R (Jc 3 R ?_)))))
 have hw1:IntKind.wrap .i64 (v5+1)=v5+1:=wr1 hj1 (Jm2 hc1) hN1
 rw[hw1]
 have hc1:=Jm2 hc1
 cases h
 exact Jz1 fun a ha=>⟨k,_,Ja3 _,⟨K29,v5+1,R,(S9.tr (S11.tr (S18.tr S30))).wk R,by omega,by omega,hk10⟩,(ha.mm R)⟩
 refine JT fun h=>Jx R (Je [2] R (Jb 1 R (Ju (Ja1 (Jw (Jw ?_))))))
 cases h
 obtain rfl:=Option.some.inj hk10
 have h:=hK2
 dsimp only[aft]at h
 refine Ja1 (Jq2 (Jw (Ja2 (l:=[.tmp 4]) V147 (Jp2 R R) R ?_)))
 cases h
 exact⟨K29,R,(hE.stp (S9.tr (S11.tr (S18.tr S30))) R R)⟩
 rintro _ w4 ⟨K5,rfl,S6,rfl⟩
 have h:=hK2
 dsimp only[aft]at h
 refine Jp (Je [2] R (Jb 1 R (Ju (Ja2 (l:=[.tmp 4]) V147 (Jp2 R R) R ?_))))
 cases h
 exact⟨K5,R,(hE.stp S6 R R)⟩
theorem s_l7Picks_ok {w:World}{κ:Col}{aa af ab ac ad ae}{p0:Parity}{a1 u1}{p1:(List Int)}(g0_0_0:Rd (Rp.int .i64) κ w 0 aa af p0.Arena.Owner) (g0_0_1:Rd (Rp.sl (Rp.int .i64)) κ w 0 ab ac p0.Arena.Next) (g0_1:Rd (Rp.int .i64) κ w 0 ad ae p0.Prio) (g1:Rd (Rp.int .i64) κ w 0 a1 u1 p1){r:Bool}(h:s_l7Picks p0 p1=some r):Ret Tryz.prog 148 [.agg #[.slice aa p0.Arena.Owner.length af,.slice ab p0.Arena.Next.length ac,.slice ad p0.Prio.length ae],.slice a1 p1.length u1] w (fun v w'=>∃(κ':Col),v= .bool r∧Ent κ w κ' w'):=by
 unfold s_l7Picks at h
 refine Ret.enter F148 R N148 R ?_
 dsimp only[envOf]
 have hE:=Ent.refl κ w
 refine Je [1,2] R (Jf1 (κ:=κ) 2 R R R R R R R fun b2 w1 K2 S3 f4=>⟨tv,Jb 1 R (Jq (Je [2,2,2,1,2,2] R (Jn 1 R (Jf R (Je2 U22 R R) (Jf R (Jb2 U39 R Z22 R R) (Jl tv R R R R (Jc2 I22 R R (hvE (f4.ld 2 R R))) (Jf R (Je2 U22 R R) (Jb 1 R ?_))))))))⟩)
 revert h
 cases ht5:((p1.length:Int) !=(p0.Prio.length:Int))
 refine JF fun h=>Jy R (Js (Jp (Jq (Je [2] R (Jb 1 R ?_)))))
 have hN7:(p1.length:Int)≤9223372036854775807:=g1.len_le
 refine Ob h fun q2 hq9 hK8=>?_
 clear h
 refine Jx1 (fun L w'=>∃κ',L=[]∧Stp [] K2 w1 κ' w'∧q2=Sum.inr ()) ?_ ?_
 refine Jv (Jy1 (fun k L w'=>∃κ' v5,L=[(1,.slice a1 p1.length u1),(2,.pointer (some ⟨b2,0,none⟩)),(5,vi v5)]∧Stp [] K2 w1 κ' w'∧0≤v5∧Int.toNat ((p1.length:Int)-v5)=k∧cntM (s_l7Picks_b0 p0 p1) k v5 ()=some q2) ⟨_,_,⟨K2,0,R,(Jx2 _ _).wk R,(by decide),(by simp),hq9⟩,(KM R)⟩ ?_)
 rintro k _ w13 ⟨K14,v5,rfl,S15,hj7,hJ7,h⟩
 rcases k with _ | k
 have hk16:=h;obtain⟨o7,h⟩:=ex_eq (Sum.inr (Sum.inl ()):Bool⊕((Unit)⊕(Unit)))
 have hc7:decide (v5<(p1.length:Int))=false:=Jo2 (by omega)
 refine Jq (Je [2,2,2,2] R (Jn 2 R (Jf R (Je2 U22 R R) (Jb 1 R (Jw2 R hc7 (Jc1 (Jt (Jt ?_))))))))
 cases h
 have h:=hk16
 refine Jb1 ?_
 cases h
 exact Jw1 _ ⟨K14,R,S15.wk R,R⟩ KN
 obtain⟨o7,h,hk16⟩:=BI h;unfold s_l7Picks_b0 at h
 have hc7:decide (v5<(p1.length:Int))=true:=Jn2 (by omega)
 refine Jq (Je [2,2,2,2] R (Jn 2 R (Jf R (Je2 U22 R R) (Jb 1 R (Jv2 R hc7 (Js (Jp (Jq (Jv (Jq (Js1 (κ:=K14) [0,2] none [(0,2),(1,2),(2,2),(3,0),(4,2),(5,2),(6,2),(7,2),(9,2),(12,2),(13,2),(14,2),(8,0),(10,2),(11,0),(15,0),(16,1),(17,2),(18,2)] [] (by kernel_rfl) (by kernel_rfl) fun w18 S17=>Jn 2 R (Ob h fun x20 hx20 h=>Jf R (Jf2 g1 hx20 U22 Z2 R R R R) ?_))))))))))))
 have f19:=g1.stp (S3.tr (S15.tr S17)) R R
 refine Jg R (Jc2 I2 R R (hvC (f19.gInt hx20) R)) (Jn 2 R (Ob h fun p36 h hK20=>Ju1 [(6,2),(7,2),(9,2),(12,2),(13,2),(14,2),(8,0),(10,2),(11,0),(15,0),(16,1),(17,2),(18,2)] [] (fun L w'=>L=[(1,.slice a1 p1.length u1),(2,.pointer (some ⟨b2,0,none⟩)),(5,vi v5),(36,.bool p36)]∧∃κ',Stp [] K14 w18 κ' w') (Cl.refl _ _ _) ?_ ?_))
 revert h
 cases ht21:(x20 !=(-1))
 refine JF fun h=>Jn 6 R (Je1 R R R R (Jn 1 R (Je1 R R R R (Je1 R R R R (Jd1 R R R R (Jn 2 R ?_))))))
 cases h
 exact Jv1 _ (Cl.refl _ _ _) ⟨R,_,(Jx2 _ _).wk R⟩ (KM R)
 refine JT fun h=>Jf R (Jb2 U39 R Z37 R R) (Jf R (Jb2 U37 R Z23 R R) (Jn 3 R (Ob h fun x32 hx32 h=>Jf R (Jf2 f19 hx32 U22 Z2 R R R R) (Jg R (Jc2 I23 R R (hvC ((f4.stp (S15.tr S17) R R).ld 1 R R) R)) (Ob h fun x28 hx28 h=>Jf R (Jf2 g0_0_1 hx28 U23 Z22 R R R R) ?_)))))
 obtain⟨ax28,ux28,f24,hl25⟩:=(g0_0_1.stp (S3.tr (S15.tr S17)) R R).gSl hx28
 refine Jg R (Jc2 I22 R R (hvC hl25 R)) (Jg R (Jc2 I2 R R (hvC (f19.gInt hx32) R)) (Ob h fun x34 hx34 h=>Jh R R R C170 (s_l7HasIn_ok (κ:=fun b=>mp [] 0 (K14 b)) (Jl2 f24 (mp [] 0) R R) hx34) ?_))
 rintro _ w26 ⟨k27,rfl,e28⟩
 obtain⟨K29,S30,m31⟩:=Ji e28 3 R
 refine⟨(S30.cl R),Jn 2 R ?_⟩
 cases h
 exact Jv1 _ (S30.cl R) ⟨R,_,S30.wk R⟩ (KM R)
 rintro _ w33 _ ⟨rfl,K34,S35⟩
 have h:=hK20
 refine Jt1 (Jd ?_)
 revert h
 cases ht36:p36
 refine JF fun h=>Jy R (Js (Jz (Jp (Ja [2,2,2] R (Jc 3 R ?_)))))
 have hw7:IntKind.wrap .i64 (v5+1)=v5+1:=wr1 hj7 (Jm2 hc7) hN7
 rw[hw7]
 have hc7:=Jm2 hc7
 cases h
 exact Jz1 fun a ha=>⟨k,_,Ja3 _,⟨K34,v5+1,R,(S15.tr (S17.tr S35)).wk R,by omega,by omega,hk16⟩,(ha.mm R)⟩
 refine JT fun h=>Jx R (Je [2] R (Jb 1 R (Ju (Ja1 (Jw (Jw ?_))))))
 cases h
 obtain rfl:=Option.some.inj hk16
 have h:=hK8
 dsimp only[aft]at h
 refine Ja1 (Jq2 (Jw (Ja2 (l:=[.tmp 4]) V148 (Jp2 R R) R ?_)))
 cases h
 exact⟨K34,R,(hE.stp (S3.tr (S15.tr (S17.tr S35))) R R)⟩
 rintro _ w10 ⟨K11,rfl,S12,rfl⟩
 have h:=hK8
 dsimp only[aft]at h
 refine Jp (Je [2] R (Jb 1 R (Ju (Ja2 (l:=[.tmp 4]) V148 (Jp2 R R) R ?_))))
 cases h
 exact⟨K11,R,(hE.stp (S3.tr S12) R R)⟩
 refine JT fun h=>Jx R (Je [2] R (Jb 1 R (Ju (Jw (Ja2 (l:=[.tmp 4]) V148 (Jp2 R R) R ?_)))))
 cases h
 exact⟨K2,R,(hE.stp S3 R R)⟩
theorem i_closedIn_ok {w:World}{κ:Col}{af ac ad ae}{p0:Arena}{p1:Int}{a2 u2}{p2:(List Int)}{a3 u3}{p3:(List Int)}(g0_0:Rd (Rp.int .i64) κ w 0 af ac p0.Owner) (g0_1:Rd (Rp.sl (Rp.int .i64)) κ w 0 ad ae p0.Next) (g2:Rd (Rp.int .i64) κ w 0 a2 u2 p2) (g3:Rd (Rp.int .i64) κ w 0 a3 u3 p3){r:Bool}(h:i_closedIn p0 p1 p2 p3=some r):Ret Tryz.prog 115 [.agg #[.slice af p0.Owner.length ac,.slice ad p0.Next.length ae],vi p1,.slice a2 p2.length u2,.slice a3 p3.length u3] w (fun v w'=>∃(κ':Col),v= .bool r∧Ent κ w κ' w'):=by
 unfold i_closedIn at h
 refine Ret.enter F115 R N115 R ?_
 dsimp only[envOf]
 have hE:=Ent.refl κ w
 refine Je [1,2] R (Jf1 (κ:=κ) 2 R R R R R R R fun b4 w1 K2 S3 f4=>⟨tv,Jb 1 R (Je [1,2,1,2] R (Jl tv R R R R (Jd2 (cs:=[.slice af p0.Owner.length ac,.slice ad p0.Next.length ae]) I37 Z37 R R R (haE f4.cells)) (Jn 1 R (Ob h fun x16 hx16 h=>?_))))⟩)
 have f5:=g0_0.stp S3 R R
 have f6:=g0_1.stp S3 R R
 have f7:=g2.stp S3 R R
 refine Jh R R R C46 (i_markOf_ok (κ:=fun b=>mp [] 0 (K2 b)) (p0:=p0) (Jl2 f5 (mp [] 0) R R) (Jl2 f6 (mp [] 0) R R) (Jl2 f7 (mp [] 0) R R) hx16) ?_
 rintro _ w8 ⟨k9,aa,ab,rfl,e10,f11⟩
 obtain⟨K12,S13,m14⟩:=Ji e10 3 R
 refine⟨tv,?_⟩
 have f16:=f11.mx no_bool m14 R (R:3+2=5)
 refine Jb 1 R (Jq (Je [2,2,2] R (Jn 1 R (Jf R (Je2 U22 R R) (Jb 1 R ?_)))))
 have hN17:(p2.length:Int)≤9223372036854775807:=f7.len_le
 refine Ob h fun q2 hq19 hK18=>?_
 clear h
 refine Jx1 (fun L w'=>∃κ',L=[]∧Stp [] K12 w8 κ' w'∧q2=Sum.inr ()) ?_ ?_
 refine Jv (Jy1 (fun k L w'=>∃κ' v19,L=[(1,vi p1),(3,.slice a3 p3.length u3),(4,.pointer (some ⟨b4,0,none⟩)),(9,.slice aa x16.length ab),(17,.slice a2 p2.length u2),(18,vi (p2.length:Int)),(19,vi v19)]∧Stp [] K12 w8 κ' w'∧0≤v19∧Int.toNat ((p2.length:Int)-v19)=k∧cntM (i_closedIn_b0 p0 p1 p2 p3 x16) k v19 ()=some q2) ⟨_,_,⟨K12,0,R,(Jx2 _ _).wk R,(by decide),(by simp),hq19⟩,(KM R)⟩ ?_)
 rintro k _ w23 ⟨K24,v19,rfl,S25,hj17,hJ17,h⟩
 rcases k with _ | k
 have hk26:=h;obtain⟨o17,h⟩:=ex_eq (Sum.inr (Sum.inl ()):Bool⊕((Unit)⊕(Unit)))
 have hc17:decide (v19<(p2.length:Int))=false:=Jo2 (by omega)
 refine Je [2] R (Jb 1 R (Jq (Jw2 R hc17 (Jc1 (Jt (Jt ?_))))))
 cases h
 have h:=hk26
 refine Jb1 ?_
 cases h
 exact Jw1 _ ⟨K24,R,S25.wk R,R⟩ KN
 obtain⟨o17,h,hk26⟩:=BI h;unfold i_closedIn_b0 at h
 have hc17:decide (v19<(p2.length:Int))=true:=Jn2 (by omega)
 refine Je [2] R (Jb 1 R (Jq (Jv2 R hc17 (Js (Jp (Jq (Jv (Je [2,1,2] R (Ob h fun x21 hx21 h=>Jf R (Jf2 f7 hx21 U22 Z2 R R R R) (Jl tv R R R R (Jc2 I2 R R (hvE ((f7.stp (S13.tr S25) R R).gInt hx21))) (Jb 1 R (Jq (Je [2,1,2,2,1,2,2] R (Jf R (Jb2 U37 R Z22 R R) ?_))))))))))))))
 have f28:=f4.stp (S13.tr S25) R R
 refine Jl tv R R R R (Jc2 I22 R R (hvE (f28.ld 0 R R))) (Jn 1 R (Ob h fun x26 hx26 h=>Jf R (Jf2 f5 hx26 U22 Z2 R R R R) (Jl tv R R R R (Jc2 I2 R R (hvE ((f5.stp (S13.tr S25) R R).gInt hx26))) (Jb 2 R ?_))))
 revert h
 cases ht30:(x26==p1)
 refine JF fun h=>Jy R (Js (Jp (Je [2,1,2,2,1,2,2] R (Jf R (Jb2 U37 R Z23 R R) (Jl tv R R R R (Jc2 I23 R R (hvE (f28.ld 1 R R))) (Jn 1 R (Ob h fun x48 hx48 h=>Jf R (Jf2 f6 hx48 U23 Z22 R R R R) ?_)))))))
 obtain⟨ax48,ux48,f41,hl42⟩:=(f6.stp (S13.tr S25) R R).gSl hx48
 refine Jl tv R R R R (Jc2 I22 R R (hvE hl42)) (Jf R (Je2 U22 R R) (Jb 1 R ?_))
 have hN43:(x48.length:Int)≤9223372036854775807:=f41.len_le
 refine Ob h fun q5 hq45 hK44=>?_
 clear h
 refine Jx1 (fun L w'=>∃κ',L=[(1,vi p1),(3,.slice a3 p3.length u3),(4,.pointer (some ⟨b4,0,none⟩)),(9,.slice aa x16.length ab),(17,.slice a2 p2.length u2),(18,vi (p2.length:Int)),(19,vi v19)]∧Stp [] K24 w23 κ' w'∧q5=Sum.inr ()) ?_ ?_
 refine Jv (Jy1 (fun k L w'=>∃κ' v51,L=[(1,vi p1),(3,.slice a3 p3.length u3),(4,.pointer (some ⟨b4,0,none⟩)),(9,.slice aa x16.length ab),(17,.slice a2 p2.length u2),(18,vi (p2.length:Int)),(19,vi v19),(49,.slice ax48 x48.length ux48),(50,vi (x48.length:Int)),(51,vi v51)]∧Stp [] K24 w23 κ' w'∧0≤v51∧Int.toNat ((x48.length:Int)-v51)=k∧cntM (i_closedIn_b2 x16 x48) k v51 ()=some q5) ⟨_,_,⟨K24,0,R,(Jx2 _ _).wk R,(by decide),(by simp),hq45⟩,(KM R)⟩ ?_)
 rintro k _ w49 ⟨K50,v51,rfl,S51,hj43,hJ43,h⟩
 rcases k with _ | k
 have hk52:=h;obtain⟨o43,h⟩:=ex_eq (Sum.inr (Sum.inl ()):Bool⊕((Unit)⊕(Unit)))
 have hc43:decide (v51<(x48.length:Int))=false:=Jo2 (by omega)
 refine Je [2] R (Jb 1 R (Jq (Jw2 R hc43 (Jc1 (Jt (Jt ?_))))))
 cases h
 have h:=hk52
 refine Jb1 ?_
 cases h
 exact Jw1 _ ⟨K50,R,S51.wk R,R⟩ (KM R)
 obtain⟨o43,h,hk52⟩:=BI h;unfold i_closedIn_b2 at h
 have hc43:decide (v51<(x48.length:Int))=true:=Jn2 (by omega)
 refine Je [2] R (Jb 1 R (Jq (Jv2 R hc43 (Js (Jp (Jq (Jv (Je [2,1,2] R (Ob h fun x53 hx53 h=>Jf R (Jf2 f41 hx53 U22 Z2 R R R R) (Jl tv R R R R (Jc2 I2 R R (hvE ((f41.stp S51 R R).gInt hx53))) (Jb 1 R (Je [2,2,2,1,2] R (Jn 2 R (Ob h fun x57 hx57 h=>Jf R (Jf2 f16.rdc hx57 U70 Z4 R R R R) (Jl tv R R R R (Jc2 I4 R R (hvE ((f16.stp (S25.tr S51) R R).rdc.gBool hx57))) (Jb 1 R ?_))))))))))))))))
 revert h
 cases ht55:(!x57)
 refine JF fun h=>Jy R (Js (Jz (Jp (Ja [2,2] R (Jc 2 R ?_)))))
 have hw43:IntKind.wrap .i64 (v51+1)=v51+1:=wr1 hj43 (Jm2 hc43) hN43
 rw[hw43]
 have hc43:=Jm2 hc43
 cases h
 exact Jz1 fun a ha=>⟨k,_,Ja3 _,⟨K50,v51+1,R,S51.wk R,by omega,by omega,hk52⟩,(ha.mm R)⟩
 refine JT fun h=>Jx R (Je [2] R (Jb 1 R (Ju (Ja1 (Jw (Jw ?_))))))
 cases h
 obtain rfl:=Option.some.inj hk52
 have h:=hK44
 dsimp only[aft]at h
 refine Ja1 (Jq2 (Ja1 (Jw (Jw ?_))))
 cases h
 obtain rfl:=Option.some.inj hk26
 have h:=hK18
 dsimp only[aft]at h
 refine Ja1 (Jq2 (Jw (Ja2 (l:=[.tmp 8]) V115 (Jp2 R R) R ?_)))
 cases h
 exact⟨K50,R,(hE.stp (S3.tr (S13.tr (S25.tr S51))) R R)⟩
 rintro _ w46 ⟨K47,rfl,S48,rfl⟩
 have h:=hK44
 dsimp only[aft]at h
 refine Jz (Jp (Ja [2,2] R (Jc 2 R ?_)))
 have hw17:IntKind.wrap .i64 (v19+1)=v19+1:=wr1 hj17 (Jm2 hc17) hN17
 rw[hw17]
 have hc17:=Jm2 hc17
 cases h
 exact Jz1 fun a ha=>⟨k,_,Ja3 _,⟨K47,v19+1,R,(S25.tr S48).wk R,by omega,by omega,hk26⟩,(ha.mm R)⟩
 refine JT fun h=>Jx R (Jq (Je [2,2,2,1,2,2,2,2,2,2,1,2,1,2,2] R (Jn 2 R (Ob h fun x32 hx32 h=>Jf R (Jf2 g3 hx32 U22 Z2 R R R R) ?_))))
 have f31:=g3.stp (S3.tr (S13.tr S25)) R R
 refine Jl tv R R R R (Jc2 I2 R R (hvE (f31.gInt hx32))) (Jn 2 R (Ob h fun p44 h hK32=>Ju1 [(6,2),(7,2),(8,2),(9,2),(10,1),(11,2),(12,1),(13,2),(14,2)] [] (fun L w'=>L=[(1,vi p1),(3,.slice a3 p3.length u3),(4,.pointer (some ⟨b4,0,none⟩)),(9,.slice aa x16.length ab),(17,.slice a2 p2.length u2),(18,vi (p2.length:Int)),(19,vi v19),(44,.bool p44)]∧∃κ',Stp [] K24 w23 κ' w') tv ?_ ?_))
 revert h
 cases ht33:decide (x32<0)
 refine JF fun h=>Jn 3 R (Ob h fun x39 hx39 h=>Jf R (Jf2 f31 hx39 U22 Z2 R R R R) (Jl tv R R R R (Jc2 I2 R R (hvE (f31.gInt hx39))) (Ob h fun x41 hx41 h=>Jf R (Jf2 f16.rdc hx41 U70 Z4 R R R R) (Jl tv R R R R (Jc2 I4 R R (hvE ((f16.stp S25 R R).rdc.gBool hx41))) (Jn 2 R ?_)))))
 cases h
 exact Jv1 _ tv ⟨R,_,(Jx2 _ _).wk R⟩ (KM R)
 refine JT fun h=>Jn 4 R (Jd1 R R R R (Jn 1 R (Jd1 R R R R (Jn 2 R ?_))))
 cases h
 exact Jv1 _ tv ⟨R,_,(Jx2 _ _).wk R⟩ (KM R)
 rintro _ w35 _ ⟨rfl,K36,S37⟩
 have h:=hK32
 refine Jd ?_
 revert h
 cases ht38:p44
 refine JF fun h=>Jy R (Js (Jp (Jc1 (Jt (Jb1 (Jp (Ja [2,2] R (Jc 2 R ?_))))))))
 have hw17:IntKind.wrap .i64 (v19+1)=v19+1:=wr1 hj17 (Jm2 hc17) hN17
 rw[hw17]
 have hc17:=Jm2 hc17
 cases h
 exact Jz1 fun a ha=>⟨k,_,Ja3 _,⟨K36,v19+1,R,(S25.tr S37).wk R,by omega,by omega,hk26⟩,(ha.mm R)⟩
 refine JT fun h=>Jx R (Je [2] R (Jb 1 R (Ju (Jw (Jw (Ja1 (Jw (Jw ?_))))))))
 cases h
 obtain rfl:=Option.some.inj hk26
 have h:=hK18
 dsimp only[aft]at h
 refine Ja1 (Jq2 (Jw (Ja2 (l:=[.tmp 8]) V115 (Jp2 R R) R ?_)))
 cases h
 exact⟨K36,R,(hE.stp (S3.tr (S13.tr (S25.tr S37))) R R)⟩
 rintro _ w20 ⟨K21,rfl,S22,rfl⟩
 have h:=hK18
 dsimp only[aft]at h
 refine Jp (Je [2] R (Jb 1 R (Ju (Ja2 (l:=[.tmp 8]) V115 (Jp2 R R) R ?_))))
 cases h
 exact⟨K21,R,(hE.stp (S3.tr (S13.tr S22)) R R)⟩
theorem i_leadTo_ok {w:World}{κ:Col}{aq ao ap an}{p0:Arena}{a1 u1}{p1:(List Bool)}(g0_0:Rd (Rp.int .i64) κ w 0 aq ao p0.Owner) (g0_1:Rd (Rp.sl (Rp.int .i64)) κ w 0 ap an p0.Next) (g1:Rd Rp.bool κ w 0 a1 u1 p1){r:(List Bool)}(h:i_leadTo p0 p1=some r):Ret Tryz.prog 45 [.agg #[.slice aq p0.Owner.length ao,.slice ap p0.Next.length an],.slice a1 p1.length u1] w (fun v w'=>∃(κ':Col) (ra0:Option Addr) (ru0:Nat),v= .slice ra0 r.length ru0∧Ent κ w κ' w'∧Oc Ep.bool 4 κ' w' 2 ra0 ru0 r):=by
 unfold i_leadTo at h
 refine Ret.enter F45 R N45 R ?_
 dsimp only[envOf]
 have hE:=Ent.refl κ w
 refine Je [1,2] R (Jf1 (κ:=κ) 2 R R R R R R R fun b2 w1 K2 S3 f4=>⟨tv,Jb 1 R (Je [1,1,2] R (Jl tv R R R R (Jd2 (cs:=[.slice aq p0.Owner.length ao,.slice ap p0.Next.length an]) I37 Z37 R R R (haE f4.cells)) (Ob h fun x12 hx12 h=>Jh R R R C91 (i_predsOf_ok (κ:=fun b=>mp [] 0 (K2 b)) (p0:=p0) (Jl2 (g0_0.stp S3 R R) (mp [] 0) R R) (Jl2 (g0_1.stp S3 R R) (mp [] 0) R R) hx12) ?_)))⟩)
 rintro _ w7 ⟨k8,ai,ak,rfl,e9,f10⟩
 obtain⟨K11,S12,m13⟩:=Ji e9 3 R
 refine⟨tv,?_⟩
 have f15:=f10.mx (no_own (no_int _) _) m13 R (R:3+2=5)
 refine Jb 1 R (Je [1,2,1,2] R (Jo1 (κ:=K11) (E:=Ep.bool) 6 R R R R R Y70 Tryzinfo4 R fun aA aC w16 K17 S18 f19=>⟨tv,Jn 1 R (Ob h fun x15 hx15 h=>?_)⟩))
 have f20:=g1.stp (S3.tr (S12.tr S18)) R R
 refine Jm1 (κ:=K17) (E:=Ep.bool) 6 [] R R R R R R R R R Y70 Tryzinfo4 R R R R f19 (Sl.srcP pu_bool f20) sy_false hx15 R fun aa ab w21 K22 S23 f24=>⟨tv,Jb 1 R (Je [2,1,2] R (Jn 1 R (Ob h fun x17 hx17 h=>Jh R R R C60 (i_listOf_ok (κ:=fun b=>mp [] 0 (K22 b)) (Jl2 (f20.stp S23 R R) (mp [] 0) R R) hx17) ?_)))⟩
 rintro _ w26 ⟨k27,av,ax,rfl,e28,f29⟩
 obtain⟨K30,S31,m32⟩:=Ji e28 7 R
 refine⟨tv,Jb 1 R (Jq (Ob h fun q2 hq37 hK36=>?_))⟩
 clear h
 refine Jx1 (fun L w'=>∃κ',∃s3:(List Int)×(List Bool),∃au ar,L=[(6,.slice aa x15.length ab)]∧Stp [6,9] K30 w26 κ' w'∧Oc E6 2 κ' w' 9 au ar s3.1∧Oc Ep.bool 4 κ' w' 6 aa ab s3.2∧x15.length=s3.2.length∧q2=Sum.inr s3) ?_ ?_
 refine Jv (Jy1 (fun k L w'=>∃κ',∃s1:(List Int)×(List Bool),∃af ac,L=[(5,.slice ai x12.length ak),(6,.slice aa x15.length ab),(7,.slice af s1.1.length ac)]∧Stp [6,9] K30 w26 κ' w'∧Oc E6 2 κ' w' 9 af ac s1.1∧Oc Ep.bool 4 κ' w' 6 aa ab s1.2∧x15.length=s1.2.length∧whileM (i_leadTo_b0 x12) k s1=some q2) ⟨_,_,⟨K30,((x17:(List Int)),(x15:(List Bool))),av,ax,R,(Jx2 _ _).wk R,(f29.mx (no_int _) m32 R (R:7+2=9)),(f24.stp S31 R R),R,hq37⟩,(KM R)⟩ ?_)
 rintro k _ w44 ⟨K45,s1,af,ac,rfl,S46,f47,f48,hn49,h⟩
 rcases k with _ | k
 cases h
 obtain⟨o35,h,hk51⟩:=BI h;unfold i_leadTo_b0 at h
 refine Jq (Je [2,2,2] R (Jn 1 R (Jf R (Je2 U22 R R) (Jb 1 R ?_))))
 revert h
 cases ht52:decide (0<(s1.1.length:Int))
 refine JF fun h=>Jy R (Jc1 (Jt (Jt ?_)))
 cases h
 have h:=hk51
 refine Jb1 ?_
 cases h
 exact Jw1 _ ⟨K45,((s1.1:(List Int)),(s1.2:(List Bool))),af,ac,R,S46.wk R,f47,f48,hn49,R⟩ (KM R)
 refine JT fun h=>Jx R (Js (Jp (Jv (Je [2,2,1,2] R (Jn 1 R (Ob h fun x22 hx22 h=>Jf R (Jf2 f47.rdc hx22 U22 Z2 R R R R) (Jl tv R R R R (Jc2 I2 R R (hvE (f47.rdc.gInt hx22))) (Jb 1 R (Je [2,2,2] R (Jn 1 R (Ob h fun x25 hx25 h=>Jf R (rn_slice (k1:= .i64) (k2:= .i64) U22 Z2 (.inr ⟨_,R,R⟩) (.inl ⟨R,R⟩) hx25 f47.rdc.1 R R R) (Jb 1 R (Je [2,2,2,1,2,2] R (Jn 2 R (Ob h fun x28 hx28 h=>Jf R (Jf2 f15.rdc hx28 U23 Z22 R R R R) ?_)))))))))))))))
 obtain⟨ax28,ux28,f55,hl56⟩:=(f15.stp (S18.tr (S23.tr (S31.tr S46))) R R).rdc.gSl hx28
 refine Jl tv R R R R (Jc2 I22 R R (hvE hl56)) (Jf R (Je2 U22 R R) (Jb 1 R ?_))
 have hN57:(x28.length:Int)≤9223372036854775807:=f55.len_le
 refine Ob h fun q5 hq59 hK58=>?_
 clear h
 refine Jx1 (fun L w'=>∃κ',∃s6:(List Int)×(List Bool),∃aj am,L=[(5,.slice ai x12.length ak),(6,.slice aa x15.length ab),(7,.slice aj s6.1.length am)]∧Stp [6,9] K45 w44 κ' w'∧Oc E6 2 κ' w' 9 aj am s6.1∧Oc Ep.bool 4 κ' w' 6 aa ab s6.2∧x15.length=s6.2.length∧q5=Sum.inr s6) ?_ ?_
 refine Jv (Jy1 (fun k L w'=>∃κ' v31,∃s4:(List Int)×(List Bool),∃ae ad,L=[(5,.slice ai x12.length ak),(6,.slice aa x15.length ab),(7,.slice ae s4.1.length ad),(29,.slice ax28 x28.length ux28),(30,vi (x28.length:Int)),(31,vi v31)]∧Stp [6,9] K45 w44 κ' w'∧Oc E6 2 κ' w' 9 ae ad s4.1∧Oc Ep.bool 4 κ' w' 6 aa ab s4.2∧x15.length=s4.2.length∧0≤v31∧Int.toNat ((x28.length:Int)-v31)=k∧cntM (i_leadTo_b2 x28) k v31 s4=some q5) ⟨_,_,⟨K45,0,((x25:(List Int)),(s1.2:(List Bool))),(subA af ac (1:Int).toNat 1),(ac-(1:Int).toNat),R,(Jx2 _ _).wk R,(f47.sub hx25),f48,hn49,(by decide),(by simp),hq59⟩,(KM R)⟩ ?_)
 rintro k _ w66 ⟨K67,v31,s4,ae,ad,rfl,S68,f69,f70,hn71,hj57,hJ57,h⟩
 rcases k with _ | k
 have hk72:=h;obtain⟨o57,h⟩:=ex_eq (Sum.inr (Sum.inl s4):(List Bool)⊕(((List Int)×(List Bool))⊕((List Int)×(List Bool))))
 have hc57:decide (v31<(x28.length:Int))=false:=Jo2 (by omega)
 refine Je [2] R (Jb 1 R (Jq (Jw2 R hc57 (Jc1 (Jt (Jt ?_))))))
 cases h
 have h:=hk72
 refine Jb1 ?_
 cases h
 exact Jw1 _ ⟨K67,((s4.1:(List Int)),(s4.2:(List Bool))),ae,ad,R,S68.wk R,f69,f70,hn71,R⟩ (KM R)
 obtain⟨o57,h,hk72⟩:=BI h;unfold i_leadTo_b2 at h
 have hc57:decide (v31<(x28.length:Int))=true:=Jn2 (by omega)
 refine Je [2] R (Jb 1 R (Jq (Jv2 R hc57 (Js (Jp (Jq (Jv (Je [2,1,2] R (Ob h fun x33 hx33 h=>Jf R (Jf2 f55 hx33 U22 Z2 R R R R) (Jl tv R R R R (Jc2 I2 R R (hvE ((f55.stp S68 R R).gInt hx33))) (Jb 1 R (Je [2,2,2,1,2] R (Jn 2 R (Ob h fun x37 hx37 h=>Jf R (Jf2 f70.rdc hx37 U70 Z4 R R hn71 R) (Jl tv R R R R (Jc2 I4 R R (hvE (f70.rdc.gBool hx37))) (Jb 1 R (Ob h fun q7 h hK74=>Jx1 (fun L w'=>∃κ' al ah,L=[(5,.slice ai x12.length ak),(6,.slice aa x15.length ab),(7,.slice al q7.1.length ah),(29,.slice ax28 x28.length ux28),(30,vi (x28.length:Int)),(31,vi v31)]∧Stp [6,9] K67 w66 κ' w'∧Oc E6 2 κ' w' 9 al ah q7.1∧Oc Ep.bool 4 κ' w' 6 aa ab q7.2∧x15.length=q7.2.length) ?_ ?_)))))))))))))))))
 revert h
 cases ht81:(!x37)
 refine JF fun h=>Jy R (Js ?_)
 cases h
 exact Jw1 _ ⟨K67,ae,ad,R,(Jx2 _ _).wk R,f69,f70,hn71⟩ (KM R)
 refine JT fun h=>Jx R (Je [2,2,2,1] R (Jn 2 R (Ob h fun x42 hx42 h=>Jf R (Jf2 f70.rdc hx42 U70 Z4 R R hn71 R) (Ob h fun y334 hy334 h=>Jk1 (κ:=K67) (E:=Ep.bool) 6 [] R R R R R R R R Z4 R R R R f70 hy334 fun w82 K83 S84 f85=>⟨tv,?_⟩))))
 have hn86:x15.length=y334.length:=hn71.trans (Jt2 hy334).2.2.2.symm
 refine Jd (Ja [2,2,1,1,2] R (Jn 2 R (Jn1 (κ:=K83) (E:=E6) 10 [] (parts:=[(0,.tmp 44)]) (cells:=[vi x33]) (xs:=([x33]:List Int)) R R R R R R Y22 Tryzinfo2 R R R R R R R R R R ⟨[vi x33],[],Zl K83 w82 [],Zl K83 w82 [],R,Zl.sp (l1:=[]) (l2:=[]) R,Zl.sr (l1:=[]) (l2:=[]),R,R⟩ fun az aB w87 K88 S89 f90=>⟨tv,Ob h fun x46 hx46 h=>Jm1 (κ:=K88) (E:=E6) 9 [] R R R R R R R R R Y22 Tryzinfo2 R R R R (f69.stp (S84.tr S89) R R) (Sl.srcP (pu_int _) f90.rdc) sy_false hx46 R fun ay aw w92 K93 S94 f95=>⟨tv,Jc 1 R ?_⟩⟩)))
 cases h
 exact Jw1 _ ⟨K93,ay,aw,R,(S84.tr (S89.tr S94)).wk R,f95,(f85.stp (S89.tr S94) R R),hn86⟩ (KM R)
 rintro _ w75 ⟨K76,al,ah,rfl,S77,f78,f79,hn80⟩
 have h:=hK74
 refine Jz (Jp (Ja [2,2] R (Jc 2 R ?_)))
 have hw57:IntKind.wrap .i64 (v31+1)=v31+1:=wr1 hj57 (Jm2 hc57) hN57
 rw[hw57]
 have hc57:=Jm2 hc57
 cases h
 exact Jz1 fun a ha=>⟨k,_,Ja3 _,⟨K76,v31+1,((q7.1:(List Int)),(q7.2:(List Bool))),al,ah,R,(S68.tr S77).wk R,f78,f79,hn80,by omega,by omega,hk72⟩,(ha.mm R)⟩
 rintro _ w60 ⟨K61,s6,aj,am,rfl,S62,f63,f64,hn65,rfl⟩
 have h:=hK58
 dsimp only[aft]at h
 refine Jz ?_
 cases h
 exact Jz1 fun a ha=>⟨k,_,Ja3 _,⟨K61,((s6.1:(List Int)),(s6.2:(List Bool))),aj,am,R,(S46.tr S62).wk R,f63,f64,hn65,hk51⟩,(ha.mm R)⟩
 rintro _ w38 ⟨K39,s3,au,ar,rfl,S40,f41,f42,hn43,rfl⟩
 have h:=hK36
 dsimp only[aft]at h
 refine Jp (Je [2,2] R (Jb 2 R (Ju (Ja2 (l:=[.tmp 4]) V45 (Jp2 R R) R ?_))))
 cases h
 exact⟨(fun b=>ren [(6,2)] (K39 b)),aa,ab,(by simp only[hn43]),((hE.stp (S3.tr (S12.tr (S18.tr (S23.tr (S31.tr S40))))) R R).map (ren [(6,2)]) R R),(f42.map (ren [(6,2)]) R R)⟩
end Go.Proofs.YtmiilifclnanlaaGreat
