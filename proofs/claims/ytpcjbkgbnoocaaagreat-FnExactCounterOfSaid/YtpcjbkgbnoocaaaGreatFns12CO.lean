/- The walks, part 12. By program. -/
import Derived.Test.YtpcjbkgbnoocaaaGreatFns11CO
set_option linter.unusedVariables false
set_option linter.unusedSimpArgs false
open Go.IntKind renaming wrap → hV
open Sum renaming inr → it
namespace Go.Proofs.YtpcjbkgbnoocaaaGreat
open Go Go.Wk Go.Proofs
set_option maxRecDepth 100000
set_option maxHeartbeats 1000000
theorem lN {w:World}{κ:Col}{p0:Sig}{ab ac aa ad}{p1:Det}(g1_0:Rd (Rp.sl (Rp.int .i64)) κ w 0 ab ac p1.Next) (g1_1:Rd Pair.rp κ w 0 aa ad p1.Pairs){r:Bool}(h:iH p0 p1=some r):Ret Tryz.prog 117 [.agg #[vi p0.In,vi p0.Out],.agg #[.slice ab p1.Next.length ac,.slice aa p1.Pairs.length ad]] w (λv w'=>∃(κ':Col),v= .bool r/\Ent κ w κ' w'):=by
 unfold iH at h
 refine Ret.enter F117 R N117 R ?_
 dsimp only[envOf]
 have hE:=Ent.refl κ w
 refine Je [1,1,2] R (Jf1 (κ:=κ) 2 R R R R R R R λb2 w1 K2 S3 f4=>⟨tv,Jf1 (κ:=K2) 3 R R R R R R R λb3 w5 K6 S7 f8=>⟨tv,Jb 1 R (Je [2,1,2,2] R (Jd3 R U100 R Z26 (Jb3 R I26 (f8.ld 0 R R) (Jf R (Je2 U26 R R) (Jb 1 R (Jq (Je [1,1,2,2,2,1,2,2] R ?_)))))))⟩⟩)
 have f9:=f4.stp S7 R R
 refine Jl tv R R R R (Jd2 (cs:=[vi p0.In,vi p0.Out]) I25 Z25 R R R (haE f9.cells)) (Ob h λx11 hx11 h=>Jh R R R C102 (jf (κ:=Mk K6) (p0:=p0) hx11) ?_)
 rintro _ w10 ⟨k11,rfl,e12⟩
 obtain⟨K13,S14,m15⟩:=Ji e12 4 R
 refine⟨tv,Jn 2 R (Ob h λp17 h hK17=>Ju1 [(4,2),(5,1),(6,2),(7,2)] [] (λL w'=>L=[(2,.pointer (some ⟨b2,0,none⟩)),(3,.pointer (some ⟨b3,0,none⟩)),(5,vi (p1.Next.length:Int)),(17,.bool p17)]/\∃κ',Stp [] K13 w10 κ' w') tv ?_ ?_)⟩
 revert h
 cases ht18:(!x11)
 refine JF λh=>Jn 1 R (Ob h λx15 hx15 h=>Jh R R R C57 (cI (κ:=Mk K13) hx15) ?_)
 rintro _ w19 ⟨k20,rfl,e21⟩
 obtain⟨K22,S23,m24⟩:=Ji e21 6 R
 refine⟨tv,Jn 2 R ?_⟩
 cases h
 exact Jv1 _ tv ⟨R,_,S23.wk R⟩ (KM R)
 refine JT λh=>Jn 1 R (Jd1 R R R R (Jn 2 R ?_))
 cases h
 exact Jv1 _ tv ⟨R,_,Jj3⟩ (KM R)
 rintro _ w26 _ ⟨rfl,K27,S28⟩
 have h:=hK17
 refine Jd ?_
 revert h
 cases ht29:p17
 refine JF λh=>Jy R (Js (Jp (Jq (Je3 R ?_))))
 have hN31:(p1.Next.length:Int)<=9223372036854775807:=g1_0.len_le
 refine Ob h λq2 hq33 hK32=>?_
 clear h
 refine Jx1 (λL w'=>∃κ',L=[(3,.pointer (some ⟨b3,0,none⟩)),(5,vi (p1.Next.length:Int))]/\Stp [] K27 w26 κ' w'/\q2=it ()) ?_ ?_
 refine Jv (Jy1 (λk L w'=>∃κ' v6,L=[(2,.pointer (some ⟨b2,0,none⟩)),(3,.pointer (some ⟨b3,0,none⟩)),(5,vi (p1.Next.length:Int)),(6,vi v6)]/\Stp [] K27 w26 κ' w'/\0<=v6/\Int.toNat ((p1.Next.length:Int)-v6)=k/\cntM (iQ p0 p1) k v6 ()=some q2) ⟨_,_,⟨K27,0,R,Jj3,(by decide),(by simp),hq33⟩,(KM R)⟩ ?_)
 rintro k _ w37 ⟨K38,v6,rfl,S39,hj31,hJ31,h⟩
 rcases k with _ | k
 have hk40:=h;obtain⟨o31,h⟩:=bO (it (Sum.inl ()):Bool⊕((Unit)⊕(Unit)))
 have hc31:decide (v6<(p1.Next.length:Int))=false:=Jo2 (by omega)
 refine Jq (Jg3 [2,2,1,2,2] 1 R (Jd3 R U100 R Z26 (Jb3 R I26 ((f8.stp (S14.tr (S28.tr S39)) R R).ld 0 R R) (Jf R (Je2 U26 R R) (Jb 1 R (Jw2 R hc31 (Jc1 (Jt (Jt ?_)))))))))
 cases h
 have h:=hk40
 refine Jb1 ?_
 cases h
 exact Jw1 _ ⟨K38,R,S39.wk R,R⟩ (KM R)
 obtain⟨o31,h,hk40⟩:=BI h;unfold iQ at h
 have hc31:decide (v6<(p1.Next.length:Int))=true:=Jn2 (by omega)
 refine Jq (Jg3 [2,2,1,2,2] 1 R (Jd3 R U100 R Z26 ?_))
 have f42:=f8.stp (S14.tr (S28.tr S39)) R R
 refine Jb3 R I26 (f42.ld 0 R R) (Jf R (Je2 U26 R R) (Jb 1 R (Jv2 R hc31 (Js (Jp (Jq (Jv (Jq (Js1 (κ:=K38) [0,2,3] none [(0,2),(2,2),(1,0),(3,2),(4,0),(5,2),(6,0),(7,1),(8,2),(9,2),(10,2),(12,2),(15,2),(11,0),(13,2),(14,0),(16,1),(17,2),(18,2)] [] (by kernel_rfl) (by kernel_rfl) λw44 S43=>Jd3 R U100 R Z26 (Jn 1 R ?_))))))))))
 have f45:=f42.stp S43 R R
 refine Jg R (Jc2 I26 R R (hvC (f45.ld 0 R R) R)) (Ob h λx28 hx28 h=>Jc3 R g1_0 hx28 U26 Z29 ?_)
 have f46:=g1_0.stp (S3.tr (S7.tr (S14.tr (S28.tr (S39.tr S43))))) R R
 obtain⟨ax28,ux28,f47,hl48⟩:=f46.gSl hx28
 refine Jg R (Jc2 I29 R R (hvC hl48 R)) (Jf R (Je2 U29 R R) (Jg R (Jd2 (cs:=[vi p0.In,vi p0.Out]) I25 Z25 R R R (haC (f9.stp (S14.tr (S28.tr (S39.tr S43))) R R).cells R)) (Ob h λx32 hx32 h=>Jh R R R C58 (eC (κ:=Mk K38) (p0:=p0) hx32) ?_)))
 rintro _ w50 ⟨k51,rfl,e52⟩
 obtain⟨K53,S54,m55⟩:=Ji e52 6 R
 refine⟨(S54.cl R),Jn 2 R (Ob h λp43 h hK57=>Ju1 [(10,2),(12,2),(15,2),(11,0),(13,2),(14,0),(16,1),(17,2),(18,2)] [] (λL w'=>L=[(2,.pointer (some ⟨b2,0,none⟩)),(3,.pointer (some ⟨b3,0,none⟩)),(5,vi (p1.Next.length:Int)),(6,vi v6),(43,.bool p43)]/\∃κ',Stp [] K53 w50 κ' w') (S54.cl R) ?_ ?_)⟩
 revert h
 cases ht58:((x28.length:Int) !=x32)
 refine JF λh=>Jd3 R U100 R Z26 (Jn 2 R (Jg R (Jc2 I26 R R (hvC (f45.ld 0 R R) R)) (Ob h λx38 hx38 h=>Jc3 R f46 hx38 U26 Z29 ?_)))
 obtain⟨ax38,ux38,f59,hl60⟩:=f46.gSl hx38
 refine Jg R (Jc2 I29 R R (hvC hl60 R)) (Ob h λx41 hx41 h=>Jh R R R C104 (oP (κ:=Mk K53) (Ji3 (f59.stp S54 R R)) hx41) ?_)
 rintro _ w62 ⟨k63,rfl,e64⟩
 obtain⟨K65,S66,m67⟩:=Ji e64 8 R
 refine⟨((S54.tr S66).cl R),Jn 2 R ?_⟩
 cases h
 exact Jv1 _ ((S54.tr S66).cl R) ⟨R,_,S66.wk R⟩ (KM R)
 refine JT λh=>Jn 3 R (Je1 R R R R (Jn 1 R (Je1 R R R R (Jd1 R R R R (Jn 2 R ?_)))))
 cases h
 exact Jv1 _ (S54.cl R) ⟨R,_,Jj3⟩ (KM R)
 rintro _ w69 _ ⟨rfl,K70,S71⟩
 have h:=hK57
 refine Jt1 (Jd ?_)
 revert h
 cases ht72:p43
 refine JF λh=>Jy R (Js (Jz (Jp (Jf3 R ?_))))
 have hw31:hV .i64 (v6+1)=v6+1:=wr1 hj31 (Jm2 hc31) hN31
 rw[hw31]
 have hc31:=Jm2 hc31
 cases h
 exact Jz1 λa ha=>⟨k,_,Ja3 _,⟨K70,v6+1,R,(S39.tr (S43.tr (S54.tr S71))).wk R,by omega,by omega,hk40⟩,(ha.mm R)⟩
 refine JT λh=>Jx R (Je3 R (Ju (Ja1 (Jw (Jw ?_)))))
 cases h
 obtain rfl:=Option.some.inj hk40
 have h:=hK32
 dsimp only[aft]at h
 refine Ja1 (Jq2 (Jw (Ja2 (l:=[.tmp 4]) V117 (Jp2 R R) R ?_)))
 cases h
 exact⟨K70,R,(hE.stp (S3.tr (S7.tr (S14.tr (S28.tr (S39.tr (S43.tr (S54.tr S71))))))) R R)⟩
 rintro _ w34 ⟨K35,rfl,S36,rfl⟩
 have h:=hK32
 dsimp only[aft]at h
 refine Jp (Je [2,1,2,1,2] R (Jd3 R U100 R Z98 (Jb3 R I98 ((f8.stp (S14.tr (S28.tr S36)) R R).ld 1 R R) (Jn 1 R (Ob h λx47 hx47 h=>Jh R R R C120 (mb (κ:=Mk K35) (Ji3 (g1_1.stp (S3.tr (S7.tr (S14.tr (S28.tr S36)))) R R)) hx47) ?_)))))
 rintro _ w76 ⟨k77,rfl,e78⟩
 obtain⟨K79,S80,m81⟩:=Ji e78 6 R
 refine⟨tv,Jb 1 R (Ju (Ja2 (l:=[.tmp 4]) V117 (Jp2 R R) R ?_))⟩
 cases h
 exact⟨K79,R,(hE.stp (S3.tr (S7.tr (S14.tr (S28.tr (S36.tr S80))))) R R)⟩
 refine JT λh=>Jx R (Je3 R (Ju (Jw (Ja2 (l:=[.tmp 4]) V117 (Jp2 R R) R ?_))))
 cases h
 exact⟨K27,R,(hE.stp (S3.tr (S7.tr (S14.tr S28))) R R)⟩
theorem oV {w:World}{κ:Col}{aK aQ aL aJ}{p0:Arena}{a1 u1}{p1:(List Pair)}{p2:Int}(g0_0:Rd (Rp.int .i64) κ w 0 aK aQ p0.Owner) (g0_1:Rd (Rp.sl (Rp.int .i64)) κ w 0 aL aJ p0.Next) (g1:Rd Pair.rp κ w 0 a1 u1 p1){r:Parity×(List Place)×Bool}(h:dg p0 p1 p2=some r):Ret Tryz.prog 70 [.agg #[.slice aK p0.Owner.length aQ,.slice aL p0.Next.length aJ],.slice a1 p1.length u1,vi p2] w (λv w'=>∃(κ':Col) (ra0:Option Addr) (ru0:Nat) (ra1:Option Addr) (ru1:Nat) (ra2:Option Addr) (ru2:Nat) (ra3:Option Addr) (ru3:Nat),v= .tuple #[.agg #[.slice ra0 r.1.Arena.Owner.length ru0,.slice ra1 r.1.Arena.Next.length ru1,.slice ra2 r.1.Prio.length ru2],.slice ra3 r.2.1.length ru3,.bool r.2.2]/\Ent κ w κ' w'/\Oc E6 2 κ' w' 2 ra0 ru0 r.1.Arena.Owner/\Oc (Ep.own E6 2) 29 κ' w' 3 ra1 ru1 r.1.Arena.Next/\Oc E6 2 κ' w' 4 ra2 ru2 r.1.Prio/\Oc (Ep.fz Place.rp) 116 κ' w' 5 ra3 ru3 r.2.1):=by
 unfold dg at h
 refine Ret.enter F70 R N70 R ?_
 dsimp only[envOf]
 have hE:=Ent.refl κ w
 refine Je [1,1,2,2] R (Jf1 (κ:=κ) 2 R R R R R R R λb3 w1 K2 S3 f4=>⟨tv,Jg1 (κ:=K2) 3 R R R R R X108 R λb6 w5 K6 S7 f8=>⟨tv,Jb 2 R (Je [2,1,2,2] R (Jd3 R U104 R Z29 ?_))⟩⟩)
 have f9:=f4.stp S7 R R
 refine Jb3 R I29 (f9.ld 0 R R) (Jf R (Je2 U29 R R) (Jb 1 R (Jq (Je [1,1,2,2,2,2,1,2,2,2,2,2,2,1,2,2] R (Jl tv R R R R (Jd2 (cs:=[.slice aK p0.Owner.length aQ,.slice aL p0.Next.length aJ]) I104 Z104 R R R (haE f9.cells)) (Ob h λx25 hx25 h=>?_))))))
 have f10:=g0_0.stp (S3.tr S7) R R
 have f11:=g0_1.stp (S3.tr S7) R R
 refine Jh R R R C119 (lY (κ:=Mk K6) (p0:=p0) (Ji3 f10) (Ji3 f11) hx25) ?_
 rintro _ w12 ⟨k13,rfl,e14⟩
 obtain⟨K15,S16,m17⟩:=Ji e14 4 R
 refine⟨tv,Jn 2 R (Ob h λp32 h hK19=>Ju1 [(4,2),(5,2),(6,1),(7,2),(8,2)] [(9,2),(10,2),(11,2),(12,2),(13,1),(14,2),(15,2)] (λL w'=>L=[(1,.slice a1 p1.length u1),(2,vi p2),(3,.pointer (some ⟨b3,0,none⟩)),(6,.pointer (some ⟨b6,0,none⟩)),(9,vi (p0.Owner.length:Int)),(32,.bool p32)]/\∃κ',Stp [] K15 w12 κ' w') tv ?_ ?_)⟩
 revert h
 cases ht20:(!x25)
 refine JF λh=>Jn 2 R (Ob h λx30 hx30 h=>Jh R R R C120 (mb (κ:=Mk K15) (Ji3 (g1.stp (S3.tr (S7.tr S16)) R R)) hx30) ?_)
 rintro _ w22 ⟨k23,rfl,e24⟩
 obtain⟨K25,S26,m27⟩:=Ji e24 6 R
 refine⟨tv,Jn 2 R ?_⟩
 cases h
 exact Jv1 _ tv ⟨R,_,S26.wk R⟩ (KM R)
 refine JT λh=>Jn 2 R (Jd1 R R R R (Jn 2 R ?_))
 cases h
 exact Jv1 _ tv ⟨R,_,Jj3⟩ (KM R)
 rintro _ w29 _ ⟨rfl,K30,S31⟩
 have h:=hK19
 refine Jn 1 R (Ob h λp39 h hK32=>Ju1 [(10,2),(11,2),(12,2),(13,1),(14,2),(15,2)] [] (λL w'=>L=[(1,.slice a1 p1.length u1),(2,vi p2),(3,.pointer (some ⟨b3,0,none⟩)),(6,.pointer (some ⟨b6,0,none⟩)),(39,.bool p39)]/\∃κ',Stp [] K30 w29 κ' w') tv ?_ ?_)
 revert h
 cases ht33:p32
 refine JF λh=>Jn 3 R (Ob h λx37 hx37 h=>Jh R R R C57 (cI (κ:=Mk K30) hx37) ?_)
 rintro _ w34 ⟨k35,rfl,e36⟩
 obtain⟨K37,S38,m39⟩:=Ji e36 6 R
 refine⟨tv,Jn 2 R ?_⟩
 cases h
 exact Jv1 _ tv ⟨R,_,S38.wk R⟩ (KM R)
 refine JT λh=>Jn 3 R (Jd1 R R R R (Jn 2 R ?_))
 cases h
 exact Jv1 _ tv ⟨R,_,Jj3⟩ (KM R)
 rintro _ w41 _ ⟨rfl,K42,S43⟩
 have h:=hK32
 refine Jd ?_
 revert h
 cases ht44:p39
 refine JF λh=>Jy R (Js (Jp (Je [1,2] R (Jo1 (κ:=K42) (E:=E6) 6 R R R R R Y29 Tryzinfo2 R λbj bb w55 K56 S57 f58=>⟨tv,Jb 1 R (Jq (Je3 R ?_))⟩))))
 have hN59:(p1.length:Int)<=9223372036854775807:=g1.len_le
 refine Ob h λq2 hq61 hK60=>?_
 clear h
 refine Jx1 (λL w'=>∃κ',∃s3:(List Int),∃ab aj,L=[(1,.slice a1 p1.length u1),(2,vi p2),(3,.pointer (some ⟨b3,0,none⟩)),(6,.pointer (some ⟨b6,0,none⟩)),(10,.slice ab s3.length aj)]/\Stp [6] K56 w55 κ' w'/\Oc E6 2 κ' w' 6 ab aj s3/\q2=it s3) ?_ ?_
 refine Jv (Jy1 (λk L w'=>∃κ' v11,∃s1:(List Int),∃ay aF,L=[(1,.slice a1 p1.length u1),(2,vi p2),(3,.pointer (some ⟨b3,0,none⟩)),(6,.pointer (some ⟨b6,0,none⟩)),(10,.slice ay s1.length aF),(11,vi v11)]/\Stp [6] K56 w55 κ' w'/\Oc E6 2 κ' w' 6 ay aF s1/\0<=v11/\Int.toNat ((p1.length:Int)-v11)=k/\cntM df k v11 s1=some q2) ⟨_,_,⟨K56,0,(([]:List Int):(List Int)),bj,bb,R,Jj3,f58,(by decide),(by simp),hq61⟩,(KM R)⟩ ?_)
 rintro k _ w66 ⟨K67,v11,s1,ay,aF,rfl,S68,f69,hj59,hJ59,h⟩
 rcases k with _ | k
 have hk70:=h;obtain⟨o59,h⟩:=bO (it (Sum.inl s1):(Parity×(List Place)×Bool)⊕(((List Int))⊕((List Int))))
 have hc59:decide (v11<(p1.length:Int))=false:=Jo2 (by omega)
 refine Jq (Jg3 [2,2,2,2] 2 R (Jf R (Je2 U98 R R) (Jb 1 R (Jw2 R hc59 (Jc1 (Jt (Jt ?_)))))))
 cases h
 have h:=hk70
 refine Jb1 ?_
 cases h
 exact Jw1 _ ⟨K67,(s1:(List Int)),ay,aF,R,S68.wk R,f69,R⟩ (KM R)
 obtain⟨o59,h,hk70⟩:=BI h;unfold df at h
 have hc59:decide (v11<(p1.length:Int))=true:=Jn2 (by omega)
 refine Jq (Jg3 [2,2,2,2] 2 R (Jf R (Je2 U98 R R) (Jb 1 R (Jv2 R hc59 (Js (Jp (Jq (Jv (Jh3 [2,2,1,1,2] 2 R (Jn1 (κ:=K67) (E:=E6) 7 [] (parts:=[(0,.tmp 50)]) (cells:=[vi v11]) (xs:=([v11]:List Int)) R R R R R R Y29 Tryzinfo2 R R R R R R R R R R ⟨[vi v11],[],Zl K67 w66 [],Zl K67 w66 [],R,Zl.sp (l1:=[]) (l2:=[]) R,Zl.sr (l1:=[]) (l2:=[]),R,R⟩ λbA bu w71 K72 S73 f74=>⟨tv,Ob h λx52 hx52 h=>Jm1 (κ:=K72) (E:=E6) 6 [] R R R R R R R R R Y29 Tryzinfo2 R R R R (f69.stp S73 R R) (Sl.srcP (bT _) f74.rdc) bJ hx52 R λbh aZ w76 K77 S78 f79=>⟨tv,Jc 1 R (Jz (Jp (Jf3 R ?_)))⟩⟩))))))))))
 have hw59:hV .i64 (v11+1)=v11+1:=wr1 hj59 (Jm2 hc59) hN59
 rw[hw59]
 have hc59:=Jm2 hc59
 cases h
 exact Jz1 λa ha=>⟨k,_,Ja3 _,⟨K77,v11+1,(x52:(List Int)),bh,aZ,R,(S68.tr (S73.tr S78)).wk R,f79,by omega,by omega,hk70⟩,(ha.mm R)⟩
 rintro _ w62 ⟨K63,s3,ab,aj,rfl,S64,f65,rfl⟩
 have h:=hK60
 dsimp only[aft]at h
 refine Jp (Jg3 [2,2,2,1,2] 2 R (Jf R (bI (parts:=[(0,.tmp 53),(1,.tmp 54)]) (cells:=[vi p2,.slice ab s3.length aj]) R R (by kernel_rfl)) ?_))
 obtain⟨K80,S81,z82⟩:=dL K63 w62 6
 refine Jn1 (κ:=K80) (E:=(Ep.fz Place.rp)) 7 [] (parts:=[(0,.tmp 55)]) (cells:=[vi p2,.slice ab s3.length aj]) (xs:=([(⟨p2,s3⟩:Place)]:List Place)) R R R R R R Y109 Tryzinfo116 R R R R R R R R R R ⟨[vi p2,.slice ab s3.length aj],[],Zl K80 w62 [],Zl K80 w62 [],R,Zl.sp (l1:=[]) (l2:=[]) R,Zl.sr (l1:=[]) (l2:=[]),(Place.mk_rel (x:=(⟨p2,s3⟩:Place)) (Sl.z1 (Sl.st z82 f65.rdc))),R⟩ λaY bf w84 K85 S86 f87=>⟨tv,Jb 1 R (Je [2,1,1] R (Jf R (bI (parts:=[]) (cells:=[.slice none 0 0,.slice none 0 0,.slice none 0 0]) R R (by kernel_rfl)) (Jg1 (κ:=K85) 8 R R R R R X108 R λb13 w88 K89 S90 f91=>⟨tv,Jj1 (κ:=K89) 8 (vc:=[.slice none 0 0,.slice none 0 0,.slice none 0 0]) R R R R R R R Z108 R R f91 R λw92 S93 f94=>⟨tv,Jd (Jq (Je3 R (Ob h λq5 hq97 hK96=>?_)))⟩⟩)))⟩
 clear h
 refine Jx1 (λL w'=>∃κ',∃s6:(List Place)×Int×(List Int)×(List (List Int))×(List Int),∃ax aI aa af ai ah ak ac,L=[(6,.pointer (some ⟨b6,0,none⟩)),(12,.slice ax s6.1.length aI),(13,.pointer (some ⟨b13,0,none⟩))]/\Stp [7,8,9,10,11,12,16,19,20,21] K89 w92 κ' w'/\Oc (Ep.fz Place.rp) 116 κ' w' 7 ax aI s6.1/\Oc E6 2 κ' w' 9 aa af s6.2.2.1/\Oc (Ep.own E6 2) 29 κ' w' 10 ai ah s6.2.2.2.1/\Oc E6 2 κ' w' 11 ak ac s6.2.2.2.2/\Bc κ' w' 8 b13 108 [.slice aa s6.2.2.1.length af,.slice ai s6.2.2.2.1.length ah,.slice ak s6.2.2.2.2.length ac]/\q5=it s6) ?_ ?_
 refine Jv (Jy1 (λk L w'=>∃κ',∃s4:(List Place)×Int×(List Int)×(List (List Int))×(List Int),∃an ar aG aH am aw ad ae,L=[(1,.slice a1 p1.length u1),(3,.pointer (some ⟨b3,0,none⟩)),(6,.pointer (some ⟨b6,0,none⟩)),(12,.slice an s4.1.length ar),(13,.pointer (some ⟨b13,0,none⟩)),(14,vi s4.2.1)]/\Stp [7,8,9,10,11,12,16,19,20,21] K89 w92 κ' w'/\Oc (Ep.fz Place.rp) 116 κ' w' 7 an ar s4.1/\Oc E6 2 κ' w' 9 aG aH s4.2.2.1/\Oc (Ep.own E6 2) 29 κ' w' 10 am aw s4.2.2.2.1/\Oc E6 2 κ' w' 11 ad ae s4.2.2.2.2/\Bc κ' w' 8 b13 108 [.slice aG s4.2.2.1.length aH,.slice am s4.2.2.2.1.length aw,.slice ad s4.2.2.2.2.length ae]/\whileM (de p0 p1) k s4=some q5) ⟨_,_,⟨K89,((([(⟨p2,s3⟩:Place)]:List Place):(List Place)),(0:Int),(([]:List Int):(List Int)),(([]:List (List Int)):(List (List Int))),(([]:List Int):(List Int))),aY,bf,none,0,none,0,none,0,R,Jj3,(f87.stp (S90.tr S93) R R),Ow.nil,Ow.nil,Ow.nil,f94,hq97⟩,(KM R)⟩ ?_)
 rintro k _ w106 ⟨K107,s4,an,ar,aG,aH,am,aw,ad,ae,rfl,S108,f109,f110,f111,f112,f113,h⟩
 rcases k with _ | k
 cases h
 obtain⟨o95,h,hk115⟩:=BI h;unfold de at h
 refine Jq (Jg3 [2,2,2,2] 2 R (Jf R (Je2 U109 R R) (Jb 1 R ?_)))
 revert h
 cases ht116:decide (s4.2.1<(s4.1.length:Int))
 refine JF λh=>Jy R (Jc1 (Jt (Jt ?_)))
 cases h
 have h:=hk115
 refine Jb1 ?_
 cases h
 exact Jw1 _ ⟨K107,((s4.1:(List Place)),(s4.2.1:Int),(s4.2.2.1:(List Int)),(s4.2.2.2.1:(List (List Int))),(s4.2.2.2.2:(List Int))),an,ar,aG,aH,am,aw,ad,ae,R,S108.wk R,f109,f110,f111,f112,f113,R⟩ (KM R)
 refine JT λh=>Jx R (Js (Jp (Jq (Jv (Jg3 [2,2,2,1,1,1] 2 R (Ob h λx66 hx66 h=>Jc3 R f109.rdc hx66 U109 Z116 ?_))))))
 obtain⟨cse117,hre117,hle117⟩:=Ow.gZS f109 hx66
 obtain⟨ae117_0,ue117_0,rfl,fe117_0⟩:=Place.un hre117
 refine Jl tv R R R R (Jd2 (cs:=[vi x66.At,.slice ae117_0 x66.Record.length ue117_0]) I116 Z116 R R R (haE hle117)) (Jg1 (κ:=K107) 12 R R R R R X116 R λb15 w118 K119 S120 f121=>⟨tv,Jj1 (κ:=K119) 12 (vc:=[vi x66.At,.slice ae117_0 x66.Record.length ue117_0]) R R R R R R R Z116 R R f121 R λw122 S123 f124=>⟨tv,Jd (Jg3 [2,2,1,2,1,1,2] 1 R (Jd3 R U116 R Z29 (Jb3 R I29 (f124.ld 1 R R) (Jd3 R U116 R Z2 (Jb3 R I2 (f124.ld 0 R R) (Ob h λx73 hx73 h=>?_))))))⟩⟩)
 have f125:=g1.stp (S3.tr (S7.tr (S16.tr (S31.tr (S43.tr (S57.tr (S64.tr (S81.tr (S86.tr (S90.tr (S93.tr (S108.tr (S120.tr S123))))))))))))) R R
 have f126:=fe117_0.stp (S120.tr S123) R R
 refine Jh R R R C121 (pL (κ:=Mk K119) (Ji3 f125) (Ji3 f126) hx73) ?_
 rintro _ w127 ⟨k128,aV,aT,rfl,e129,f130⟩
 obtain⟨K131,S132,m133⟩:=Ji e129 13 R
 refine⟨tv,Jb 1 R (Je [1,2] R (Jo1 (κ:=K131) (E:=E6) 16 R R R R R Y29 Tryzinfo2 R λaX be w136 K137 S138 f139=>⟨tv,Jb 1 R (Jq (Je3 R (Ob h λq8 hq142 hK141=>?_)))⟩))⟩
 clear h
 refine Jx1 (λL w'=>∃κ',∃s9:(List Place)×(List Int)×Int,∃aA aC aM aS,L=[(1,.slice a1 p1.length u1),(3,.pointer (some ⟨b3,0,none⟩)),(6,.pointer (some ⟨b6,0,none⟩)),(12,.slice aA s9.1.length aC),(13,.pointer (some ⟨b13,0,none⟩)),(14,vi s4.2.1),(15,.pointer (some ⟨b15,0,none⟩)),(17,.slice aM s9.2.1.length aS)]/\Stp [7,16,19,20] K137 w136 κ' w'/\Oc (Ep.fz Place.rp) 116 κ' w' 7 aA aC s9.1/\Oc E6 2 κ' w' 16 aM aS s9.2.1/\q8=it s9) ?_ ?_
 refine Jv (Jy1 (λk L w'=>∃κ',∃s7:(List Place)×(List Int)×Int,∃av ap al ao,L=[(1,.slice a1 p1.length u1),(3,.pointer (some ⟨b3,0,none⟩)),(6,.pointer (some ⟨b6,0,none⟩)),(12,.slice av s7.1.length ap),(13,.pointer (some ⟨b13,0,none⟩)),(14,vi s4.2.1),(15,.pointer (some ⟨b15,0,none⟩)),(16,.slice aV x73.length aT),(17,.slice al s7.2.1.length ao),(18,vi s7.2.2)]/\Stp [7,16,19,20] K137 w136 κ' w'/\Oc (Ep.fz Place.rp) 116 κ' w' 7 av ap s7.1/\Oc E6 2 κ' w' 16 al ao s7.2.1/\whileM (ea p0 x66 x73) k s7=some q8) ⟨_,_,⟨K137,((s4.1:(List Place)),(([]:List Int):(List Int)),(0:Int)),an,ar,aX,be,R,Jj3,(f109.stp (S120.tr (S123.tr (S132.tr S138))) R R),f139,hq142⟩,(KM R)⟩ ?_)
 rintro k _ w148 ⟨K149,s7,av,ap,al,ao,rfl,S150,f151,f152,h⟩
 rcases k with _ | k
 cases h
 obtain⟨o140,h,hk154⟩:=BI h;unfold ea at h
 refine Jq (Jg3 [2,2,1,2,1,2,1,2,2] 1 R (Jd3 R U104 R Z26 ?_))
 have f155:=f9.stp (S16.tr (S31.tr (S43.tr (S57.tr (S64.tr (S81.tr (S86.tr (S90.tr (S93.tr (S108.tr (S120.tr (S123.tr (S132.tr (S138.tr S150)))))))))))))) R R
 refine Jb3 R I26 (f155.ld 1 R R) (Jd3 R U116 R Z2 ?_)
 have f156:=f124.stp (S132.tr (S138.tr S150)) R R
 refine Jb3 R I2 (f156.ld 0 R R) (Ob h λx80 hx80 h=>Jc3 R f11 hx80 U26 Z29 ?_)
 have f157:=f11.stp (S16.tr (S31.tr (S43.tr (S57.tr (S64.tr (S81.tr (S86.tr (S90.tr (S93.tr (S108.tr (S120.tr (S123.tr (S132.tr (S138.tr S150)))))))))))))) R R
 obtain⟨ax80,ux80,f158,hl159⟩:=f157.gSl hx80
 refine Jb3 R I29 hl159 (Jf R (Je2 U29 R R) (Jb 1 R ?_))
 revert h
 cases ht160:decide (s7.2.2<(x80.length:Int))
 refine JF λh=>Jy R (Jc1 (Jt (Jt ?_)))
 cases h
 have h:=hk154
 refine Jb1 ?_
 cases h
 exact Jw1 _ ⟨K149,((s7.1:(List Place)),(s7.2.1:(List Int)),(s7.2.2:Int)),av,ap,al,ao,R,S150.wk R,f151,f152,R⟩ (KM R)
 refine JT λh=>Jx R (Js (Jp (Jq (Jv (Je [2,1,2,1,2,1,2,2,1,2] R (Jd3 R U104 R Z26 (Jb3 R I26 (f155.ld 1 R R) (Jd3 R U116 R Z2 (Jb3 R I2 (f156.ld 0 R R) (Ob h λx90 hx90 h=>Jc3 R f157 hx90 U26 Z29 ?_))))))))))
 obtain⟨ax90,ux90,f161,hl162⟩:=f157.gSl hx90
 refine Jb3 R I29 hl162 (Jn 1 R (Ob h λx93 hx93 h=>Jc3 R f161 hx93 U29 Z2 (Jb3 R I2 (f161.gInt hx93) (Jb 1 R (Jg3 [2,2,2,1,2] 3 R (Ob h λx98 hx98 h=>?_))))))
 have f163:=(f130.mx (bH _) m133 R (R:13+2=15)).stp (S138.tr S150) R R
 refine Jh R R R C122 (qd (κ:=Mk K149) (Ji3 f151.rdc) (Ji3 f163.rdc) hx98) ?_
 rintro _ w164 ⟨k165,rfl,e166⟩
 obtain⟨K167,S168,m169⟩:=Ji e166 17 R
 refine⟨tv,Jb 1 R (Jq (Je3 R (Ob h λq10 h hK171=>Jx1 (λL w'=>∃κ',∃z10:(List Place)×Int,∃aB aD,L=[(1,.slice a1 p1.length u1),(3,.pointer (some ⟨b3,0,none⟩)),(6,.pointer (some ⟨b6,0,none⟩)),(12,.slice aB z10.1.length aD),(13,.pointer (some ⟨b13,0,none⟩)),(14,vi s4.2.1),(15,.pointer (some ⟨b15,0,none⟩)),(16,.slice aV x73.length aT),(17,.slice al s7.2.1.length ao),(18,vi s7.2.2),(20,vi z10.2)]/\Stp [7,19,20] K167 w164 κ' w'/\Oc (Ep.fz Place.rp) 116 κ' w' 7 aB aD z10.1/\q10=it z10) ?_ ?_)))⟩
 revert h
 cases ht176:decide (x98<0)
 refine JF λh=>Jy R (Js ?_)
 cases h
 exact Jw1 _ ⟨K167,((s7.1:(List Place)),(x98:Int)),av,ap,R,Jj3,(f151.stp S168 R R),R⟩ (KM R)
 refine JT λh=>Jx R (Jg3 [2,2,2] 1 R (Jf R (Je2 U109 R R) (Jb 1 R (Jq (Je3 R ?_)))))
 revert h
 cases ht177:decide (256<=(s7.1.length:Int))
 refine JF λh=>Jy R (Js (Jp (Jh3 [2,2,1,2,1,2,1,1,2] 2 R (Jo1 (κ:=K167) (E:=E6) 19 R R R R R Y29 Tryzinfo2 R λbn bx w188 K189 S190 f191=>⟨tv,Jn 1 R (Ob h λx111 hx111 h=>Jm1 (κ:=K189) (E:=E6) 19 [] R R R R R R R R R Y29 Tryzinfo2 R R R R f191 (Sl.srcP (bT _) (f163.stp (S168.tr S190) R R).rdc) bJ hx111 R λaP aO w193 K194 S195 f196=>⟨tv,Jf R (bI (parts:=[(0,.tmp 108),(1,.tmp 111)]) (cells:=[vi x93,.slice aP x111.length aO]) R R (by kernel_rfl)) ?_⟩)⟩))))
 obtain⟨K197,S198,z199⟩:=dL K194 w193 19
 refine Jn1 (κ:=K197) (E:=(Ep.fz Place.rp)) 20 [] (parts:=[(0,.tmp 112)]) (cells:=[vi x93,.slice aP x111.length aO]) (xs:=([(⟨x93,x111⟩:Place)]:List Place)) R R R R R R Y109 Tryzinfo116 R R R R R R R R R R ⟨[vi x93,.slice aP x111.length aO],[],Zl K197 w193 [],Zl K197 w193 [],R,Zl.sp (l1:=[]) (l2:=[]) R,Zl.sr (l1:=[]) (l2:=[]),(Place.mk_rel (x:=(⟨x93,x111⟩:Place)) (Sl.z1 (Sl.st z199 f196.rdc))),R⟩ λbq bp w201 K202 S203 f204=>⟨tv,Ob h λx114 hx114 h=>Jm1 (κ:=K202) (E:=(Ep.fz Place.rp)) 7 [20] R R R R R R R R R Y109 Tryzinfo116 R R R R (f151.stp (S168.tr (S190.tr (S195.tr (S198.tr S203)))) R R) f204.src (cZ R) hx114 R λbk bg w206 K207 S208 f209=>⟨tv,Jc 1 R ?_⟩⟩
 cases h
 exact Jw1 _ ⟨K207,((x114:(List Place)),((s7.1.length:Int):Int)),bk,bg,R,(S190.tr (S195.tr (S198.tr (S203.tr S208)))).wk R,f209,R⟩ (KM R)
 refine JT λh=>Jx R (Je [2,1,1,2,2] R (Jf R (bI (parts:=[]) (cells:=[.slice none 0 0,.slice none 0 0,.slice none 0 0]) R R (by kernel_rfl)) (Jo1 (κ:=K167) (E:=(Ep.fz Place.rp)) 19 R R R R R Y109 Tryzinfo116 R λbi bc w178 K179 S180 f181=>⟨tv,Jj1 (κ:=K179) 3 (vc:=[.slice none 0 0,.slice none 0 0,.slice none 0 0]) R R R R R R R Z108 R R (f8.stp (S16.tr (S31.tr (S43.tr (S57.tr (S64.tr (S81.tr (S86.tr (S90.tr (S93.tr (S108.tr (S120.tr (S123.tr (S132.tr (S138.tr (S150.tr (S168.tr S180)))))))))))))))) R R) R λw183 S184 f185=>⟨tv,Jb 2 R (Ju (Jw (Jq2 ?_)))⟩⟩)))
 cases h
 have h:=hK171
 dsimp only[aft]at h
 refine Jw (Ja1 (Jw (Jw ?_)))
 cases h
 obtain rfl:=Option.some.inj hk154
 have h:=hK141
 dsimp only[aft]at h
 refine Ja1 (Jq2 (Jw (Ja1 (Jw (Jw ?_)))))
 cases h
 obtain rfl:=Option.some.inj hk115
 have h:=hK96
 dsimp only[aft]at h
 refine Ja1 (Jq2 (Jw (Ja2 (l:=[.cell 6 108,.tmp 7,.tmp 8]) V70 (bL R f185 I108 Z108 R (Jp2 R (Jp2 R R))) R ?_)))
 cases h
 exact⟨(λb=>ren [(19,5)] (K179 b)),none,0,none,0,none,0,bi,bc,R,((hE.stp (S3.tr (S7.tr (S16.tr (S31.tr (S43.tr (S57.tr (S64.tr (S81.tr (S86.tr (S90.tr (S93.tr (S108.tr (S120.tr (S123.tr (S132.tr (S138.tr (S150.tr (S168.tr (S180.tr S184))))))))))))))))))) R R).map (ren [(19,5)]) R R),Ow.nil,Ow.nil,Ow.nil,((f181.stp S184 R R).map (ren [(19,5)]) R R)⟩
 rintro _ w172 ⟨K173,z10,aB,aD,rfl,S174,f175,rfl⟩
 have h:=hK171
 dsimp only[aft]at h
 refine Jp (Jh3 [2,2,1,1,2] 2 R (Jn1 (κ:=K173) (E:=E6) 19 [] (parts:=[(0,.tmp 116)]) (cells:=[vi z10.2]) (xs:=([z10.2]:List Int)) R R R R R R Y29 Tryzinfo2 R R R R R R R R R R ⟨[vi z10.2],[],Zl K173 w172 [],Zl K173 w172 [],R,Zl.sp (l1:=[]) (l2:=[]) R,Zl.sr (l1:=[]) (l2:=[]),R,R⟩ λbr bo w211 K212 S213 f214=>⟨tv,Ob h λx118 hx118 h=>Jm1 (κ:=K212) (E:=E6) 16 [] R R R R R R R R R Y29 Tryzinfo2 R R R R (f152.stp (S168.tr (S174.tr S213)) R R) (Sl.srcP (bT _) f214.rdc) bJ hx118 R λbl bm w216 K217 S218 f219=>⟨tv,Jc 1 R (Jz (Jp (Jf3 R ?_)))⟩⟩))
 cases h
 exact Jz1 λa ha=>⟨k,_,Ja3 _,⟨K217,((z10.1:(List Place)),(x118:(List Int)),((IntKind.i64.wrap (s7.2.2+1)):Int)),aB,aD,bl,bm,R,(S150.tr (S168.tr (S174.tr (S213.tr S218)))).wk R,(f175.stp (S213.tr S218) R R),f219,hk154⟩,(ha.mm R)⟩
 rintro _ w143 ⟨K144,s9,aA,aC,aM,aS,rfl,S145,f146,f147,rfl⟩
 have h:=hK141
 dsimp only[aft]at h
 refine Jp (Jq (Js1 (κ:=K144) [0,2,8,12] (some 13) [(0,2),(1,2),(3,2),(5,2),(2,0),(4,0),(6,0),(7,2),(8,0),(9,1),(10,1),(11,2),(12,2)] [(13,1)] (by kernel_rfl) (by kernel_rfl) λw222 S221=>Jd3 R U108 R Z104 (Jd3 R U104 R Z29 (Jd3 R U104 R Z29 (Jd3 R U116 R Z2 ?_)))))
 have f223:=f113.stp (S120.tr (S123.tr (S132.tr (S138.tr (S145.tr S221))))) R R
 refine Jg R (Jc2 I29 R R (hvC (f223.ld 0 R R) R)) (Jg R (Jc2 I29 R R (hvC ((f9.stp (S16.tr (S31.tr (S43.tr (S57.tr (S64.tr (S81.tr (S86.tr (S90.tr (S93.tr (S108.tr (S120.tr (S123.tr (S132.tr (S138.tr (S145.tr S221))))))))))))))) R R).ld 0 R R) R)) ?_)
 have f225:=f124.stp (S132.tr (S138.tr (S145.tr S221))) R R
 refine Jg R (Jc2 I2 R R (hvC (f225.ld 0 R R) R)) (Ob h λx126 hx126 h=>Jc3 R f10 hx126 U29 Z2 (Jg R (Jc2 I2 R R (hvC ((f10.stp (S16.tr (S31.tr (S43.tr (S57.tr (S64.tr (S81.tr (S86.tr (S90.tr (S93.tr (S108.tr (S120.tr (S123.tr (S132.tr (S138.tr (S145.tr S221))))))))))))))) R R).gInt hx126) R)) (Jn1 (κ:=K144) (E:=E6) 17 [] (parts:=[(0,.tmp 127)]) (cells:=[vi x126]) (xs:=([x126]:List Int)) R R R R R R Y29 Tryzinfo2 R R R R R R R R R R ⟨[vi x126],[],Zl K144 w222 [],Zl K144 w222 [],R,Zl.sp (l1:=[]) (l2:=[]) R,Zl.sr (l1:=[]) (l2:=[]),R,R⟩ λbw bB w227 K228 S229 f230=>⟨(S229.cl R),Ob h λx129 hx129 h=>Jm1 (κ:=K228) (E:=E6) 9 [] R R R R R R R R R Y29 Tryzinfo2 R R R R (f110.stp (S120.tr (S123.tr (S132.tr (S138.tr (S145.tr (S221.tr S229)))))) R R) (Sl.srcP (bT _) f230.rdc) bJ hx129 R λau aq w232 K233 S234 f235=>⟨((S229.tr S234).cl R),Jd3 R U108 R Z104 (Jd3 R U104 R Z29 (Jt1 (Ji1 (κ:=K233) 8 (off:=0) (vc:=[.slice au x129.length aq]) (cs':=[.slice au x129.length aq,.slice am s4.2.2.2.1.length aw,.slice ad s4.2.2.2.2.length ae]) R R R R R R R Z29 R R (f223.stp (S229.tr S234) R R) R R λw237 S238 f239=>⟨tv,Jd (Jq (Js1 (κ:=K233) [8] (some 9) [(0,2),(1,2),(3,2),(2,0),(4,1),(5,1),(6,1),(7,2),(8,2)] [(9,1)] (by kernel_rfl) (by kernel_rfl) λw241 S240=>Jd3 R U108 R Z104 (Jd3 R U104 R Z26 (Jn 1 R ?_))))⟩)))⟩⟩)))
 have f242:=f239.stp S240 R R
 refine Jg R (Jc2 I26 R R (hvC (f242.ld 1 R R) R)) (Ob h λx136 hx136 h=>Jh R R R C123 (oo (κ:=Mk K233) (Ji3 (f147.stp (S221.tr (S229.tr (S234.tr (S238.tr S240)))) R R).rdc) hx136) ?_)
 rintro _ w244 ⟨k245,aW,aU,rfl,e246,f247⟩
 obtain⟨K248,S249,m250⟩:=Ji e246 18 R
 refine⟨(S249.cl R),Jn1 (κ:=K248) (E:=(Ep.own E6 2)) 21 [20] (parts:=[(0,.tmp 136)]) (cells:=[.slice aW x136.length aU]) (xs:=([x136]:List (List Int))) R R R R R R Y26 Tryzinfo29 R R R R R R R R R R ⟨[.slice aW x136.length aU],[],Zl K248 w244 [20],Zl K248 w244 [],R,Zl.sp (l1:=[20]) (l2:=[]) R,Zl.sr (l1:=[20]) (l2:=[]),⟨_,_,R,(f247.mx (bH _) m250 R (R:18+2=20))⟩,R⟩ λbv bt w253 K254 S255 f256=>⟨((S249.tr S255).cl R),Ob h λx138 hx138 h=>Jm1 (κ:=K254) (E:=(Ep.own E6 2)) 10 [21] R R R R R R R R R Y26 Tryzinfo29 R R R R (f111.stp (S120.tr (S123.tr (S132.tr (S138.tr (S145.tr (S221.tr (S229.tr (S234.tr (S238.tr (S240.tr (S249.tr S255))))))))))) R R) f256.src (cZ R) hx138 R λaz aE w258 K259 S260 f261=>⟨((S249.tr (S255.tr S260)).cl R),Jd3 R U108 R Z104 (Jd3 R U104 R Z26 (Jt1 (Ji1 (κ:=K259) 8 (off:=1) (vc:=[.slice az x138.length aE]) (cs':=[.slice au x129.length aq,.slice az x138.length aE,.slice ad s4.2.2.2.2.length ae]) R R R R R R R Z26 R R (f242.stp (S249.tr (S255.tr S260)) R R) R R λw263 S264 f265=>⟨tv,Jd (Js1 (κ:=K259) [8,12] (some 11) [(0,2),(2,2),(3,2),(5,2),(1,0),(4,0),(6,0),(7,1),(8,1),(9,1),(10,2)] [(11,1)] (by kernel_rfl) (by kernel_rfl) λw267 S266=>Jd3 R U108 R Z29 (Jn 1 R (Jd3 R U116 R Z29 (Jd3 R U116 R Z2 ?_))))⟩)))⟩⟩⟩
 have f268:=f265.stp S266 R R
 refine Jg R (Jc2 I29 R R (hvC (f268.ld 2 R R) R)) ?_
 have f269:=f225.stp (S229.tr (S234.tr (S238.tr (S240.tr (S249.tr (S255.tr (S260.tr (S264.tr S266)))))))) R R
 have S001:=(S132.tr (S138.tr (S145.tr (S221.tr (S229.tr (S234.tr (S238.tr (S240.tr (S249.tr (S255.tr (S260.tr (S264.tr S266))))))))))))
 refine Jg R (Jc2 I29 R R (hvC (f269.ld 1 R R) R)) (Jg R (Jc2 I2 R R (hvC (f269.ld 0 R R) R)) (Ob h λx148 hx148 h=>Jh R R R C124 (pD (κ:=Mk K259) (Ji3 (f125.stp S001 R R)) (Ji3 (f126.stp S001 R R)) hx148) ?_))
 rintro _ w272 ⟨k273,rfl,e274⟩
 obtain⟨K275,S276,m277⟩:=Ji e274 22 R
 refine⟨(S276.cl R),Jn1 (κ:=K275) (E:=E6) 24 [] (parts:=[(0,.tmp 148)]) (cells:=[vi x148]) (xs:=([x148]:List Int)) R R R R R R Y29 Tryzinfo2 R R R R R R R R R R ⟨[vi x148],[],Zl K275 w272 [],Zl K275 w272 [],R,Zl.sp (l1:=[]) (l2:=[]) R,Zl.sr (l1:=[]) (l2:=[]),R,R⟩ λbz bs w279 K280 S281 f282=>⟨((S276.tr S281).cl R),Ob h λx150 hx150 h=>Jm1 (κ:=K280) (E:=E6) 11 [] R R R R R R R R R Y29 Tryzinfo2 R R R R (f112.stp (S120.tr (S123.tr (S132.tr (S138.tr (S145.tr (S221.tr (S229.tr (S234.tr (S238.tr (S240.tr (S249.tr (S255.tr (S260.tr (S264.tr (S266.tr (S276.tr S281)))))))))))))))) R R) (Sl.srcP (bT _) f282.rdc) bJ hx150 R λaR aN w284 K285 S286 f287=>⟨((S276.tr (S281.tr S286)).cl R),Jd3 R U108 R Z29 (Jt1 (Ji1 (κ:=K285) 8 (off:=2) (vc:=[.slice aR x150.length aN]) (cs':=[.slice au x129.length aq,.slice az x138.length aE,.slice aR x150.length aN]) R R R R R R R Z29 R R (f268.stp (S276.tr (S281.tr S286)) R R) R R λw289 S290 f291=>⟨tv,Jo (Jz (Jp (Jf3 R ?_)))⟩))⟩⟩⟩
 cases h
 exact Jz1 λa ha=>⟨k,_,Ja3 _,⟨K285,((s9.1:(List Place)),((IntKind.i64.wrap (s4.2.1+1)):Int),(x129:(List Int)),(x138:(List (List Int))),(x150:(List Int))),aA,aC,au,aq,az,aE,aR,aN,R,(S108.tr (S120.tr (S123.tr (S132.tr (S138.tr (S145.tr (S221.tr (S229.tr (S234.tr (S238.tr (S240.tr (S249.tr (S255.tr (S260.tr (S264.tr (S266.tr (S276.tr (S281.tr (S286.tr S290))))))))))))))))))).wk R,(f146.stp (S221.tr (S229.tr (S234.tr (S238.tr (S240.tr (S249.tr (S255.tr (S260.tr (S264.tr (S266.tr (S276.tr (S281.tr (S286.tr S290))))))))))))) R R),(f235.stp (S238.tr (S240.tr (S249.tr (S255.tr (S260.tr (S264.tr (S266.tr (S276.tr (S281.tr (S286.tr S290)))))))))) R R),(f261.stp (S264.tr (S266.tr (S276.tr (S281.tr (S286.tr S290))))) R R),(f287.stp S290 R R),f291,hk115⟩,(ha.mm R)⟩
 rintro _ w98 ⟨K99,s6,ax,aI,aa,af,ai,ah,ak,ac,rfl,S100,f101,f102,f103,f104,f105,rfl⟩
 have h:=hK96
 dsimp only[aft]at h
 refine Jp (Je [1,2,1,2,2] R (Jl tv R R R R (Jd2 (cs:=[.slice aa s6.2.2.1.length af,.slice ai s6.2.2.2.1.length ah,.slice ak s6.2.2.2.2.length ac]) I108 Z108 R R R (haE f105.cells)) (Jn 1 R (Jj1 (κ:=K99) 3 (vc:=[.slice aa s6.2.2.1.length af,.slice ai s6.2.2.2.1.length ah,.slice ak s6.2.2.2.2.length ac]) R R R R R R R Z108 R R (f8.stp (S16.tr (S31.tr (S43.tr (S57.tr (S64.tr (S81.tr (S86.tr (S90.tr (S93.tr S100))))))))) R R) R λw297 S298 f299=>⟨tv,Jb 2 R (Ju (Ja2 (l:=[.cell 6 108,.tmp 7,.tmp 8]) V70 (bL R f299 I108 Z108 R (Jp2 R (Jp2 R R))) R ?_))⟩))))
 cases h
 exact⟨(λb=>ren [(9,2),(10,3),(11,4),(7,5)] (K99 b)),aa,af,ai,ah,ak,ac,ax,aI,R,((hE.stp (S3.tr (S7.tr (S16.tr (S31.tr (S43.tr (S57.tr (S64.tr (S81.tr (S86.tr (S90.tr (S93.tr (S100.tr S298)))))))))))) R R).map (ren [(9,2),(10,3),(11,4),(7,5)]) R R),((f102.stp S298 R R).map (ren [(9,2),(10,3),(11,4),(7,5)]) R R),((f103.stp S298 R R).map (ren [(9,2),(10,3),(11,4),(7,5)]) R R),((f104.stp S298 R R).map (ren [(9,2),(10,3),(11,4),(7,5)]) R R),((f101.stp S298 R R).map (ren [(9,2),(10,3),(11,4),(7,5)]) R R)⟩
 refine JT λh=>Jx R (Je [2,1,1,2,2] R (Jf R (bI (parts:=[]) (cells:=[.slice none 0 0,.slice none 0 0,.slice none 0 0]) R R (by kernel_rfl)) (Jo1 (κ:=K42) (E:=(Ep.fz Place.rp)) 6 R R R R R Y109 Tryzinfo116 R λbd ba w45 K46 S47 f48=>⟨tv,Jj1 (κ:=K46) 3 (vc:=[.slice none 0 0,.slice none 0 0,.slice none 0 0]) R R R R R R R Z108 R R (f8.stp (S16.tr (S31.tr (S43.tr S47))) R R) R λw50 S51 f52=>⟨tv,Jb 2 R (Ju (Jw (Ja2 (l:=[.cell 6 108,.tmp 7,.tmp 8]) V70 (bL R f52 I108 Z108 R (Jp2 R (Jp2 R R))) R ?_)))⟩⟩)))
 cases h
 exact⟨(λb=>ren [(6,5)] (K46 b)),none,0,none,0,none,0,bd,ba,R,((hE.stp (S3.tr (S7.tr (S16.tr (S31.tr (S43.tr (S47.tr S51)))))) R R).map (ren [(6,5)]) R R),Ow.nil,Ow.nil,Ow.nil,((f48.stp S51 R R).map (ren [(6,5)]) R R)⟩
theorem qL {w:World}{κ:Col}{ao au aq av ap an}{p0:Parity}{a1 u1}{p1:(List Int)}(g0_0_0:Rd (Rp.int .i64) κ w 0 ao au p0.Arena.Owner) (g0_0_1:Rd (Rp.sl (Rp.int .i64)) κ w 0 aq av p0.Arena.Next) (g0_1:Rd (Rp.int .i64) κ w 0 ap an p0.Prio) (g1:Rd (Rp.int .i64) κ w 0 a1 u1 p1){r:Parity×Bool}(h:kM p0 p1=some r):Ret Tryz.prog 211 [.agg #[.slice ao p0.Arena.Owner.length au,.slice aq p0.Arena.Next.length av,.slice ap p0.Prio.length an],.slice a1 p1.length u1] w (λv w'=>∃(κ':Col) (ra0:Option Addr) (ru0:Nat) (ra1:Option Addr) (ru1:Nat) (ra2:Option Addr) (ru2:Nat),v= .tuple #[.agg #[.slice ra0 r.1.Arena.Owner.length ru0,.slice ra1 r.1.Arena.Next.length ru1,.slice ra2 r.1.Prio.length ru2],.bool r.2]/\Ent κ w κ' w'/\Oc E6 2 κ' w' 2 ra0 ru0 r.1.Arena.Owner/\Oc (Ep.own E6 2) 29 κ' w' 3 ra1 ru1 r.1.Arena.Next/\Oc E6 2 κ' w' 4 ra2 ru2 r.1.Prio):=by
 unfold kM at h
 refine Ret.enter F211 R N211 R ?_
 dsimp only[envOf]
 have hE:=Ent.refl κ w
 refine Je [1,1,2] R (Jf1 (κ:=κ) 2 R R R R R R R λb2 w1 K2 S3 f4=>⟨tv,Jg1 (κ:=K2) 3 R R R R R X108 R λb4 w5 K6 S7 f8=>⟨tv,Jb 1 R (Jq (Je [1,1,2,2,1,2,1,2,2] R ?_))⟩⟩)
 have f9:=f4.stp S7 R R
 refine Jl tv R R R R (Jd2 (cs:=[.slice ao p0.Arena.Owner.length au,.slice aq p0.Arena.Next.length av,.slice ap p0.Prio.length an]) I108 Z108 R R R (haE f9.cells)) (Ob h λx10 hx10 h=>?_)
 have f10:=g0_0_0.stp (S3.tr S7) R R
 have f11:=g0_0_1.stp (S3.tr S7) R R
 have f12:=g0_1.stp (S3.tr S7) R R
 refine Jh R R R C125 (lB (κ:=Mk K6) (p0:=p0) (Ji3 f10) (Ji3 f11) (Ji3 f12) hx10) ?_
 rintro _ w13 ⟨k14,rfl,e15⟩
 obtain⟨K16,S17,m18⟩:=Ji e15 4 R
 refine⟨tv,Jn 2 R (Ob h λp17 h hK20=>Ju1 [(4,1),(5,2),(6,1),(7,2),(8,2)] [] (λL w'=>L=[(1,.slice a1 p1.length u1),(2,.pointer (some ⟨b2,0,none⟩)),(4,.pointer (some ⟨b4,0,none⟩)),(17,.bool p17)]/\∃κ',Stp [] K16 w13 κ' w') tv ?_ ?_)⟩
 revert h
 cases ht21:(!x10)
 refine JF λh=>Jl tv R R R R (Jd2 (cs:=[.slice ao p0.Arena.Owner.length au,.slice aq p0.Arena.Next.length av,.slice ap p0.Prio.length an]) I108 Z108 R R R (haE (f9.stp S17 R R).cells)) (Jn 1 R (Ob h λx15 hx15 h=>Jh R R R C239 (pM (κ:=Mk K16) (p0:=p0) (Ji3 (f10.stp S17 R R)) (Ji3 (f11.stp S17 R R)) (Ji3 (f12.stp S17 R R)) (Ji3 (g1.stp (S3.tr (S7.tr S17)) R R)) hx15) ?_))
 rintro _ w27 ⟨k28,rfl,e29⟩
 obtain⟨K30,S31,m32⟩:=Ji e29 6 R
 refine⟨tv,Jn 2 R ?_⟩
 cases h
 exact Jv1 _ tv ⟨R,_,S31.wk R⟩ (KM R)
 refine JT λh=>Jd1 R R R R (Jn 1 R (Jd1 R R R R (Jn 2 R ?_)))
 cases h
 exact Jv1 _ tv ⟨R,_,Jj3⟩ (KM R)
 rintro _ w34 _ ⟨rfl,K35,S36⟩
 have h:=hK20
 refine Jd ?_
 revert h
 cases ht37:p17
 refine JF λh=>Jy R (Js (Jp (Jq (Ob h λx22 hx22 h=>Ob h λx26 hx26 h=>Jx1 (λL w'=>∃κ' b6 ae af aw ay ah ai,L=[(1,.slice a1 p1.length u1),(2,.pointer (some ⟨b2,0,none⟩)),(4,.pointer (some ⟨b4,0,none⟩)),(6,.pointer (some ⟨b6,0,none⟩))]/\Stp [6,8,9,11,12] K35 w34 κ' w'/\Oc E6 2 κ' w' 6 ae af (((⟨(⟨x22,([]:List (List Int))⟩:Arena),x26⟩:Parity).Arena).Owner)/\Oc (Ep.own E6 2) 29 κ' w' 7 aw ay (((⟨(⟨x22,([]:List (List Int))⟩:Arena),x26⟩:Parity).Arena).Next)/\Oc E6 2 κ' w' 8 ah ai ((⟨(⟨x22,([]:List (List Int))⟩:Arena),x26⟩:Parity).Prio)/\Bc κ' w' 9 b6 108 [.slice ae (((⟨(⟨x22,([]:List (List Int))⟩:Arena),x26⟩:Parity).Arena).Owner).length af,.slice aw (((⟨(⟨x22,([]:List (List Int))⟩:Arena),x26⟩:Parity).Arena).Next).length ay,.slice ah ((⟨(⟨x22,([]:List (List Int))⟩:Arena),x26⟩:Parity).Prio).length ai]) ?_ ?_))))
 refine WC.rxt (κ:=K35) [2] none (by kernel_rfl) λw51 S52=>Jq1 (fuel:=6) [(0,2),(1,2),(5,2),(2,0),(6,0)] (by kernel_rfl) (by kernel_rfl) R (Jd3 R U108 R Z104 (Jd3 R U104 R Z29 (Jd3 R U108 R Z29 ?_)))
 have f53:=f9.stp (S17.tr (S36.tr S52)) R R
 refine Jg R (Jc2 I29 R R (hvC (f53.ld 0 R R) R)) (Jg R (Jc2 I29 R R (hvC (f53.ld 2 R R) R)) (Jp1 (WA.fork2 (fuel:=5) 3 9 (by kernel_rfl) R ?_ ?_)))
 refine Jh R R R C56 (db (κ:=Mk K35) (Ji3 (f10.stp (S17.tr (S36.tr S52)) R R)) hx22) ?_
 rintro _ w55 ⟨k56,aa,ab,rfl,e57,f58⟩
 obtain⟨K59,S60,m61⟩:=Ji e57 6 R
 refine⟨(S60.cl R),?_⟩
 have f63:=f58.mx (bH _) m61 R (R:6+2=8)
 refine Jp1 (Jq1 (fuel:=4) [(4,2)] (by kernel_rfl) (by kernel_rfl) R (Jf R (bI (parts:=[(0,.tmp 22)]) (cells:=[.slice aa x22.length ab,.slice none 0 0]) R R (by kernel_rfl)) (Jp1 (WA.fork2 (fuel:=3) 7 9 (by kernel_rfl) R ?_ ?_))))
 refine Jh R R R C56 (db (κ:=Mk K59) (Ji3 (f12.stp (S17.tr (S36.tr (S52.tr S60))) R R)) hx26) ?_
 rintro _ w65 ⟨k66,ad,ac,rfl,e67,f68⟩
 obtain⟨K69,S70,m71⟩:=Ji e67 9 R
 exact⟨((S60.tr S70).cl R),Jp1 (Jq1 (fuel:=0) [(8,2),(9,1),(10,1)] (by kernel_rfl) (by kernel_rfl) R (Jf R (bI (parts:=[(0,.tmp 23),(1,.tmp 26)]) (cells:=[.slice aa x22.length ab,.slice none 0 0,.slice ad x26.length ac]) R R (by kernel_rfl)) (Jg1 (κ:=K69) 12 R R R R R X108 R λb6 w74 K75 S76 f77=>⟨((S60.tr (S70.tr S76)).cl R),Jj1 (κ:=K75) 12 (vc:=[.slice aa x22.length ab,.slice none 0 0,.slice ad x26.length ac]) R R R R R R R Z108 R R f77 R λw78 S79 f80=>⟨((S60.tr (S70.tr (S76.tr S79))).cl R),Jp1 (Jr1 [] (by kernel_rfl) (by kernel_rfl) R (Jo (Jw1 _ ⟨(λb=>ren [(8,6),(11,8),(12,9)] (K75 b)),b6,aa,ab,none,0,ad,ac,R,(Jy2 ((S52.tr (S60.tr (S70.tr (S76.tr S79)))).wk R) [(8,6),(11,8),(12,9)] R),((f63.stp (S70.tr (S76.tr S79)) R R).map (ren [(8,6),(11,8),(12,9)]) R R),Ow.nil,(((f68.mx (bH _) m71 R (R:9+2=11)).stp (S76.tr S79) R R).map (ren [(8,6),(11,8),(12,9)]) R R),(f80.map (ren [(8,6),(11,8),(12,9)]) R R)⟩ (KM R))))⟩⟩)))⟩
 refine Jg1 (κ:=K59) 9 R R R R R X108 R λb6 w83 K84 S85 f86=>⟨((S60.tr S85).cl R),Jp1 (Jq1 (fuel:=0) [(7,1),(8,2),(10,1)] (by kernel_rfl) (by kernel_rfl) R (Jh R R R C56 (db (κ:=Mk K84) (Ji3 (f12.stp (S17.tr (S36.tr (S52.tr (S60.tr S85)))) R R)) hx26) ?_))⟩
 rintro _ w88 ⟨k89,ad,ac,rfl,e90,f91⟩
 obtain⟨K92,S93,m94⟩:=Ji e90 10 R
 exact⟨((S60.tr (S85.tr S93)).cl R),Jf R (bI (parts:=[(0,.tmp 23),(1,.tmp 26)]) (cells:=[.slice aa x22.length ab,.slice none 0 0,.slice ad x26.length ac]) R R (by kernel_rfl)) (Jj1 (κ:=K92) 9 (vc:=[.slice aa x22.length ab,.slice none 0 0,.slice ad x26.length ac]) R R R R R R R Z108 R R (f86.stp S93 R R) R λw98 S99 f100=>⟨((S60.tr (S85.tr (S93.tr S99))).cl R),Jp1 (Jr1 [] (by kernel_rfl) (by kernel_rfl) R (Jo (Jw1 _ ⟨(λb=>ren [(8,6),(12,8)] (K92 b)),b6,aa,ab,none,0,ad,ac,R,(Jy2 ((S52.tr (S60.tr (S85.tr (S93.tr S99)))).wk R) [(8,6),(12,8)] R),((f63.stp (S85.tr (S93.tr S99)) R R).map (ren [(8,6),(12,8)]) R R),Ow.nil,(((f91.mx (bH _) m94 R (R:10+2=12)).stp S99 R R).map (ren [(8,6),(12,8)]) R R),(f100.map (ren [(8,6),(12,8)]) R R)⟩ (KM R))))⟩)⟩
 refine Jg1 (κ:=K35) 6 R R R R R X108 R λb6 w103 K104 S105 f106=>⟨(S105.cl R),Jp1 (Jq1 (fuel:=0) [(3,1),(4,2),(7,1),(8,2),(10,1)] (by kernel_rfl) (by kernel_rfl) R (Jh R R R C56 (db (κ:=Mk K104) (Ji3 (f10.stp (S17.tr (S36.tr (S52.tr S105))) R R)) hx22) ?_))⟩
 rintro _ w108 ⟨k109,aa,ab,rfl,e110,f111⟩
 obtain⟨K112,S113,m114⟩:=Ji e110 7 R
 refine⟨((S105.tr S113).cl R),Jf R (bI (parts:=[(0,.tmp 22)]) (cells:=[.slice aa x22.length ab,.slice none 0 0]) R R (by kernel_rfl)) (Jh R R R C56 (db (κ:=Mk K112) (Ji3 (f12.stp (S17.tr (S36.tr (S52.tr (S105.tr S113)))) R R)) hx26) ?_)⟩
 rintro _ w118 ⟨k119,ad,ac,rfl,e120,f121⟩
 obtain⟨K122,S123,m124⟩:=Ji e120 10 R
 have S001:=(S105.tr (S113.tr S123))
 exact⟨(S001.cl R),Jf R (bI (parts:=[(0,.tmp 23),(1,.tmp 26)]) (cells:=[.slice aa x22.length ab,.slice none 0 0,.slice ad x26.length ac]) R R (by kernel_rfl)) (Jj1 (κ:=K122) 6 (vc:=[.slice aa x22.length ab,.slice none 0 0,.slice ad x26.length ac]) R R R R R R R Z108 R R (f106.stp (S113.tr S123) R R) R λw128 S129 f130=>⟨((S001.tr S129).cl R),Jp1 (Jr1 [] (by kernel_rfl) (by kernel_rfl) R (Jo (Jw1 _ ⟨(λb=>ren [(9,6),(12,8),(6,9)] (K122 b)),b6,aa,ab,none,0,ad,ac,R,(Jy2 ((S52.tr (S105.tr (S113.tr (S123.tr S129)))).wk R) [(9,6),(12,8),(6,9)] R),(((f111.mx (bH _) m114 R (R:7+2=9)).stp (S123.tr S129) R R).map (ren [(9,6),(12,8),(6,9)]) R R),Ow.nil,(((f121.mx (bH _) m124 R (R:10+2=12)).stp S129 R R).map (ren [(9,6),(12,8),(6,9)]) R R),(f130.map (ren [(9,6),(12,8),(6,9)]) R R)⟩ (KM R))))⟩)⟩
 rintro _ w43 ⟨K44,b6,ae,af,aw,ay,ah,ai,rfl,S45,f47,f48,f49,f50⟩
 refine Jp (Jq (Je3 R ?_))
 have hN133:(p1.length:Int)<=9223372036854775807:=g1.len_le
 refine Ob h λq2 hq135 hK134=>?_
 clear h
 refine Jx1 (λL w'=>∃κ',∃s3:(List (List Int)),∃aj ak,L=[(4,.pointer (some ⟨b4,0,none⟩)),(6,.pointer (some ⟨b6,0,none⟩))]/\Stp [7,9,12,13] K44 w43 κ' w'/\Oc (Ep.own E6 2) 29 κ' w' 7 aj ak s3/\Bc κ' w' 9 b6 108 [.slice ae (((⟨(⟨x22,([]:List (List Int))⟩:Arena),x26⟩:Parity).Arena).Owner).length af,.slice aj s3.length ak,.slice ah ((⟨(⟨x22,([]:List (List Int))⟩:Arena),x26⟩:Parity).Prio).length ai]/\q2=it s3) ?_ ?_
 refine Jv (Jy1 (λk L w'=>∃κ' v7,∃s1:(List (List Int)),∃ax ar,L=[(1,.slice a1 p1.length u1),(2,.pointer (some ⟨b2,0,none⟩)),(4,.pointer (some ⟨b4,0,none⟩)),(6,.pointer (some ⟨b6,0,none⟩)),(7,vi v7)]/\Stp [7,9,12,13] K44 w43 κ' w'/\Oc (Ep.own E6 2) 29 κ' w' 7 ax ar s1/\Bc κ' w' 9 b6 108 [.slice ae (((⟨(⟨x22,([]:List (List Int))⟩:Arena),x26⟩:Parity).Arena).Owner).length af,.slice ax s1.length ar,.slice ah ((⟨(⟨x22,([]:List (List Int))⟩:Arena),x26⟩:Parity).Prio).length ai]/\0<=v7/\Int.toNat ((p1.length:Int)-v7)=k/\cntM (ig p0 p1) k v7 s1=some q2) ⟨_,_,⟨K44,0,(((⟨(⟨x22,([]:List (List Int))⟩:Arena),x26⟩:Parity).Arena).Next:(List (List Int))),aw,ay,R,Jj3,f48,f50,(by decide),(by simp),hq135⟩,(KM R)⟩ ?_)
 rintro k _ w141 ⟨K142,v7,s1,ax,ar,rfl,S143,f144,f145,hj133,hJ133,h⟩
 rcases k with _ | k
 have hk146:=h;obtain⟨o133,h⟩:=bO (it (Sum.inl s1):(Parity×Bool)⊕(((List (List Int)))⊕((List (List Int)))))
 have hc133:decide (v7<(p1.length:Int))=false:=Jo2 (by omega)
 refine Jq (Jg3 [2,2,2,2] 2 R (Jf R (Je2 U29 R R) (Jb 1 R (Jw2 R hc133 (Jc1 (Jt (Jt ?_)))))))
 cases h
 have h:=hk146
 refine Jb1 ?_
 cases h
 exact Jw1 _ ⟨K142,(s1:(List (List Int))),ax,ar,R,S143.wk R,f144,f145,R⟩ (KM R)
 obtain⟨o133,h,hk146⟩:=BI h;unfold ig at h
 have hc133:decide (v7<(p1.length:Int))=true:=Jn2 (by omega)
 refine Jq (Jg3 [2,2,2,2] 2 R (Jf R (Je2 U29 R R) (Jb 1 R (Jv2 R hc133 (Js (Jp (Jq (Jv (Je [2,2,1,2,2,1,1,2] R (Jd3 R U108 R Z104 (Jd3 R U104 R Z26 (Jb3 R I26 ((f9.stp (S17.tr (S36.tr (S45.tr S143))) R R).ld 1 R R) (Jn 1 R (Ob h λx38 hx38 h=>Jc3 R f11 hx38 U26 Z29 ?_))))))))))))))
 obtain⟨ax38,ux38,f149,hl150⟩:=(f11.stp (S17.tr (S36.tr (S45.tr S143))) R R).gSl hx38
 refine Jb3 R I29 hl150 (Ob h λx40 hx40 h=>Jh R R R C56 (db (κ:=Mk K142) (Ji3 f149) hx40) ?_)
 rintro _ w151 ⟨k152,aE,aD,rfl,e153,f154⟩
 obtain⟨K155,S156,m157⟩:=Ji e153 10 R
 refine⟨tv,Jb 1 R (Jq (Jg3 [2,2,2,1,2] 2 R (Ob h λx43 hx43 h=>Jc3 R g1 hx43 U29 Z2 ?_)))⟩
 have f160:=g1.stp (S3.tr (S7.tr (S17.tr (S36.tr (S45.tr (S143.tr S156)))))) R R
 refine Jb3 R I2 (f160.gInt hx43) (Jb 1 R (Ob h λq4 h hK161=>Jx1 (λL w'=>∃κ' al am,L=[(1,.slice a1 p1.length u1),(2,.pointer (some ⟨b2,0,none⟩)),(4,.pointer (some ⟨b4,0,none⟩)),(6,.pointer (some ⟨b6,0,none⟩)),(7,vi v7),(8,.slice al q4.length am)]/\Stp [13] K155 w151 κ' w'/\Oc E6 2 κ' w' 12 al am q4) ?_ ?_))
 revert h
 cases ht166:decide (0<=x43)
 refine JF λh=>Jy R (Js ?_)
 cases h
 exact Jw1 _ ⟨K155,aE,aD,R,Jj3,(f154.mx (bH _) m157 R (R:10+2=12))⟩ (KM R)
 refine JT λh=>Jx R (Jh3 [2,2,2,1,1,2] 2 R (Ob h λx48 hx48 h=>Jc3 R f160 hx48 U29 Z2 (Jb3 R I2 (f160.gInt hx48) (Jn1 (κ:=K155) (E:=E6) 13 [] (parts:=[(0,.tmp 49)]) (cells:=[vi x48]) (xs:=([x48]:List Int)) R R R R R R Y29 Tryzinfo2 R R R R R R R R R R ⟨[vi x48],[],Zl K155 w151 [],Zl K155 w151 [],R,Zl.sp (l1:=[]) (l2:=[]) R,Zl.sr (l1:=[]) (l2:=[]),R,R⟩ λaB aC w167 K168 S169 f170=>⟨tv,Jc 1 R ?_⟩))))
 cases h
 exact Jw1 _ ⟨(λb=>ren [(13,12)] (K168 b)),aB,aC,R,(Jy2 (S169.wk R) [(13,12)] R),(f170.map (ren [(13,12)]) R R)⟩ (KM R)
 rintro _ w162 ⟨K163,al,am,rfl,S164,f165⟩
 have h:=hK161
 refine Jp (Ja [2,2,1,2,1,1,2,2,1] R (Jd3 R U108 R Z104 (Jd3 R U104 R Z26 ?_)))
 have f171:=f145.stp (S156.tr S164) R R
 refine Jb3 R I26 (f171.ld 1 R R) (Jn 1 R (Jn1 (κ:=K163) (E:=(Ep.own E6 2)) 13 [12] (parts:=[(0,.tmp 54)]) (cells:=[.slice al q4.length am]) (xs:=([q4]:List (List Int))) R R R R R R Y26 Tryzinfo29 R R R R R R R R R R ⟨[.slice al q4.length am],[],Zl K163 w162 [12],Zl K163 w162 [],R,Zl.sp (l1:=[12]) (l2:=[]) R,Zl.sr (l1:=[12]) (l2:=[]),⟨_,_,R,f165⟩,R⟩ λaF aG w172 K173 S174 f175=>⟨tv,Ob h λx56 hx56 h=>Jm1 (κ:=K173) (E:=(Ep.own E6 2)) 7 [13] R R R R R R R R R Y26 Tryzinfo29 R R R R (f144.stp (S156.tr (S164.tr S174)) R R) f175.src (cZ R) hx56 R λaA az w177 K178 S179 f180=>⟨tv,Jd3 R U108 R Z104 (Jd3 R U104 R Z26 (Ji1 (κ:=K178) 9 (off:=1) (vc:=[.slice aA x56.length az]) (cs':=[.slice ae (((⟨(⟨x22,([]:List (List Int))⟩:Arena),x26⟩:Parity).Arena).Owner).length af,.slice aA x56.length az,.slice ah ((⟨(⟨x22,([]:List (List Int))⟩:Arena),x26⟩:Parity).Prio).length ai]) R R R R R R R Z26 R R (f171.stp (S174.tr S179) R R) R R λw182 S183 f184=>⟨tv,Jo (Jz (Jp (Jf3 R ?_)))⟩))⟩⟩))
 have hw133:hV .i64 (v7+1)=v7+1:=wr1 hj133 (Jm2 hc133) hN133
 rw[hw133]
 have hc133:=Jm2 hc133
 cases h
 exact Jz1 λa ha=>⟨k,_,Ja3 _,⟨K178,v7+1,(x56:(List (List Int))),aA,az,R,(S143.tr (S156.tr (S164.tr (S174.tr (S179.tr S183))))).wk R,(f180.stp S183 R R),f184,by omega,by omega,hk146⟩,(ha.mm R)⟩
 rintro _ w136 ⟨K137,s3,aj,ak,rfl,S138,f139,f140,rfl⟩
 have h:=hK134
 dsimp only[aft]at h
 refine Jp (Je [1,1,2] R (Jl tv R R R R (Jd2 (cs:=[.slice ae (((⟨(⟨x22,([]:List (List Int))⟩:Arena),x26⟩:Parity).Arena).Owner).length af,.slice aj s3.length ak,.slice ah ((⟨(⟨x22,([]:List (List Int))⟩:Arena),x26⟩:Parity).Prio).length ai]) I108 Z108 R R R (haE f140.cells)) (Jj1 (κ:=K137) 3 (vc:=[.slice ae (((⟨(⟨x22,([]:List (List Int))⟩:Arena),x26⟩:Parity).Arena).Owner).length af,.slice aj s3.length ak,.slice ah ((⟨(⟨x22,([]:List (List Int))⟩:Arena),x26⟩:Parity).Prio).length ai]) R R R R R R R Z108 R R (f8.stp (S17.tr (S36.tr (S45.tr S138))) R R) R λw187 S188 f189=>⟨tv,Jb 1 R (Ju (Ja2 (l:=[.cell 4 108,.tmp 5]) V211 (bL R f189 I108 Z108 R (Jp2 R R)) R ?_))⟩)))
 cases h
 exact⟨(λb=>ren [(6,2),(7,3),(8,4)] (K137 b)),ae,af,aj,ak,ah,ai,R,((hE.stp (S3.tr (S7.tr (S17.tr (S36.tr (S45.tr (S138.tr S188)))))) R R).map (ren [(6,2),(7,3),(8,4)]) R R),((f47.stp (S138.tr S188) R R).map (ren [(6,2),(7,3),(8,4)]) R R),((f139.stp S188 R R).map (ren [(6,2),(7,3),(8,4)]) R R),((f49.stp (S138.tr S188) R R).map (ren [(6,2),(7,3),(8,4)]) R R)⟩
 refine JT λh=>Jx R (Je [2,1,2] R (Jf R (bI (parts:=[]) (cells:=[.slice none 0 0,.slice none 0 0,.slice none 0 0]) R R (by kernel_rfl)) (Jj1 (κ:=K35) 3 (vc:=[.slice none 0 0,.slice none 0 0,.slice none 0 0]) R R R R R R R Z108 R R (f8.stp (S17.tr S36) R R) R λw39 S40 f41=>⟨tv,Jb 1 R (Ju (Jw (Ja2 (l:=[.cell 4 108,.tmp 5]) V211 (bL R f41 I108 Z108 R (Jp2 R R)) R ?_)))⟩)))
 cases h
 exact⟨K35,none,0,none,0,none,0,R,(hE.stp (S3.tr (S7.tr (S17.tr (S36.tr S40)))) R R),Ow.nil,Ow.nil,Ow.nil⟩
theorem rn {w:World}{κ:Col}{ae ak ah ad af ai aj ac ab aa}{p0:l7Game}{a1 u1}{p1:(List Bool)}{p2:Int}(g0_0:Rd (Rp.int .i64) κ w 0 ae ak p0.owner) (g0_1:Rd (Rp.int .i64) κ w 0 ah ad p0.prio) (g0_2:Rd (Rp.sl (Rp.int .i64)) κ w 0 af ai p0.next) (g0_3:Rd (Rp.sl (Rp.int .i64)) κ w 0 aj ac p0.prev) (g0_4:Oc E6 2 κ w 2 ab aa p0.pick) (g1:Rd Rp.bool κ w 0 a1 u1 p1){r:Int×(List Int)}(h:kE p0 p1 p2=some r):Ret Tryz.prog 177 [.agg #[.slice ae p0.owner.length ak,.slice ah p0.prio.length ad,.slice af p0.next.length ai,.slice aj p0.prev.length ac,.slice ab p0.pick.length aa],.slice a1 p1.length u1,vi p2] w (λv w'=>∃(κ':Col),v=vi r.1/\Ent κ w κ' w'/\Oc E6 2 κ' w' 2 ab aa r.2/\p0.pick.length=r.2.length):=by
 unfold kE at h
 refine Ret.enter F177 R N177 R ?_
 dsimp only[envOf]
 have hE:=Ent.refl κ w
 refine Je [1,2] R (Jf1 (κ:=κ) 3 R R R R R R R λb3 w1 K2 S3 f4=>⟨tv,Jb 1 R (Jq (Je3 R (Ob h λq2 hq7 hK6=>?_)))⟩)
 clear h
 refine Jx1 (λL w'=>∃κ',∃s3:Int×(List Int),L=[]/\Stp [2] K2 w1 κ' w'/\Oc E6 2 κ' w' 2 ab aa s3.2/\p0.pick.length=s3.2.length/\q2=it s3) ?_ ?_
 refine Jv (Jy1 (λk L w'=>∃κ',∃s1:Int×(List Int),L=[(1,.slice a1 p1.length u1),(2,vi p2),(3,.pointer (some ⟨b3,0,none⟩)),(7,vi s1.1)]/\Stp [2] K2 w1 κ' w'/\Oc E6 2 κ' w' 2 ab aa s1.2/\p0.pick.length=s1.2.length/\whileM (gW p0 p1 p2) k s1=some q2) ⟨_,_,⟨K2,((0:Int),(p0.pick:(List Int))),R,Jj3,(g0_4.stp S3 R R),R,hq7⟩,(KM R)⟩ ?_)
 rintro k _ w13 ⟨K14,s1,rfl,S15,f16,hn17,h⟩
 rcases k with _ | k
 cases h
 obtain⟨o5,h,hk19⟩:=BI h;unfold gW at h
 refine Jq (Jg3 [2,2,1,2,2,1,2,2] 1 R (Jd3 R U191 R Z26 ?_))
 have f20:=f4.stp S15 R R
 refine Jb3 R I26 (f20.ld 2 R R) (Jn 1 R (Ob h λx13 hx13 h=>Jc3 R g0_2 hx13 U26 Z29 ?_))
 have f21:=g0_2.stp (S3.tr S15) R R
 obtain⟨ax13,ux13,f22,hl23⟩:=f21.gSl hx13
 refine Jb3 R I29 hl23 (Jf R (Je2 U29 R R) (Jb 1 R ?_))
 revert h
 cases ht24:decide (s1.1<(x13.length:Int))
 refine JF λh=>Jy R (Jc1 (Jt (Jt ?_)))
 cases h
 have h:=hk19
 refine Jb1 ?_
 cases h
 exact Jw1 _ ⟨K14,((s1.1:Int),(s1.2:(List Int))),R,S15.wk R,f16,hn17,R⟩ KN
 refine JT λh=>Jx R (Js (Jp (Jq (Jv (Je [2,1,2,2,1,2,2,1,2] R (Jd3 R U191 R Z26 (Jb3 R I26 (f20.ld 2 R R) (Jn 1 R (Ob h λx22 hx22 h=>Jc3 R f21 hx22 U26 Z29 ?_)))))))))
 obtain⟨ax22,ux22,f25,hl26⟩:=f21.gSl hx22
 refine Jb3 R I29 hl26 (Jn 1 R (Ob h λx25 hx25 h=>Jc3 R f25 hx25 U29 Z2 (Jb3 R I2 (f25.gInt hx25) (Jb 1 R (Jq (Jg3 [2,2,2,1,2] 2 R (Ob h λx29 hx29 h=>Jc3 R g1 hx29 U193 Z4 ?_)))))))
 have f27:=g1.stp (S3.tr S15) R R
 refine Jb3 R I4 (f27.gBool hx29) (Jb 1 R ?_)
 revert h
 cases ht28:(!x29)
 refine JF λh=>Jy R (Js (Jp (Je [2,1,2,2,2,1] R (Jd3 R U191 R Z29 (Jb3 R I29 (f20.ld 4 R R) (Jn 2 R (Ob h λx36 hx36 h=>Jf R (Jf2 f16.rdc hx36 U29 Z2 R R hn17 R) (Ob h λy225 hy225 h=>Jk1 (κ:=K14) (E:=E6) 2 [] R R R R R R R R Z2 R R R R f16 hy225 λw29 K30 S31 f32=>⟨tv,?_⟩))))))))
 have hn33:p0.pick.length=y225.length:=hn17.trans (Jt2 hy225).2.2.2.symm
 refine Jd (Jq (Js1 (κ:=K30) [0,3] none [(1,2),(2,2),(4,2),(0,0),(3,0),(5,2),(6,0),(7,1)] [] (by kernel_rfl) (by kernel_rfl) λw35 S34=>Jn 1 R (Jd3 R U191 R Z29 (Jn 1 R ?_))))
 have f36:=f20.stp (S31.tr S34) R R
 refine Jg R (Jd2 (cs:=[.slice ae p0.owner.length ak,.slice ah p0.prio.length ad,.slice af p0.next.length ai,.slice aj p0.prev.length ac,.slice ab p0.pick.length aa]) I191 Z191 R R R (haC f36.cells R)) (Jg R (Jc2 I29 R R (hvC (f36.ld 0 R R) R)) (Ob h λx42 hx42 h=>Jc3 R g0_0 hx42 U29 Z2 ?_))
 have f37:=g0_0.stp (S3.tr (S15.tr (S31.tr S34))) R R
 refine Jg R (Jc2 I2 R R (hvC (f37.gInt hx42) R)) (Ob h λx44 hx44 h=>?_)
 have f41:=f32.stp S34 R R
 have S001:=(S3.tr (S15.tr (S31.tr S34)))
 refine Jh R R R C215 (Ret.cast (by simp only[hn33,List.cons_append,List.nil_append]) (pp (κ:=Mk K30) (p0:=(⟨p0.owner,p0.prio,p0.next,p0.prev,y225⟩:l7Game)) (Ji3 f37) (Ji3 (g0_1.stp S001 R R)) (Ji3 (f21.stp (S31.tr S34) R R)) (Ji3 (g0_3.stp S001 R R)) (Ji3 f41.rdc) (Ji3 (f27.stp (S31.tr S34) R R)) hx44)) ?_
 rintro _ w43 ⟨k44,rfl,e45⟩
 obtain⟨K46,S47,m48⟩:=Ji e45 4 R
 refine⟨(S47.cl R),Jt1 (Jd ?_)⟩
 revert h
 cases ht50:x44
 refine JF λh=>Jy R (Js (Jz (Jp (Jf3 R ?_))))
 cases h
 exact Jz1 λa ha=>⟨k,_,Ja3 _,⟨K46,(((IntKind.i64.wrap (s1.1+1)):Int),(y225:(List Int))),R,(S15.tr (S31.tr (S34.tr S47))).wk R,(f41.stp S47 R R),hn33,hk19⟩,(ha.mm R)⟩
 refine JT λh=>Jx R (Je3 R (Ju (Ja1 (Jw (Jw ?_)))))
 cases h
 obtain rfl:=Option.some.inj hk19
 have h:=hK6
 dsimp only[aft]at h
 refine Ja1 (Jq2 (Jw (Ja2 (l:=[.tmp 6]) V177 (Jp2 R R) R ?_)))
 cases h
 exact⟨K46,R,(hE.stp (S3.tr (S15.tr (S31.tr (S34.tr S47)))) R R),(f41.stp S47 R R),hn33⟩
 refine JT λh=>Jx R (Jc1 (Jt (Jb1 (Jp (Jf3 R ?_)))))
 cases h
 exact Jz1 λa ha=>⟨k,_,Ja3 _,⟨K14,(((IntKind.i64.wrap (s1.1+1)):Int),(s1.2:(List Int))),R,S15.wk R,f16,hn17,hk19⟩,(ha.mm R)⟩
 rintro _ w8 ⟨K9,s3,rfl,S10,f11,hn12,rfl⟩
 have h:=hK6
 dsimp only[aft]at h
 refine Jp (Je3 R (Ju (Ja2 (l:=[.tmp 6]) V177 (Jp2 R R) R ?_)))
 cases h
 exact⟨K9,R,(hE.stp (S3.tr S10) R R),f11,hn12⟩
theorem na {w:World}{κ:Col}{p0:Sig}{a1 u1}{p1:(List Clause)}(g1:Rd Clause.rp κ w 0 a1 u1 p1){r:Bool}(h:gk p0 p1=some r):Ret Tryz.prog 129 [.agg #[vi p0.In,vi p0.Out],.slice a1 p1.length u1] w (λv w'=>∃(κ':Col),v= .bool r/\Ent κ w κ' w'):=by
 unfold gk at h
 refine Ret.enter F129 R N129 R ?_
 dsimp only[envOf]
 have hE:=Ent.refl κ w
 refine Je [1,2] R (Jf1 (κ:=κ) 2 R R R R R R R λb2 w1 K2 S3 f4=>⟨tv,Jb 1 R (Jg3 [2,2,2,2,2,2,1,2,2,2] 1 R (Jf R (Je2 U49 R R) (Jn 2 R (Ob h λp13 h hK5=>Ju1 [(4,2),(5,2),(6,1),(7,2),(8,2)] [(9,2)] (λL w'=>L=[(4,.bool false),(13,.bool p13)]/\∃κ',Stp [] K2 w1 κ' w') tv ?_ ?_))))⟩)
 revert h
 cases ht6:decide ((p1.length:Int)<=3)
 refine JF λh=>Jn 2 R (Jd1 R R R R (Jn 2 R ?_))
 cases h
 exact Jv1 _ tv ⟨R,_,Jj3⟩ (KM R)
 refine JT λh=>Jn 1 R (Jf R (ip (first:=[]) (captured:=[.tmp 2]) R R R ⟨_,R⟩) (Ob h λx11 hx11 h=>Jh R R R C178 (cF (κ:=Mk K2) (c1_0:=p0) (Ji3 (g1.stp S3 R R)) (f4.map (mp [] 0) R R) hx11) ?_))
 rintro _ w8 ⟨k9,rfl,e10⟩
 obtain⟨K11,S12,m13⟩:=Ji e10 3 R
 refine⟨tv,Jn 2 R ?_⟩
 cases h
 exact Jv1 _ tv ⟨R,_,S12.wk R⟩ (KM R)
 rintro _ w15 _ ⟨rfl,K16,S17⟩
 have h:=hK5
 refine Jb 1 R (Ju (Ja2 (l:=[.tmp 4]) V129 (Jp2 R R) R ?_))
 cases h
 exact⟨K16,R,(hE.stp (S3.tr S17) R R)⟩
theorem oJ {w:World}{κ:Col}{af ak ah ae}{p0:Arena}{a1 u1}{p1:(List Pair)}{p2:Int}(g0_0:Rd (Rp.int .i64) κ w 0 af ak p0.Owner) (g0_1:Rd (Rp.sl (Rp.int .i64)) κ w 0 ah ae p0.Next) (g1:Rd Pair.rp κ w 0 a1 u1 p1){r:Parity×(List Place)×Bool}(h:ez p0 p1 p2=some r):Ret Tryz.prog 79 [.agg #[.slice af p0.Owner.length ak,.slice ah p0.Next.length ae],.slice a1 p1.length u1,vi p2] w (λv w'=>∃(κ':Col) (ra0:Option Addr) (ru0:Nat) (ra1:Option Addr) (ru1:Nat) (ra2:Option Addr) (ru2:Nat) (ra3:Option Addr) (ru3:Nat),v= .tuple #[.agg #[.slice ra0 r.1.Arena.Owner.length ru0,.slice ra1 r.1.Arena.Next.length ru1,.slice ra2 r.1.Prio.length ru2],.slice ra3 r.2.1.length ru3,.bool r.2.2]/\Ent κ w κ' w'/\Oc E6 2 κ' w' 2 ra0 ru0 r.1.Arena.Owner/\Oc (Ep.fz (Rp.sl (Rp.int .i64))) 29 κ' w' 3 ra1 ru1 r.1.Arena.Next/\Oc E6 2 κ' w' 4 ra2 ru2 r.1.Prio/\Oc (Ep.fz Place.rp) 116 κ' w' 5 ra3 ru3 r.2.1):=by
 unfold ez at h
 refine Ret.enter F79 R N79 R ?_
 dsimp only[envOf]
 have hE:=Ent.refl κ w
 refine Je [1,1,1,2,2] R (Jf1 (κ:=κ) 2 R R R R R R R λb3 w1 K2 S3 f4=>⟨tv,Jf1 (κ:=K2) 3 R R R R R R R λb4 w5 K6 S7 f8=>⟨tv,Jg1 (κ:=K6) 4 R R R R R X108 R λb6 w9 K10 S11 f12=>⟨tv,Jb 2 R (Jg3 [2,2,1,1] 1 R (Jf R (bI (parts:=[(0,.tmp 11)]) (cells:=[vi p2,.slice none 0 0]) R R (by kernel_rfl)) (Jg1 (κ:=K10) 5 R R R R R X116 R λb9 w13 K14 S15 f16=>⟨tv,Jj1 (κ:=K14) 5 (vc:=[vi p2,.slice none 0 0]) R R R R R R R Z116 R R f16 R λw17 S18 f19=>⟨tv,Jd (Jq (Je [1,2,2] R ?_))⟩⟩)))⟩⟩⟩)
 have f20:=f8.stp (S11.tr (S15.tr S18)) R R
 refine Jb3 R I98 (f20.ld 0 R R) (Jf R (Je2 U98 R R) (Jb 1 R ?_))
 have hN21:(p1.length:Int)<=9223372036854775807:=g1.len_le
 refine Ob h λq2 hq23 hK22=>?_
 clear h
 refine Jx1 (λL w'=>∃κ',∃s3:(List Int),∃aa ac,L=[(3,.pointer (some ⟨b3,0,none⟩)),(4,.pointer (some ⟨b4,0,none⟩)),(6,.pointer (some ⟨b6,0,none⟩)),(9,.pointer (some ⟨b9,0,none⟩))]/\Stp [5,6] K14 w17 κ' w'/\Oc E6 2 κ' w' 6 aa ac s3/\Bc κ' w' 5 b9 116 [vi p2,.slice aa s3.length ac]/\q2=it s3) ?_ ?_
 refine Jv (Jy1 (λk L w'=>∃κ' v15,∃s1:(List Int),∃ad ab,L=[(3,.pointer (some ⟨b3,0,none⟩)),(4,.pointer (some ⟨b4,0,none⟩)),(6,.pointer (some ⟨b6,0,none⟩)),(9,.pointer (some ⟨b9,0,none⟩)),(14,vi (p1.length:Int)),(15,vi v15)]/\Stp [5,6] K14 w17 κ' w'/\Oc E6 2 κ' w' 6 ad ab s1/\Bc κ' w' 5 b9 116 [vi p2,.slice ad s1.length ab]/\0<=v15/\Int.toNat ((p1.length:Int)-v15)=k/\cntM gU k v15 s1=some q2) ⟨_,_,⟨K14,0,(([]:List Int):(List Int)),none,0,R,Jj3,Ow.nil,f19,(by decide),(by simp),hq23⟩,(KM R)⟩ ?_)
 rintro k _ w29 ⟨K30,v15,s1,ad,ab,rfl,S31,f32,f33,hj21,hJ21,h⟩
 rcases k with _ | k
 have hk34:=h;obtain⟨o21,h⟩:=bO (it (Sum.inl s1):(Parity×(List Place)×Bool)⊕(((List Int))⊕((List Int))))
 have hc21:decide (v15<(p1.length:Int))=false:=Jo2 (by omega)
 refine Je3 R (Jq (Jw2 R hc21 (Jc1 (Jt (Jt ?_)))))
 cases h
 have h:=hk34
 refine Jb1 ?_
 cases h
 exact Jw1 _ ⟨K30,(s1:(List Int)),ad,ab,R,S31.wk R,f32,f33,R⟩ (KM R)
 obtain⟨o21,h,hk34⟩:=BI h;unfold gU at h
 have hc21:decide (v15<(p1.length:Int))=true:=Jn2 (by omega)
 refine Je3 R (Jq (Jv2 R hc21 (Js (Jp (Jq (Jv (Je3 R (Ja [2,1,2,1,1,2,1] R (Jd3 R U116 R Z29 (Jb3 R I29 (f33.ld 1 R R) (Jn 1 R (Jn1 (κ:=K30) (E:=E6) 7 [] (parts:=[(0,.tmp 20)]) (cells:=[vi v15]) (xs:=([v15]:List Int)) R R R R R R Y29 Tryzinfo2 R R R R R R R R R R ⟨[vi v15],[],Zl K30 w29 [],Zl K30 w29 [],R,Zl.sp (l1:=[]) (l2:=[]) R,Zl.sr (l1:=[]) (l2:=[]),R,R⟩ λav aw w35 K36 S37 f38=>⟨tv,Ob h λx22 hx22 h=>Jm1 (κ:=K36) (E:=E6) 6 [] R R R R R R R R R Y29 Tryzinfo2 R R R R (f32.stp S37 R R) (Sl.srcP (bT _) f38.rdc) bJ hx22 R λai aj w40 K41 S42 f43=>⟨tv,Jd3 R U116 R Z29 (Ji1 (κ:=K41) 5 (off:=1) (vc:=[.slice ai x22.length aj]) (cs':=[vi p2,.slice ai x22.length aj]) R R R R R R R Z29 R R (f33.stp (S37.tr S42) R R) R R λw45 S46 f47=>⟨tv,Jo (Jz (Jp (Jf3 R ?_)))⟩)⟩⟩))))))))))))
 have hw21:hV .i64 (v15+1)=v15+1:=wr1 hj21 (Jm2 hc21) hN21
 rw[hw21]
 have hc21:=Jm2 hc21
 cases h
 exact Jz1 λa ha=>⟨k,_,Ja3 _,⟨K41,v15+1,(x22:(List Int)),ai,aj,R,(S31.tr (S37.tr (S42.tr S46))).wk R,(f43.stp S46 R R),f47,by omega,by omega,hk34⟩,(ha.mm R)⟩
 rintro _ w24 ⟨K25,s3,aa,ac,rfl,S26,f27,f28,rfl⟩
 have h:=hK22
 dsimp only[aft]at h
 refine Jp (Je [1,1,2,2,1,2,2,2,1,2,2] R (Jl tv R R R R (Jd2 (cs:=[.slice af p0.Owner.length ak,.slice ah p0.Next.length ae]) I104 Z104 R R R (haE (f4.stp (S7.tr (S11.tr (S15.tr (S18.tr S26)))) R R).cells)) (Jl tv R R R R (Jd2 (cs:=[vi p2,.slice aa s3.length ac]) I116 Z116 R R R (haE f28.cells)) (Jf R (ip (first:=[]) (captured:=[.tmp 4]) R R R ⟨_,R⟩) (Jf R (ip (first:=[]) (captured:=[.tmp 4]) R R R ⟨_,R⟩) ?_)))))
 obtain⟨K50,S51,z52⟩:=dL K25 w24 6
 obtain⟨K55,S56,z57⟩:=dL K50 w24 3
 have S001:=(S3.tr (S7.tr (S11.tr (S15.tr (S18.tr (S26.tr (S51.tr S56)))))))
 refine Ob h λx29 hx29 h=>Jh R R R C136 (dJ (κ:=λb=>mp [] 1 (K55 b)) (p0:=p0) (p1:=(⟨p2,s3⟩:Place)) (Jl2 (g0_0.stp S001 R R) (mp [] 1) R R) (Jl2 (g0_1.stp S001 R R) (mp [] 1) R R) (Jl2 ((Sl.st z52 f27.rdc).stp S56 R R) (mp [] 1) R R) (Jl2 (g1.stp S001 R R) (mp [] 1) R R) ((Bc.fzz z57 (f20.stp (S26.tr S51) R R)).map (mp [] 1) R R) hx29) ?_
 rintro _ w63 ⟨k64,aq,am,ap,an,al,ao,ar,au,rfl,e65,f66,f67,f68,f69⟩
 obtain⟨K70,S71,m72,z73⟩:=Jj e65 7 R
 refine⟨tv,Jn 3 R (Jj1 (κ:=K70) 4 (vc:=[.slice aq x29.1.Arena.Owner.length am,.slice ap x29.1.Arena.Next.length an,.slice al x29.1.Prio.length ao]) R R R R R R R Z108 R R (f12.stp (S15.tr (S18.tr (S26.tr (S51.tr (S56.tr S71))))) R R) R λw79 S80 f81=>⟨tv,Jb 2 R (Ju (Ja2 (l:=[.cell 6 108,.tmp 7,.tmp 8]) V79 (bL R f81 I108 Z108 R (Jp2 R (Jp2 R R))) R ?_))⟩)⟩
 cases h
 exact⟨(λb=>ren [(9,2),(10,3),(11,4),(12,5)] (K70 b)),aq,am,ap,an,al,ao,ar,au,R,((hE.stp (S3.tr (S7.tr (S11.tr (S15.tr (S18.tr (S26.tr (S51.tr (S56.tr (S71.tr S80))))))))) R R).map (ren [(9,2),(10,3),(11,4),(12,5)]) R R),(((f66.mx (bH _) m72 R (R:7+2=9)).stp S80 R R).map (ren [(9,2),(10,3),(11,4),(12,5)]) R R),(((f67.mxz z73 m72 R (R:7+3=10)).stp S80 R R).map (ren [(9,2),(10,3),(11,4),(12,5)]) R R),(((f68.mx (bH _) m72 R (R:7+4=11)).stp S80 R R).map (ren [(9,2),(10,3),(11,4),(12,5)]) R R),(((f69.mxz z73 m72 R (R:7+5=12)).stp S80 R R).map (ren [(9,2),(10,3),(11,4),(12,5)]) R R)⟩
theorem qE {w:World}{κ:Col}{aa ad ac ab af ae}{p0:Parity}(g0_0_0:Rd (Rp.int .i64) κ w 0 aa ad p0.Arena.Owner) (g0_0_1:Rd (Rp.sl (Rp.int .i64)) κ w 0 ac ab p0.Arena.Next) (g0_1:Rd (Rp.int .i64) κ w 0 af ae p0.Prio){r:Answer}(h:jT p0=some r):Ret Tryz.prog 90 [.agg #[.slice aa p0.Arena.Owner.length ad,.slice ac p0.Arena.Next.length ab,.slice af p0.Prio.length ae]] w (λv w'=>∃(κ':Col) (ra0:Option Addr) (ru0:Nat) (ra1:Option Addr) (ru1:Nat),v= .agg #[.slice ra0 r.Won.length ru0,.slice ra1 r.Plan.length ru1]/\Ent κ w κ' w'/\Oc E6 2 κ' w' 2 ra0 ru0 r.Won/\Oc E6 2 κ' w' 3 ra1 ru1 r.Plan):=by
 unfold jT at h
 refine Ret.enter F90 R N90 R ?_
 dsimp only[envOf]
 have hE:=Ent.refl κ w
 refine Je [1,1] R (Jf1 (κ:=κ) 2 R R R R R R R λb1 w1 K2 S3 f4=>⟨tv,Jg1 (κ:=K2) 3 R R R R R X113 R λb2 w5 K6 S7 f8=>⟨tv,Jd (Jq (Je [1,1,2] R ?_))⟩⟩)
 have f9:=f4.stp S7 R R
 refine Jl tv R R R R (Jd2 (cs:=[.slice aa p0.Arena.Owner.length ad,.slice ac p0.Arena.Next.length ab,.slice af p0.Prio.length ae]) I108 Z108 R R R (haE f9.cells)) (Ob h λx4 hx4 h=>?_)
 have f10:=g0_0_0.stp (S3.tr S7) R R
 have f11:=g0_0_1.stp (S3.tr S7) R R
 have f12:=g0_1.stp (S3.tr S7) R R
 refine Jh R R R C147 (oE (κ:=Mk K6) (p0:=p0) (Ji3 f10) (Ji3 f11) (Ji3 f12) hx4) ?_
 rintro _ w13 ⟨k14,rfl,e15⟩
 obtain⟨K16,S17,m18⟩:=Ji e15 4 R
 refine⟨tv,Jb 1 R ?_⟩
 revert h
 cases ht20:(!x4)
 refine JF λh=>Jy R (Js (Jp (Jq (Js1 (κ:=K16) [2] none [(1,2),(0,0),(2,0),(4,0),(3,1),(5,1),(6,1),(7,1)] [] (by kernel_rfl) (by kernel_rfl) λw27 S26=>Jd3 R U108 R Z104 ?_))))
 have f28:=f9.stp (S17.tr S26) R R
 refine Jg R (Jd2 (cs:=[.slice aa p0.Arena.Owner.length ad,.slice ac p0.Arena.Next.length ab,.slice af p0.Prio.length ae]) I108 Z108 R R R (haC f28.cells R)) (Jg R (Jd2 (cs:=[.slice aa p0.Arena.Owner.length ad,.slice ac p0.Arena.Next.length ab]) I104 Z104 R R R (haC (f28.lds 0 2 R) R)) (Jg R (Jd2 (cs:=[.slice aa p0.Arena.Owner.length ad,.slice ac p0.Arena.Next.length ab,.slice af p0.Prio.length ae]) I108 Z108 R R R (haC f28.cells R)) (Ob h λx10 hx10 h=>?_)))
 have f29:=f10.stp (S17.tr S26) R R
 have f30:=f11.stp (S17.tr S26) R R
 refine Jh R R R C149 (qB (κ:=Mk K16) (p0:=p0.Arena) (Ji3 f29) (Ji3 f30) hx10) ?_
 rintro _ w31 ⟨k32,an,am,rfl,e33,f34⟩
 obtain⟨K35,S36,m37⟩:=Ji e33 6 R
 refine⟨(S36.cl R),Ob h λx12 hx12 h=>?_⟩
 have f40:=f29.stp S36 R R
 have f41:=f30.stp S36 R R
 have f42:=f12.stp (S17.tr (S26.tr S36)) R R
 refine Jh R R R C80 (mr (κ:=Mk K35) (p0:=p0) (Ji3 f40) (Ji3 f41) (Ji3 f42) hx12) ?_
 rintro _ w43 ⟨k44,ao,al,rfl,e45,f46⟩
 obtain⟨K47,S48,m49⟩:=Ji e45 9 R
 refine⟨((S36.tr S48).cl R),Ob h λx13 hx13 h=>Jh R R R C148 (oN (κ:=Mk K47) (p0:=p0) (Ji3 (f40.stp S48 R R)) (Ji3 (f41.stp S48 R R)) (Ji3 (f42.stp S48 R R)) (Ji3 ((f34.mx (bH _) m37 R (R:6+2=8)).stp S48 R R).rdc) (Ji3 (f46.mx (bH _) m49 R (R:9+2=11)).rdc) hx13) ?_⟩
 rintro _ w56 ⟨k57,aj,ai,ah,ak,rfl,e58,f59,f60⟩
 obtain⟨K61,S62,m63⟩:=Ji e58 12 R
 refine⟨((S36.tr (S48.tr S62)).cl R),Jj1 (κ:=K61) 3 (vc:=[.slice aj x13.Won.length ai,.slice ah x13.Plan.length ak]) R R R R R R R Z113 R R (f8.stp (S17.tr (S26.tr (S36.tr (S48.tr S62)))) R R) R λw68 S69 f70=>⟨((S36.tr (S48.tr (S62.tr S69))).cl R),Jt1 (Jd (Ju (Ja2 (l:=[.cell 2 113]) V90 (bL R f70 I113 Z113 R R) R ?_)))⟩⟩
 cases h
 exact⟨(λb=>ren [(14,2),(15,3)] (K61 b)),aj,ai,ah,ak,R,((hE.stp (S3.tr (S7.tr (S17.tr (S26.tr (S36.tr (S48.tr (S62.tr S69))))))) R R).map (ren [(14,2),(15,3)]) R R),(((f59.mx (bH _) m63 R (R:12+2=14)).stp S69 R R).map (ren [(14,2),(15,3)]) R R),(((f60.mx (bH _) m63 R (R:12+3=15)).stp S69 R R).map (ren [(14,2),(15,3)]) R R)⟩
 refine JT λh=>Jx R (Je [2,1] R (Jf R (bI (parts:=[]) (cells:=[.slice none 0 0,.slice none 0 0]) R R (by kernel_rfl)) (Jj1 (κ:=K16) 3 (vc:=[.slice none 0 0,.slice none 0 0]) R R R R R R R Z113 R R (f8.stp S17 R R) R λw22 S23 f24=>⟨tv,Jd (Ju (Jw (Ja2 (l:=[.cell 2 113]) V90 (bL R f24 I113 Z113 R R) R ?_)))⟩)))
 cases h
 exact⟨K16,none,0,none,0,R,(hE.stp (S3.tr (S7.tr (S17.tr S23))) R R),Ow.nil,Ow.nil⟩
end Go.Proofs.YtpcjbkgbnoocaaaGreat
