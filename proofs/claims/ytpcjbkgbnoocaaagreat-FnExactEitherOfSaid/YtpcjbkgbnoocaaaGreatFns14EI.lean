/- The walks, part 14. By program. -/
import Derived.Test.YtpcjbkgbnoocaaaGreatFns11EI
import Derived.Test.YtpcjbkgbnoocaaaGreatFns12EI
set_option linter.unusedVariables false
set_option linter.unusedSimpArgs false
open Go.IntKind renaming wrap → t5
open Sum renaming inr → t9
namespace Go.Proofs.YtpcjbkgbnoocaaaGreat
open Go Go.Wk Go.Proofs
set_option maxRecDepth 100000
set_option maxHeartbeats 1000000
theorem kw {w:World}{κ:Col}{p0:Sig}{ad aa ab ac}{p1:Det}(g1_0:Rd (Rp.sl (Rp.int .i64)) κ w 0 ad aa p1.Next) (g1_1:Rd Pair.rp κ w 0 ab ac p1.Pairs){r:Bool}(h:gt p0 p1=some r):Ret Tryz.prog 117 [.agg #[vi p0.In,vi p0.Out],.agg #[.slice ad p1.Next.length aa,.slice ab p1.Pairs.length ac]] w (λv w'=>∃(κ':Col),v= .bool r/\Ent κ w κ' w'):=by
 unfold gt at h
 refine Ret.enter F117 R N117 R ?_
 dsimp only[envOf]
 have hE:=Ent.refl κ w
 refine Je [1,1,2] R (Jf1 (κ:=κ) 2 R R R R R R R λb2 w1 K2 S3 f4=>⟨tv,Jf1 (κ:=K2) 3 R R R R R R R λb3 w5 K6 S7 f8=>⟨tv,Jb 1 R (Je [2,1,2,2] R (Jd3 R U100 R Z26 (Jb3 R I26 (f8.ld 0 R R) (Jf R (Je2 U26 R R) (Jb 1 R (Jq (Je [1,1,2,2,2,1,2,2] R ?_)))))))⟩⟩)
 have f9:=f4.stp S7 R R
 refine Jl tv R R R R (Jd2 (cs:=[vi p0.In,vi p0.Out]) I25 Z25 R R R (haE f9.cells)) (Ob h λx11 hx11 h=>Jh R R R C102 (jf (κ:=Mk K6) (p0:=p0) hx11) ?_)
 rintro _ w10 ⟨k11,rfl,e12⟩
 obtain⟨K13,S14,m15⟩:=Ji e12 4 R
 refine⟨tv,Jn 2 R (Ob h λp17 h hK17=>Ju1 [(4,2),(5,1),(6,2),(7,2)] [] (λL w'=>L=[(2,.pointer (some ⟨b2,0,none⟩)),(3,.pointer (some ⟨b3,0,none⟩)),(5,vi (p1.Next.length:Int)),(17,.bool p17)]/\∃κ',Stp [] K13 w10 κ' w') tv ?_ ?_)⟩
 revert h
 cases ht18:(!x11)
 refine JF λh=>Jn 1 R (Ob h λx15 hx15 h=>Jh R R R C57 (cO (κ:=Mk K13) hx15) ?_)
 rintro _ w19 ⟨k20,rfl,e21⟩
 obtain⟨K22,S23,m24⟩:=Ji e21 6 R
 refine⟨tv,Jn 2 R ?_⟩
 cases h
 exact Jv1 _ tv ⟨R,_,S23.wk R⟩ (KM R)
 refine JT λh=>Jn 1 R (Jd1 R R R R (Jn 2 R ?_))
 cases h
 exact Jv1 _ tv ⟨R,_,Jj3⟩ (KM R)
 rintro _ w26 _ ⟨rfl,K27,S28⟩
 have h:=hK17
 refine Jd ?_
 revert h
 cases ht29:p17
 refine JF λh=>Jy R (Js (Jp (Jq (Je3 R ?_))))
 have hN31:(p1.Next.length:Int)<=9223372036854775807:=g1_0.len_le
 refine Ob h λq2 hq33 hK32=>?_
 clear h
 refine Jx1 (λL w'=>∃κ',L=[(3,.pointer (some ⟨b3,0,none⟩)),(5,vi (p1.Next.length:Int))]/\Stp [] K27 w26 κ' w'/\q2=t9 ()) ?_ ?_
 refine Jv (Jy1 (λk L w'=>∃κ' v6,L=[(2,.pointer (some ⟨b2,0,none⟩)),(3,.pointer (some ⟨b3,0,none⟩)),(5,vi (p1.Next.length:Int)),(6,vi v6)]/\Stp [] K27 w26 κ' w'/\0<=v6/\Int.toNat ((p1.Next.length:Int)-v6)=k/\cntM (jE p0 p1) k v6 ()=some q2) ⟨_,_,⟨K27,0,R,Jj3,(by decide),(by simp),hq33⟩,(KM R)⟩ ?_)
 rintro k _ w37 ⟨K38,v6,rfl,S39,hj31,hJ31,h⟩
 rcases k with _ | k
 have hk40:=h;obtain⟨o31,h⟩:=bO (t9 (Sum.inl ()):Bool⊕((Unit)⊕(Unit)))
 have hc31:decide (v6<(p1.Next.length:Int))=false:=Jo2 (by omega)
 refine Jq (Jg3 [2,2,1,2,2] 1 R (Jd3 R U100 R Z26 (Jb3 R I26 ((f8.stp (S14.tr (S28.tr S39)) R R).ld 0 R R) (Jf R (Je2 U26 R R) (Jb 1 R (Jw2 R hc31 (Jc1 (Jt (Jt ?_)))))))))
 cases h
 have h:=hk40
 refine Jb1 ?_
 cases h
 exact Jw1 _ ⟨K38,R,S39.wk R,R⟩ (KM R)
 obtain⟨o31,h,hk40⟩:=BI h;unfold jE at h
 have hc31:decide (v6<(p1.Next.length:Int))=true:=Jn2 (by omega)
 refine Jq (Jg3 [2,2,1,2,2] 1 R (Jd3 R U100 R Z26 ?_))
 have f42:=f8.stp (S14.tr (S28.tr S39)) R R
 refine Jb3 R I26 (f42.ld 0 R R) (Jf R (Je2 U26 R R) (Jb 1 R (Jv2 R hc31 (Js (Jp (Jq (Jv (Jq (Js1 (κ:=K38) [0,2,3] none [(0,2),(2,2),(1,0),(3,2),(4,0),(5,2),(6,0),(7,1),(8,2),(9,2),(10,2),(12,2),(15,2),(11,0),(13,2),(14,0),(16,1),(17,2),(18,2)] [] (by kernel_rfl) (by kernel_rfl) λw44 S43=>Jd3 R U100 R Z26 (Jn 1 R ?_))))))))))
 have f45:=f42.stp S43 R R
 refine Jg R (Jc2 I26 R R (hvC (f45.ld 0 R R) R)) (Ob h λx28 hx28 h=>Jc3 R g1_0 hx28 U26 Z29 ?_)
 have f46:=g1_0.stp (S3.tr (S7.tr (S14.tr (S28.tr (S39.tr S43))))) R R
 obtain⟨ax28,ux28,f47,hl48⟩:=f46.gSl hx28
 refine Jg R (Jc2 I29 R R (hvC hl48 R)) (Jf R (Je2 U29 R R) (Jg R (Jd2 (cs:=[vi p0.In,vi p0.Out]) I25 Z25 R R R (haC (f9.stp (S14.tr (S28.tr (S39.tr S43))) R R).cells R)) (Ob h λx32 hx32 h=>Jh R R R C58 (eI (κ:=Mk K38) (p0:=p0) hx32) ?_)))
 rintro _ w50 ⟨k51,rfl,e52⟩
 obtain⟨K53,S54,m55⟩:=Ji e52 6 R
 refine⟨(S54.cl R),Jn 2 R (Ob h λp43 h hK57=>Ju1 [(10,2),(12,2),(15,2),(11,0),(13,2),(14,0),(16,1),(17,2),(18,2)] [] (λL w'=>L=[(2,.pointer (some ⟨b2,0,none⟩)),(3,.pointer (some ⟨b3,0,none⟩)),(5,vi (p1.Next.length:Int)),(6,vi v6),(43,.bool p43)]/\∃κ',Stp [] K53 w50 κ' w') (S54.cl R) ?_ ?_)⟩
 revert h
 cases ht58:((x28.length:Int) !=x32)
 refine JF λh=>Jd3 R U100 R Z26 (Jn 2 R (Jg R (Jc2 I26 R R (hvC (f45.ld 0 R R) R)) (Ob h λx38 hx38 h=>Jc3 R f46 hx38 U26 Z29 ?_)))
 obtain⟨ax38,ux38,f59,hl60⟩:=f46.gSl hx38
 refine Jg R (Jc2 I29 R R (hvC hl60 R)) (Ob h λx41 hx41 h=>Jh R R R C104 (o6 (κ:=Mk K53) (Ji3 (f59.stp S54 R R)) hx41) ?_)
 rintro _ w62 ⟨k63,rfl,e64⟩
 obtain⟨K65,S66,m67⟩:=Ji e64 8 R
 refine⟨((S54.tr S66).cl R),Jn 2 R ?_⟩
 cases h
 exact Jv1 _ ((S54.tr S66).cl R) ⟨R,_,S66.wk R⟩ (KM R)
 refine JT λh=>Jn 3 R (Je1 R R R R (Jn 1 R (Je1 R R R R (Jd1 R R R R (Jn 2 R ?_)))))
 cases h
 exact Jv1 _ (S54.cl R) ⟨R,_,Jj3⟩ (KM R)
 rintro _ w69 _ ⟨rfl,K70,S71⟩
 have h:=hK57
 refine Jt1 (Jd ?_)
 revert h
 cases ht72:p43
 refine JF λh=>Jy R (Js (Jz (Jp (Jf3 R ?_))))
 have hw31:t5 .i64 (v6+1)=v6+1:=wr1 hj31 (Jm2 hc31) hN31
 rw[hw31]
 have hc31:=Jm2 hc31
 cases h
 exact Jz1 λa ha=>⟨k,_,Ja3 _,⟨K70,v6+1,R,(S39.tr (S43.tr (S54.tr S71))).wk R,by omega,by omega,hk40⟩,(ha.mm R)⟩
 refine JT λh=>Jx R (Je3 R (Ju (Ja1 (Jw (Jw ?_)))))
 cases h
 obtain rfl:=Option.some.inj hk40
 have h:=hK32
 dsimp only[aft]at h
 refine Ja1 (Jq2 (Jw (Ja2 (l:=[.tmp 4]) V117 (Jp2 R R) R ?_)))
 cases h
 exact⟨K70,R,(hE.stp (S3.tr (S7.tr (S14.tr (S28.tr (S39.tr (S43.tr (S54.tr S71))))))) R R)⟩
 rintro _ w34 ⟨K35,rfl,S36,rfl⟩
 have h:=hK32
 dsimp only[aft]at h
 refine Jp (Je [2,1,2,1,2] R (Jd3 R U100 R Z98 (Jb3 R I98 ((f8.stp (S14.tr (S28.tr S36)) R R).ld 1 R R) (Jn 1 R (Ob h λx47 hx47 h=>Jh R R R C120 (mM (κ:=Mk K35) (Ji3 (g1_1.stp (S3.tr (S7.tr (S14.tr (S28.tr S36)))) R R)) hx47) ?_)))))
 rintro _ w76 ⟨k77,rfl,e78⟩
 obtain⟨K79,S80,m81⟩:=Ji e78 6 R
 refine⟨tv,Jb 1 R (Ju (Ja2 (l:=[.tmp 4]) V117 (Jp2 R R) R ?_))⟩
 cases h
 exact⟨K79,R,(hE.stp (S3.tr (S7.tr (S14.tr (S28.tr (S36.tr S80))))) R R)⟩
 refine JT λh=>Jx R (Je3 R (Ju (Jw (Ja2 (l:=[.tmp 4]) V117 (Jp2 R R) R ?_))))
 cases h
 exact⟨K27,R,(hE.stp (S3.tr (S7.tr (S14.tr S28))) R R)⟩
theorem rO {w:World}{κ:Col}{an ak am aj aw ar}{p0:Parity}{a1 u1}{p1:(List Int)}(g0_0_0:Rd (Rp.int .i64) κ w 0 an ak p0.Arena.Owner) (g0_0_1:Rd (Rp.sl (Rp.int .i64)) κ w 0 am aj p0.Arena.Next) (g0_1:Rd (Rp.int .i64) κ w 0 aw ar p0.Prio) (g1:Rd (Rp.int .i64) κ w 0 a1 u1 p1){r:(List Int)×(List Int)}(h:mR p0 p1=some r):Ret Tryz.prog 198 [.agg #[.slice an p0.Arena.Owner.length ak,.slice am p0.Arena.Next.length aj,.slice aw p0.Prio.length ar],.slice a1 p1.length u1] w (λv w'=>∃(κ':Col) (ra0:Option Addr) (ru0:Nat) (ra1:Option Addr) (ru1:Nat),v= .tuple #[.slice ra0 r.1.length ru0,.slice ra1 r.2.length ru1]/\Ent κ w κ' w'/\Oc E6 2 κ' w' 2 ra0 ru0 r.1/\Oc E6 2 κ' w' 3 ra1 ru1 r.2):=by
 unfold mR at h
 refine Ret.enter F198 R N198 R ?_
 dsimp only[envOf]
 have hE:=Ent.refl κ w
 refine Je [1,2,2] R (Jf1 (κ:=κ) 2 R R R R R R R λb2 w1 K2 S3 f4=>⟨tv,Jb 2 R (Je [1,2] R (Jo1 (κ:=K2) (E:=E6) 3 R R R R R Y29 Tryzinfo2 R λac aa w5 K6 S7 f8=>⟨tv,Jb 1 R (Je [1,2] R (Jo1 (κ:=K6) (E:=E6) 4 R R R R R Y29 Tryzinfo2 R λad ab w9 K10 S11 f12=>⟨tv,Jb 1 R (Jq (Je [1,1,2,2,2,2,1,2,1,2,2] R ?_))⟩))⟩))⟩)
 have f13:=f4.stp (S7.tr S11) R R
 refine Jl tv R R R R (Jd2 (cs:=[.slice an p0.Arena.Owner.length ak,.slice am p0.Arena.Next.length aj,.slice aw p0.Prio.length ar]) I108 Z108 R R R (haE f13.cells)) (Ob h λx16 hx16 h=>?_)
 have f14:=g0_0_0.stp (S3.tr (S7.tr S11)) R R
 have f15:=g0_0_1.stp (S3.tr (S7.tr S11)) R R
 have f16:=g0_1.stp (S3.tr (S7.tr S11)) R R
 refine Jh R R R C125 (jT (κ:=Mk K10) (p0:=p0) (Ji3 f14) (Ji3 f15) (Ji3 f16) hx16) ?_
 rintro _ w17 ⟨k18,rfl,e19⟩
 obtain⟨K20,S21,m22⟩:=Ji e19 5 R
 refine⟨tv,Jn 2 R (Ob h λp25 h hK24=>Ju1 [(4,2),(5,2),(6,1),(7,2),(8,1),(9,2),(10,2)] [] (λL w'=>L=[(1,.slice a1 p1.length u1),(2,.pointer (some ⟨b2,0,none⟩)),(6,.slice ac ([]:List Int).length aa),(7,.slice ad ([]:List Int).length ab),(25,.bool p25)]/\∃κ',Stp [] K20 w17 κ' w') tv ?_ ?_)⟩
 revert h
 cases ht25:(!x16)
 refine JF λh=>Jn 1 R (Jd3 R U108 R Z29 (Jb3 R I29 ((f13.stp S21 R R).ld 2 R R) (Jf R (Je2 U29 R R) (Ob h λx23 hx23 h=>Jh R R R C170 (ml (κ:=Mk K20) (Ji3 (g1.stp (S3.tr (S7.tr (S11.tr S21))) R R)) hx23) ?_))))
 rintro _ w28 ⟨k29,rfl,e30⟩
 obtain⟨K31,S32,m33⟩:=Ji e30 7 R
 refine⟨tv,Jn 2 R ?_⟩
 cases h
 exact Jv1 _ tv ⟨R,_,S32.wk R⟩ (KM R)
 refine JT λh=>Jn 2 R (Jd1 R R R R (Jn 1 R (Jd1 R R R R (Jn 2 R ?_))))
 cases h
 exact Jv1 _ tv ⟨R,_,Jj3⟩ (KM R)
 rintro _ w35 _ ⟨rfl,K36,S37⟩
 have h:=hK24
 refine Jd ?_
 revert h
 cases ht38:p25
 refine JF λh=>Jy R (Js (Jp (Je [1,1,1,1] R ?_)))
 have f42:=f13.stp (S21.tr S37) R R
 refine Jl tv R R R R (Jd2 (cs:=[.slice an p0.Arena.Owner.length ak,.slice am p0.Arena.Next.length aj,.slice aw p0.Prio.length ar]) I108 Z108 R R R (haE f42.cells)) (Ob h λx29 hx29 h=>Jh R R R C175 (ni (κ:=λb=>mp [] 1 (K36 b)) (p0:=p0) (Jl2 (f14.stp (S21.tr S37) R R) (mp [] 1) R R) (Jl2 (f15.stp (S21.tr S37) R R) (mp [] 1) R R) (Jl2 (f16.stp (S21.tr S37) R R) (mp [] 1) R R) hx29) ?_)
 rintro _ w46 ⟨k47,aE,aF,aA,az,aI,aD,aH,aG,aC,aB,rfl,e48,f49,f50,f51,f52,f53⟩
 obtain⟨K54,S55,m56,z57⟩:=Jj e48 7 R
 refine⟨tv,?_⟩
 have f58:=f49.mx z57
 have f59:=f50.mx z57
 have f60:=f51.mx z57
 have f61:=f52.mx (co (bH _) _) m56 R (R:7+5=12)
 have f62:=f53.mx (bH _) m56 R (R:7+6=13)
 refine Jg1 (κ:=K54) 14 R R R R R X191 R λb8 w63 K64 S65 f66=>⟨tv,Jj1 (κ:=K64) 14 (vc:=[.slice aE x29.owner.length aF,.slice aA x29.prio.length az,.slice aI x29.next.length aD,.slice aH x29.prev.length aG,.slice aC x29.pick.length aB]) R R R R R R R Z191 R R f66 R λw67 S68 f69=>⟨tv,Jd (Je [2,1,2,2,1,2] R (Jd3 R U108 R Z29 (Jb3 R I29 ((f42.stp (S55.tr (S65.tr S68)) R R).ld 2 R R) (Jf R (Je2 U29 R R) (Jn 1 R (Ob h λx34 hx34 h=>?_))))))⟩⟩
 have f71:=g1.stp (S3.tr (S7.tr (S11.tr (S21.tr (S37.tr (S55.tr (S65.tr S68))))))) R R
 refine Jh R R R C236 (qR (κ:=Mk K64) (Ji3 f71) hx34) ?_
 rintro _ w72 ⟨k73,aL,aJ,rfl,e74,f75⟩
 obtain⟨K76,S77,m78⟩:=Ji e74 15 R
 refine⟨tv,?_⟩
 have f80:=f75.mx cF m78 R (R:15+2=17)
 refine Jb 1 R (Jq (Je3 R ?_))
 have hN81:(p1.length:Int)<=9223372036854775807:=f71.len_le
 refine Ob h λq2 hq83 hK82=>?_
 clear h
 refine Jx1 (λL w'=>∃κ',L=[(1,.slice a1 p1.length u1),(6,.slice ac ([]:List Int).length aa),(7,.slice ad ([]:List Int).length ab),(8,.pointer (some ⟨b8,0,none⟩)),(9,.slice aL x34.length aJ)]/\Stp [] K76 w72 κ' w'/\q2=t9 ()) ?_ ?_
 refine Jv (Jy1 (λk L w'=>∃κ' v10,L=[(1,.slice a1 p1.length u1),(6,.slice ac ([]:List Int).length aa),(7,.slice ad ([]:List Int).length ab),(8,.pointer (some ⟨b8,0,none⟩)),(9,.slice aL x34.length aJ),(10,vi v10)]/\Stp [] K76 w72 κ' w'/\0<=v10/\Int.toNat ((p1.length:Int)-v10)=k/\cntM (ju p1 x29 x34) k v10 ()=some q2) ⟨_,_,⟨K76,0,R,Jj3,(by decide),(by simp),hq83⟩,(KM R)⟩ ?_)
 rintro k _ w87 ⟨K88,v10,rfl,S89,hj81,hJ81,h⟩
 rcases k with _ | k
 have hk90:=h;obtain⟨o81,h⟩:=bO (t9 (Sum.inl ()):((List Int)×(List Int))⊕((Unit)⊕(Unit)))
 have hc81:decide (v10<(p1.length:Int))=false:=Jo2 (by omega)
 refine Jq (Jg3 [2,2,2,2] 2 R (Jf R (Je2 U29 R R) (Jb 1 R (Jw2 R hc81 (Jc1 (Jt (Jt ?_)))))))
 cases h
 have h:=hk90
 refine Jb1 ?_
 cases h
 exact Jw1 _ ⟨K88,R,S89.wk R,R⟩ (KM R)
 obtain⟨o81,h,hk90⟩:=BI h;unfold ju at h
 have hc81:decide (v10<(p1.length:Int))=true:=Jn2 (by omega)
 have S001:=(S65.tr (S68.tr (S77.tr S89)))
 refine Jq (Jg3 [2,2,2,2] 2 R (Jf R (Je2 U29 R R) (Jb 1 R (Jv2 R hc81 (Js (Jp (Jq (Jv (Jq (Js1 (κ:=K88) [0,14] none [(1,2),(2,2),(3,2),(4,2),(0,0),(5,0),(6,1),(7,2)] [] (by kernel_rfl) (by kernel_rfl) λw92 S91=>Jn 3 R (Ob h λx45 hx45 h=>Jc3 R f71 hx45 U29 Z2 (Jg R (Jd2 (cs:=[.slice aE x29.owner.length aF,.slice aA x29.prio.length az,.slice aI x29.next.length aD,.slice aH x29.prev.length aG,.slice aC x29.pick.length aB]) I191 Z191 R R R (haC (f69.stp (S77.tr (S89.tr S91)) R R).cells R)) (Jg R (Jc2 I2 R R (hvC ((f71.stp (S77.tr (S89.tr S91)) R R).gInt hx45) R)) (Ob h λx47 hx47 h=>Jh R R R C237 (me (κ:=Mk K88) (p0:=x29) (Ji3 (f58.stp (S001.tr S91) R R)) (Ji3 (f59.stp (S001.tr S91) R R)) (Ji3 (f60.stp (S001.tr S91) R R)) (Ji3 (f61.stp (S001.tr S91) R R).rdc) (Ji3 (f62.stp (S001.tr S91) R R).rdc) (Ji3 (f80.stp (S89.tr S91) R R).rdc) hx47) ?_))))))))))))))
 rintro _ w101 ⟨k102,rfl,e103⟩
 obtain⟨K104,S105,m106⟩:=Ji e103 18 R
 refine⟨(S105.cl R),Jn 1 R (Jt1 (Jd ?_))⟩
 revert h
 cases ht108:(x47==0)
 refine JF λh=>Jy R (Js (Jz (Jp (Jf3 R ?_))))
 have hw81:t5 .i64 (v10+1)=v10+1:=wr1 hj81 (Jm2 hc81) hN81
 rw[hw81]
 have hc81:=Jm2 hc81
 cases h
 exact Jz1 λa ha=>⟨k,_,Ja3 _,⟨K104,v10+1,R,(S89.tr (S91.tr S105)).wk R,by omega,by omega,hk90⟩,(ha.mm R)⟩
 refine JT λh=>Jx R (Je3 R (Ju (Ja1 (Jw (Jw ?_)))))
 cases h
 obtain rfl:=Option.some.inj hk90
 have h:=hK82
 dsimp only[aft]at h
 refine Ja1 (Jq2 (Jw (Ja2 (l:=[.tmp 4,.tmp 5]) V198 (Jp2 R (Jp2 R R)) R ?_)))
 cases h
 exact⟨(λb=>ren [(3,2),(4,3)] (K104 b)),ac,aa,ad,ab,R,((hE.stp (S3.tr (S7.tr (S11.tr (S21.tr (S37.tr (S55.tr (S65.tr (S68.tr (S77.tr (S89.tr (S91.tr S105))))))))))) R R).map (ren [(3,2),(4,3)]) R R),((f8.stp (S11.tr (S21.tr (S37.tr (S55.tr (S65.tr (S68.tr (S77.tr (S89.tr (S91.tr S105))))))))) R R).map (ren [(3,2),(4,3)]) R R),((f12.stp (S21.tr (S37.tr (S55.tr (S65.tr (S68.tr (S77.tr (S89.tr (S91.tr S105)))))))) R R).map (ren [(3,2),(4,3)]) R R)⟩
 rintro _ w84 ⟨K85,rfl,S86,rfl⟩
 have h:=hK82
 dsimp only[aft]at h
 have S002:=(S65.tr (S68.tr (S77.tr S86)))
 refine Jp (Je [1,2,1,2] R (Jl tv R R R R (Jd2 (cs:=[.slice aE x29.owner.length aF,.slice aA x29.prio.length az,.slice aI x29.next.length aD,.slice aH x29.prev.length aG,.slice aC x29.pick.length aB]) I191 Z191 R R R (haE (f69.stp (S77.tr S86) R R).cells)) (Jn 1 R (Ob h λx53 hx53 h=>Jh R R R C213 (mh _ (κ:=Mk K85) (p0:=x29) (Ji3 (f58.stp S002 R R)) (Ji3 (f59.stp S002 R R)) (Ji3 (f60.stp S002 R R)) (Ji3 (f61.stp S002 R R).rdc) (Ji3 (f62.stp S002 R R).rdc) (Ji3 (f80.stp S86 R R).rdc) hx53) ?_))))
 rintro _ w119 ⟨k120,aM,aK,rfl,e121,f122⟩
 obtain⟨K123,S124,m125⟩:=Ji e121 18 R
 refine⟨tv,?_⟩
 have f127:=f122.mx cF m125 R (R:18+2=20)
 refine Jb 1 R (Jq (Je3 R ?_))
 have hN128:(p1.length:Int)<=9223372036854775807:=f71.len_le
 refine Ob h λq5 hq130 hK129=>?_
 clear h
 refine Jx1 (λL w'=>∃κ',∃s6:(List Int)×(List Int),∃ay au aq ax,L=[(6,.slice ay s6.1.length au),(7,.slice aq s6.2.length ax)]/\Stp [3,4] K123 w119 κ' w'/\Oc E6 2 κ' w' 3 ay au s6.1/\Oc E6 2 κ' w' 4 aq ax s6.2/\q5=t9 s6) ?_ ?_
 refine Jv (Jy1 (λk L w'=>∃κ' v12,∃s4:(List Int)×(List Int),∃ai ah ae af,L=[(1,.slice a1 p1.length u1),(6,.slice ai s4.1.length ah),(7,.slice ae s4.2.length af),(11,.slice aM x53.length aK),(12,vi v12)]/\Stp [3,4] K123 w119 κ' w'/\Oc E6 2 κ' w' 3 ai ah s4.1/\Oc E6 2 κ' w' 4 ae af s4.2/\0<=v12/\Int.toNat ((p1.length:Int)-v12)=k/\cntM (iU p1 x53) k v12 s4=some q5) ⟨_,_,⟨K123,0,((([]:List Int):(List Int)),(([]:List Int):(List Int))),ac,aa,ad,ab,R,Jj3,(f8.stp (S11.tr (S21.tr (S37.tr (S55.tr (S65.tr (S68.tr (S77.tr (S86.tr S124)))))))) R R),(f12.stp (S21.tr (S37.tr (S55.tr (S65.tr (S68.tr (S77.tr (S86.tr S124))))))) R R),(by decide),(by simp),hq130⟩,(KM R)⟩ ?_)
 rintro k _ w136 ⟨K137,v12,s4,ai,ah,ae,af,rfl,S138,f139,f140,hj128,hJ128,h⟩
 rcases k with _ | k
 have hk143:=h;obtain⟨o128,h⟩:=bO (t9 (Sum.inl s4):((List Int)×(List Int))⊕(((List Int)×(List Int))⊕((List Int)×(List Int))))
 have hc128:decide (v12<(p1.length:Int))=false:=Jo2 (by omega)
 refine Jq (Jg3 [2,2,2,2] 2 R (Jf R (Je2 U29 R R) (Jb 1 R (Jw2 R hc128 (Jc1 (Jt (Jt ?_)))))))
 cases h
 have h:=hk143
 refine Jb1 ?_
 cases h
 exact Jw1 _ ⟨K137,((s4.1:(List Int)),(s4.2:(List Int))),ai,ah,ae,af,R,S138.wk R,f139,f140,R⟩ (KM R)
 obtain⟨o128,h,hk143⟩:=BI h;unfold iU at h
 have hc128:decide (v12<(p1.length:Int))=true:=Jn2 (by omega)
 refine Jq (Jg3 [2,2,2,2] 2 R (Jf R (Je2 U29 R R) (Jb 1 R (Jv2 R hc128 (Js (Jp (Jq (Jv (Jg3 [2,2,2,2,1,2,1] 3 R (Ob h λx63 hx63 h=>Jc3 R f71 hx63 U29 Z2 ?_))))))))))
 have f144:=f71.stp (S77.tr (S86.tr (S124.tr S138))) R R
 refine Jb3 R I2 (f144.gInt hx63) (Ob h λx65 hx65 h=>Jc3 R f127.rdc hx65 U193 Z4 (Jb3 R I4 ((f127.stp S138 R R).rdc.gBool hx65) (Jd (Ob h λq7 h hK146=>Jx1 (λL w'=>∃κ' ao al ap av,L=[(1,.slice a1 p1.length u1),(6,.slice ao q7.1.length al),(7,.slice ap q7.2.length av),(11,.slice aM x53.length aK),(12,vi v12)]/\Stp [3,4] K137 w136 κ' w'/\Oc E6 2 κ' w' 3 ao al q7.1/\Oc E6 2 κ' w' 4 ap av q7.2) ?_ ?_))))
 revert h
 cases ht152:x65
 refine JF λh=>Jy R (Jh3 [2,2,2,2,1,1,1,2] 3 R (Ob h λx77 hx77 h=>Jc3 R f144 hx77 U29 Z2 (Jb3 R I2 (f144.gInt hx77) (Jn1 (κ:=K137) (E:=E6) 21 [] (parts:=[(0,.tmp 78)]) (cells:=[vi x77]) (xs:=([x77]:List Int)) R R R R R R Y29 Tryzinfo2 R R R R R R R R R R ⟨[vi x77],[],Zl K137 w136 [],Zl K137 w136 [],R,Zl.sp (l1:=[]) (l2:=[]) R,Zl.sr (l1:=[]) (l2:=[]),R,R⟩ λaR aS w163 K164 S165 f166=>⟨tv,Ob h λx80 hx80 h=>Jm1 (κ:=K164) (E:=E6) 4 [] R R R R R R R R R Y29 Tryzinfo2 R R R R (f140.stp S165 R R) (Sl.srcP (bR _) f166.rdc) bJ hx80 R λaP aO w168 K169 S170 f171=>⟨tv,Jc 1 R ?_⟩⟩))))
 cases h
 exact Jw1 _ ⟨K169,ai,ah,aP,aO,R,(S165.tr S170).wk R,(f139.stp (S165.tr S170) R R),f171⟩ (KM R)
 refine JT λh=>Jx R (Jh3 [2,2,2,2,1,1,1,2] 3 R (Ob h λx70 hx70 h=>Jc3 R f144 hx70 U29 Z2 (Jb3 R I2 (f144.gInt hx70) (Jn1 (κ:=K137) (E:=E6) 21 [] (parts:=[(0,.tmp 71)]) (cells:=[vi x70]) (xs:=([x70]:List Int)) R R R R R R Y29 Tryzinfo2 R R R R R R R R R R ⟨[vi x70],[],Zl K137 w136 [],Zl K137 w136 [],R,Zl.sp (l1:=[]) (l2:=[]) R,Zl.sr (l1:=[]) (l2:=[]),R,R⟩ λaU aT w153 K154 S155 f156=>⟨tv,Ob h λx73 hx73 h=>Jm1 (κ:=K154) (E:=E6) 3 [] R R R R R R R R R Y29 Tryzinfo2 R R R R (f139.stp S155 R R) (Sl.srcP (bR _) f156.rdc) bJ hx73 R λaN aQ w158 K159 S160 f161=>⟨tv,Jc 1 R ?_⟩⟩))))
 cases h
 exact Jw1 _ ⟨K159,aN,aQ,ae,af,R,(S155.tr S160).wk R,f161,(f140.stp (S155.tr S160) R R)⟩ (KM R)
 rintro _ w147 ⟨K148,ao,al,ap,av,rfl,S149,f150,f151⟩
 have h:=hK146
 refine Jz (Jp (Jf3 R ?_))
 have hw128:t5 .i64 (v12+1)=v12+1:=wr1 hj128 (Jm2 hc128) hN128
 rw[hw128]
 have hc128:=Jm2 hc128
 cases h
 exact Jz1 λa ha=>⟨k,_,Ja3 _,⟨K148,v12+1,((q7.1:(List Int)),(q7.2:(List Int))),ao,al,ap,av,R,(S138.tr S149).wk R,f150,f151,by omega,by omega,hk143⟩,(ha.mm R)⟩
 rintro _ w131 ⟨K132,s6,ay,au,aq,ax,rfl,S133,f134,f135,rfl⟩
 have h:=hK129
 dsimp only[aft]at h
 refine Jp (Je3 R (Ju (Ja2 (l:=[.tmp 4,.tmp 5]) V198 (Jp2 R (Jp2 R R)) R ?_)))
 cases h
 exact⟨(λb=>ren [(3,2),(4,3)] (K132 b)),ay,au,aq,ax,R,((hE.stp (S3.tr (S7.tr (S11.tr (S21.tr (S37.tr (S55.tr (S65.tr (S68.tr (S77.tr (S86.tr (S124.tr S133))))))))))) R R).map (ren [(3,2),(4,3)]) R R),(f134.map (ren [(3,2),(4,3)]) R R),(f135.map (ren [(3,2),(4,3)]) R R)⟩
 refine JT λh=>Jx R (Je3 R (Ju (Jw (Ja2 (l:=[.tmp 4,.tmp 5]) V198 (Jp2 R (Jp2 R R)) R ?_))))
 cases h
 exact⟨(λb=>ren [(3,2),(4,3)] (K36 b)),ac,aa,ad,ab,R,((hE.stp (S3.tr (S7.tr (S11.tr (S21.tr S37)))) R R).map (ren [(3,2),(4,3)]) R R),((f8.stp (S11.tr (S21.tr S37)) R R).map (ren [(3,2),(4,3)]) R R),((f12.stp (S21.tr S37) R R).map (ren [(3,2),(4,3)]) R R)⟩
theorem qK {w:World}{κ:Col}{ar ao aq an ax av}{p0:Parity}{a1 u1}{p1:(List Int)}(g0_0_0:Rd (Rp.int .i64) κ w 0 ar ao p0.Arena.Owner) (g0_0_1:Rd (Rp.sl (Rp.int .i64)) κ w 0 aq an p0.Arena.Next) (g0_1:Rd (Rp.int .i64) κ w 0 ax av p0.Prio) (g1:Rd (Rp.int .i64) κ w 0 a1 u1 p1){r:Parity×Bool}(h:kS p0 p1=some r):Ret Tryz.prog 211 [.agg #[.slice ar p0.Arena.Owner.length ao,.slice aq p0.Arena.Next.length an,.slice ax p0.Prio.length av],.slice a1 p1.length u1] w (λv w'=>∃(κ':Col) (ra0:Option Addr) (ru0:Nat) (ra1:Option Addr) (ru1:Nat) (ra2:Option Addr) (ru2:Nat),v= .tuple #[.agg #[.slice ra0 r.1.Arena.Owner.length ru0,.slice ra1 r.1.Arena.Next.length ru1,.slice ra2 r.1.Prio.length ru2],.bool r.2]/\Ent κ w κ' w'/\Oc E6 2 κ' w' 2 ra0 ru0 r.1.Arena.Owner/\Oc (Ep.own E6 2) 29 κ' w' 3 ra1 ru1 r.1.Arena.Next/\Oc E6 2 κ' w' 4 ra2 ru2 r.1.Prio):=by
 unfold kS at h
 refine Ret.enter F211 R N211 R ?_
 dsimp only[envOf]
 have hE:=Ent.refl κ w
 refine Je [1,1,2] R (Jf1 (κ:=κ) 2 R R R R R R R λb2 w1 K2 S3 f4=>⟨tv,Jg1 (κ:=K2) 3 R R R R R X108 R λb4 w5 K6 S7 f8=>⟨tv,Jb 1 R (Jq (Je [1,1,2,2,1,2,1,2,2] R ?_))⟩⟩)
 have f9:=f4.stp S7 R R
 refine Jl tv R R R R (Jd2 (cs:=[.slice ar p0.Arena.Owner.length ao,.slice aq p0.Arena.Next.length an,.slice ax p0.Prio.length av]) I108 Z108 R R R (haE f9.cells)) (Ob h λx10 hx10 h=>?_)
 have f10:=g0_0_0.stp (S3.tr S7) R R
 have f11:=g0_0_1.stp (S3.tr S7) R R
 have f12:=g0_1.stp (S3.tr S7) R R
 refine Jh R R R C125 (jT (κ:=Mk K6) (p0:=p0) (Ji3 f10) (Ji3 f11) (Ji3 f12) hx10) ?_
 rintro _ w13 ⟨k14,rfl,e15⟩
 obtain⟨K16,S17,m18⟩:=Ji e15 4 R
 refine⟨tv,Jn 2 R (Ob h λp17 h hK20=>Ju1 [(4,1),(5,2),(6,1),(7,2),(8,2)] [] (λL w'=>L=[(1,.slice a1 p1.length u1),(2,.pointer (some ⟨b2,0,none⟩)),(4,.pointer (some ⟨b4,0,none⟩)),(17,.bool p17)]/\∃κ',Stp [] K16 w13 κ' w') tv ?_ ?_)⟩
 revert h
 cases ht21:(!x10)
 refine JF λh=>Jl tv R R R R (Jd2 (cs:=[.slice ar p0.Arena.Owner.length ao,.slice aq p0.Arena.Next.length an,.slice ax p0.Prio.length av]) I108 Z108 R R R (haE (f9.stp S17 R R).cells)) (Jn 1 R (Ob h λx15 hx15 h=>Jh R R R C239 (qw (κ:=Mk K16) (p0:=p0) (Ji3 (f10.stp S17 R R)) (Ji3 (f11.stp S17 R R)) (Ji3 (f12.stp S17 R R)) (Ji3 (g1.stp (S3.tr (S7.tr S17)) R R)) hx15) ?_))
 rintro _ w27 ⟨k28,rfl,e29⟩
 obtain⟨K30,S31,m32⟩:=Ji e29 6 R
 refine⟨tv,Jn 2 R ?_⟩
 cases h
 exact Jv1 _ tv ⟨R,_,S31.wk R⟩ (KM R)
 refine JT λh=>Jd1 R R R R (Jn 1 R (Jd1 R R R R (Jn 2 R ?_)))
 cases h
 exact Jv1 _ tv ⟨R,_,Jj3⟩ (KM R)
 rintro _ w34 _ ⟨rfl,K35,S36⟩
 have h:=hK20
 refine Jd ?_
 revert h
 cases ht37:p17
 refine JF λh=>Jy R (Js (Jp (Jq (Ob h λx22 hx22 h=>Ob h λx26 hx26 h=>Jx1 (λL w'=>∃κ' b6 af ae aw ay ah ai,L=[(1,.slice a1 p1.length u1),(2,.pointer (some ⟨b2,0,none⟩)),(4,.pointer (some ⟨b4,0,none⟩)),(6,.pointer (some ⟨b6,0,none⟩))]/\Stp [6,8,9,11,12] K35 w34 κ' w'/\Oc E6 2 κ' w' 6 af ae (((⟨(⟨x22,([]:List (List Int))⟩:Arena),x26⟩:Parity).Arena).Owner)/\Oc (Ep.own E6 2) 29 κ' w' 7 aw ay (((⟨(⟨x22,([]:List (List Int))⟩:Arena),x26⟩:Parity).Arena).Next)/\Oc E6 2 κ' w' 8 ah ai ((⟨(⟨x22,([]:List (List Int))⟩:Arena),x26⟩:Parity).Prio)/\Bc κ' w' 9 b6 108 [.slice af (((⟨(⟨x22,([]:List (List Int))⟩:Arena),x26⟩:Parity).Arena).Owner).length ae,.slice aw (((⟨(⟨x22,([]:List (List Int))⟩:Arena),x26⟩:Parity).Arena).Next).length ay,.slice ah ((⟨(⟨x22,([]:List (List Int))⟩:Arena),x26⟩:Parity).Prio).length ai]) ?_ ?_))))
 refine WC.rxt (κ:=K35) [2] none (by kernel_rfl) λw51 S52=>Jq1 (fuel:=6) [(0,2),(1,2),(5,2),(2,0),(6,0)] (by kernel_rfl) (by kernel_rfl) R (Jd3 R U108 R Z104 (Jd3 R U104 R Z29 (Jd3 R U108 R Z29 ?_)))
 have f53:=f9.stp (S17.tr (S36.tr S52)) R R
 refine Jg R (Jc2 I29 R R (hvC (f53.ld 0 R R) R)) (Jg R (Jc2 I29 R R (hvC (f53.ld 2 R R) R)) (Jp1 (WA.fork2 (fuel:=5) 3 9 (by kernel_rfl) R ?_ ?_)))
 refine Jh R R R C56 (dj (κ:=Mk K35) (Ji3 (f10.stp (S17.tr (S36.tr S52)) R R)) hx22) ?_
 rintro _ w55 ⟨k56,ab,aa,rfl,e57,f58⟩
 obtain⟨K59,S60,m61⟩:=Ji e57 6 R
 refine⟨(S60.cl R),?_⟩
 have f63:=f58.mx (bH _) m61 R (R:6+2=8)
 refine Jp1 (Jq1 (fuel:=4) [(4,2)] (by kernel_rfl) (by kernel_rfl) R (Jf R (bI (parts:=[(0,.tmp 22)]) (cells:=[.slice ab x22.length aa,.slice none 0 0]) R R (by kernel_rfl)) (Jp1 (WA.fork2 (fuel:=3) 7 9 (by kernel_rfl) R ?_ ?_))))
 refine Jh R R R C56 (dj (κ:=Mk K59) (Ji3 (f12.stp (S17.tr (S36.tr (S52.tr S60))) R R)) hx26) ?_
 rintro _ w65 ⟨k66,ad,ac,rfl,e67,f68⟩
 obtain⟨K69,S70,m71⟩:=Ji e67 9 R
 exact⟨((S60.tr S70).cl R),Jp1 (Jq1 (fuel:=0) [(8,2),(9,1),(10,1)] (by kernel_rfl) (by kernel_rfl) R (Jf R (bI (parts:=[(0,.tmp 23),(1,.tmp 26)]) (cells:=[.slice ab x22.length aa,.slice none 0 0,.slice ad x26.length ac]) R R (by kernel_rfl)) (Jg1 (κ:=K69) 12 R R R R R X108 R λb6 w74 K75 S76 f77=>⟨((S60.tr (S70.tr S76)).cl R),Jj1 (κ:=K75) 12 (vc:=[.slice ab x22.length aa,.slice none 0 0,.slice ad x26.length ac]) R R R R R R R Z108 R R f77 R λw78 S79 f80=>⟨((S60.tr (S70.tr (S76.tr S79))).cl R),Jp1 (Jr1 [] (by kernel_rfl) (by kernel_rfl) R (Jo (Jw1 _ ⟨(λb=>ren [(8,6),(11,8),(12,9)] (K75 b)),b6,ab,aa,none,0,ad,ac,R,(Jy2 ((S52.tr (S60.tr (S70.tr (S76.tr S79)))).wk R) [(8,6),(11,8),(12,9)] R),((f63.stp (S70.tr (S76.tr S79)) R R).map (ren [(8,6),(11,8),(12,9)]) R R),Ow.nil,(((f68.mx (bH _) m71 R (R:9+2=11)).stp (S76.tr S79) R R).map (ren [(8,6),(11,8),(12,9)]) R R),(f80.map (ren [(8,6),(11,8),(12,9)]) R R)⟩ (KM R))))⟩⟩)))⟩
 refine Jg1 (κ:=K59) 9 R R R R R X108 R λb6 w83 K84 S85 f86=>⟨((S60.tr S85).cl R),Jp1 (Jq1 (fuel:=0) [(7,1),(8,2),(10,1)] (by kernel_rfl) (by kernel_rfl) R (Jh R R R C56 (dj (κ:=Mk K84) (Ji3 (f12.stp (S17.tr (S36.tr (S52.tr (S60.tr S85)))) R R)) hx26) ?_))⟩
 rintro _ w88 ⟨k89,ad,ac,rfl,e90,f91⟩
 obtain⟨K92,S93,m94⟩:=Ji e90 10 R
 exact⟨((S60.tr (S85.tr S93)).cl R),Jf R (bI (parts:=[(0,.tmp 23),(1,.tmp 26)]) (cells:=[.slice ab x22.length aa,.slice none 0 0,.slice ad x26.length ac]) R R (by kernel_rfl)) (Jj1 (κ:=K92) 9 (vc:=[.slice ab x22.length aa,.slice none 0 0,.slice ad x26.length ac]) R R R R R R R Z108 R R (f86.stp S93 R R) R λw98 S99 f100=>⟨((S60.tr (S85.tr (S93.tr S99))).cl R),Jp1 (Jr1 [] (by kernel_rfl) (by kernel_rfl) R (Jo (Jw1 _ ⟨(λb=>ren [(8,6),(12,8)] (K92 b)),b6,ab,aa,none,0,ad,ac,R,(Jy2 ((S52.tr (S60.tr (S85.tr (S93.tr S99)))).wk R) [(8,6),(12,8)] R),((f63.stp (S85.tr (S93.tr S99)) R R).map (ren [(8,6),(12,8)]) R R),Ow.nil,(((f91.mx (bH _) m94 R (R:10+2=12)).stp S99 R R).map (ren [(8,6),(12,8)]) R R),(f100.map (ren [(8,6),(12,8)]) R R)⟩ (KM R))))⟩)⟩
 refine Jg1 (κ:=K35) 6 R R R R R X108 R λb6 w103 K104 S105 f106=>⟨(S105.cl R),Jp1 (Jq1 (fuel:=0) [(3,1),(4,2),(7,1),(8,2),(10,1)] (by kernel_rfl) (by kernel_rfl) R (Jh R R R C56 (dj (κ:=Mk K104) (Ji3 (f10.stp (S17.tr (S36.tr (S52.tr S105))) R R)) hx22) ?_))⟩
 rintro _ w108 ⟨k109,ab,aa,rfl,e110,f111⟩
 obtain⟨K112,S113,m114⟩:=Ji e110 7 R
 refine⟨((S105.tr S113).cl R),Jf R (bI (parts:=[(0,.tmp 22)]) (cells:=[.slice ab x22.length aa,.slice none 0 0]) R R (by kernel_rfl)) (Jh R R R C56 (dj (κ:=Mk K112) (Ji3 (f12.stp (S17.tr (S36.tr (S52.tr (S105.tr S113)))) R R)) hx26) ?_)⟩
 rintro _ w118 ⟨k119,ad,ac,rfl,e120,f121⟩
 obtain⟨K122,S123,m124⟩:=Ji e120 10 R
 have S001:=(S105.tr (S113.tr S123))
 exact⟨(S001.cl R),Jf R (bI (parts:=[(0,.tmp 23),(1,.tmp 26)]) (cells:=[.slice ab x22.length aa,.slice none 0 0,.slice ad x26.length ac]) R R (by kernel_rfl)) (Jj1 (κ:=K122) 6 (vc:=[.slice ab x22.length aa,.slice none 0 0,.slice ad x26.length ac]) R R R R R R R Z108 R R (f106.stp (S113.tr S123) R R) R λw128 S129 f130=>⟨((S001.tr S129).cl R),Jp1 (Jr1 [] (by kernel_rfl) (by kernel_rfl) R (Jo (Jw1 _ ⟨(λb=>ren [(9,6),(12,8),(6,9)] (K122 b)),b6,ab,aa,none,0,ad,ac,R,(Jy2 ((S52.tr (S105.tr (S113.tr (S123.tr S129)))).wk R) [(9,6),(12,8),(6,9)] R),(((f111.mx (bH _) m114 R (R:7+2=9)).stp (S123.tr S129) R R).map (ren [(9,6),(12,8),(6,9)]) R R),Ow.nil,(((f121.mx (bH _) m124 R (R:10+2=12)).stp S129 R R).map (ren [(9,6),(12,8),(6,9)]) R R),(f130.map (ren [(9,6),(12,8),(6,9)]) R R)⟩ (KM R))))⟩)⟩
 rintro _ w43 ⟨K44,b6,af,ae,aw,ay,ah,ai,rfl,S45,f47,f48,f49,f50⟩
 refine Jp (Jq (Je3 R ?_))
 have hN133:(p1.length:Int)<=9223372036854775807:=g1.len_le
 refine Ob h λq2 hq135 hK134=>?_
 clear h
 refine Jx1 (λL w'=>∃κ',∃s3:(List (List Int)),∃ak aj,L=[(4,.pointer (some ⟨b4,0,none⟩)),(6,.pointer (some ⟨b6,0,none⟩))]/\Stp [7,9,12,13] K44 w43 κ' w'/\Oc (Ep.own E6 2) 29 κ' w' 7 ak aj s3/\Bc κ' w' 9 b6 108 [.slice af (((⟨(⟨x22,([]:List (List Int))⟩:Arena),x26⟩:Parity).Arena).Owner).length ae,.slice ak s3.length aj,.slice ah ((⟨(⟨x22,([]:List (List Int))⟩:Arena),x26⟩:Parity).Prio).length ai]/\q2=t9 s3) ?_ ?_
 refine Jv (Jy1 (λk L w'=>∃κ' v7,∃s1:(List (List Int)),∃au ap,L=[(1,.slice a1 p1.length u1),(2,.pointer (some ⟨b2,0,none⟩)),(4,.pointer (some ⟨b4,0,none⟩)),(6,.pointer (some ⟨b6,0,none⟩)),(7,vi v7)]/\Stp [7,9,12,13] K44 w43 κ' w'/\Oc (Ep.own E6 2) 29 κ' w' 7 au ap s1/\Bc κ' w' 9 b6 108 [.slice af (((⟨(⟨x22,([]:List (List Int))⟩:Arena),x26⟩:Parity).Arena).Owner).length ae,.slice au s1.length ap,.slice ah ((⟨(⟨x22,([]:List (List Int))⟩:Arena),x26⟩:Parity).Prio).length ai]/\0<=v7/\Int.toNat ((p1.length:Int)-v7)=k/\cntM (g9 p0 p1) k v7 s1=some q2) ⟨_,_,⟨K44,0,(((⟨(⟨x22,([]:List (List Int))⟩:Arena),x26⟩:Parity).Arena).Next:(List (List Int))),aw,ay,R,Jj3,f48,f50,(by decide),(by simp),hq135⟩,(KM R)⟩ ?_)
 rintro k _ w141 ⟨K142,v7,s1,au,ap,rfl,S143,f144,f145,hj133,hJ133,h⟩
 rcases k with _ | k
 have hk146:=h;obtain⟨o133,h⟩:=bO (t9 (Sum.inl s1):(Parity×Bool)⊕(((List (List Int)))⊕((List (List Int)))))
 have hc133:decide (v7<(p1.length:Int))=false:=Jo2 (by omega)
 refine Jq (Jg3 [2,2,2,2] 2 R (Jf R (Je2 U29 R R) (Jb 1 R (Jw2 R hc133 (Jc1 (Jt (Jt ?_)))))))
 cases h
 have h:=hk146
 refine Jb1 ?_
 cases h
 exact Jw1 _ ⟨K142,(s1:(List (List Int))),au,ap,R,S143.wk R,f144,f145,R⟩ (KM R)
 obtain⟨o133,h,hk146⟩:=BI h;unfold g9 at h
 have hc133:decide (v7<(p1.length:Int))=true:=Jn2 (by omega)
 refine Jq (Jg3 [2,2,2,2] 2 R (Jf R (Je2 U29 R R) (Jb 1 R (Jv2 R hc133 (Js (Jp (Jq (Jv (Je [2,2,1,2,2,1,1,2] R (Jd3 R U108 R Z104 (Jd3 R U104 R Z26 (Jb3 R I26 ((f9.stp (S17.tr (S36.tr (S45.tr S143))) R R).ld 1 R R) (Jn 1 R (Ob h λx38 hx38 h=>Jc3 R f11 hx38 U26 Z29 ?_))))))))))))))
 obtain⟨ax38,ux38,f149,hl150⟩:=(f11.stp (S17.tr (S36.tr (S45.tr S143))) R R).gSl hx38
 refine Jb3 R I29 hl150 (Ob h λx40 hx40 h=>Jh R R R C56 (dj (κ:=Mk K142) (Ji3 f149) hx40) ?_)
 rintro _ w151 ⟨k152,aD,aE,rfl,e153,f154⟩
 obtain⟨K155,S156,m157⟩:=Ji e153 10 R
 refine⟨tv,Jb 1 R (Jq (Jg3 [2,2,2,1,2] 2 R (Ob h λx43 hx43 h=>Jc3 R g1 hx43 U29 Z2 ?_)))⟩
 have f160:=g1.stp (S3.tr (S7.tr (S17.tr (S36.tr (S45.tr (S143.tr S156)))))) R R
 refine Jb3 R I2 (f160.gInt hx43) (Jb 1 R (Ob h λq4 h hK161=>Jx1 (λL w'=>∃κ' al am,L=[(1,.slice a1 p1.length u1),(2,.pointer (some ⟨b2,0,none⟩)),(4,.pointer (some ⟨b4,0,none⟩)),(6,.pointer (some ⟨b6,0,none⟩)),(7,vi v7),(8,.slice al q4.length am)]/\Stp [13] K155 w151 κ' w'/\Oc E6 2 κ' w' 12 al am q4) ?_ ?_))
 revert h
 cases ht166:decide (0<=x43)
 refine JF λh=>Jy R (Js ?_)
 cases h
 exact Jw1 _ ⟨K155,aD,aE,R,Jj3,(f154.mx (bH _) m157 R (R:10+2=12))⟩ (KM R)
 refine JT λh=>Jx R (Jh3 [2,2,2,1,1,2] 2 R (Ob h λx48 hx48 h=>Jc3 R f160 hx48 U29 Z2 (Jb3 R I2 (f160.gInt hx48) (Jn1 (κ:=K155) (E:=E6) 13 [] (parts:=[(0,.tmp 49)]) (cells:=[vi x48]) (xs:=([x48]:List Int)) R R R R R R Y29 Tryzinfo2 R R R R R R R R R R ⟨[vi x48],[],Zl K155 w151 [],Zl K155 w151 [],R,Zl.sp (l1:=[]) (l2:=[]) R,Zl.sr (l1:=[]) (l2:=[]),R,R⟩ λaB aC w167 K168 S169 f170=>⟨tv,Jc 1 R ?_⟩))))
 cases h
 exact Jw1 _ ⟨(λb=>ren [(13,12)] (K168 b)),aB,aC,R,(Jy2 (S169.wk R) [(13,12)] R),(f170.map (ren [(13,12)]) R R)⟩ (KM R)
 rintro _ w162 ⟨K163,al,am,rfl,S164,f165⟩
 have h:=hK161
 refine Jp (Ja [2,2,1,2,1,1,2,2,1] R (Jd3 R U108 R Z104 (Jd3 R U104 R Z26 ?_)))
 have f171:=f145.stp (S156.tr S164) R R
 refine Jb3 R I26 (f171.ld 1 R R) (Jn 1 R (Jn1 (κ:=K163) (E:=(Ep.own E6 2)) 13 [12] (parts:=[(0,.tmp 54)]) (cells:=[.slice al q4.length am]) (xs:=([q4]:List (List Int))) R R R R R R Y26 Tryzinfo29 R R R R R R R R R R ⟨[.slice al q4.length am],[],Zl K163 w162 [12],Zl K163 w162 [],R,Zl.sp (l1:=[12]) (l2:=[]) R,Zl.sr (l1:=[12]) (l2:=[]),⟨_,_,R,f165⟩,R⟩ λaG aF w172 K173 S174 f175=>⟨tv,Ob h λx56 hx56 h=>Jm1 (κ:=K173) (E:=(Ep.own E6 2)) 7 [13] R R R R R R R R R Y26 Tryzinfo29 R R R R (f144.stp (S156.tr (S164.tr S174)) R R) f175.src (dc R) hx56 R λaz aA w177 K178 S179 f180=>⟨tv,Jd3 R U108 R Z104 (Jd3 R U104 R Z26 (Ji1 (κ:=K178) 9 (off:=1) (vc:=[.slice az x56.length aA]) (cs':=[.slice af (((⟨(⟨x22,([]:List (List Int))⟩:Arena),x26⟩:Parity).Arena).Owner).length ae,.slice az x56.length aA,.slice ah ((⟨(⟨x22,([]:List (List Int))⟩:Arena),x26⟩:Parity).Prio).length ai]) R R R R R R R Z26 R R (f171.stp (S174.tr S179) R R) R R λw182 S183 f184=>⟨tv,Jo (Jz (Jp (Jf3 R ?_)))⟩))⟩⟩))
 have hw133:t5 .i64 (v7+1)=v7+1:=wr1 hj133 (Jm2 hc133) hN133
 rw[hw133]
 have hc133:=Jm2 hc133
 cases h
 exact Jz1 λa ha=>⟨k,_,Ja3 _,⟨K178,v7+1,(x56:(List (List Int))),az,aA,R,(S143.tr (S156.tr (S164.tr (S174.tr (S179.tr S183))))).wk R,(f180.stp S183 R R),f184,by omega,by omega,hk146⟩,(ha.mm R)⟩
 rintro _ w136 ⟨K137,s3,ak,aj,rfl,S138,f139,f140,rfl⟩
 have h:=hK134
 dsimp only[aft]at h
 refine Jp (Je [1,1,2] R (Jl tv R R R R (Jd2 (cs:=[.slice af (((⟨(⟨x22,([]:List (List Int))⟩:Arena),x26⟩:Parity).Arena).Owner).length ae,.slice ak s3.length aj,.slice ah ((⟨(⟨x22,([]:List (List Int))⟩:Arena),x26⟩:Parity).Prio).length ai]) I108 Z108 R R R (haE f140.cells)) (Jj1 (κ:=K137) 3 (vc:=[.slice af (((⟨(⟨x22,([]:List (List Int))⟩:Arena),x26⟩:Parity).Arena).Owner).length ae,.slice ak s3.length aj,.slice ah ((⟨(⟨x22,([]:List (List Int))⟩:Arena),x26⟩:Parity).Prio).length ai]) R R R R R R R Z108 R R (f8.stp (S17.tr (S36.tr (S45.tr S138))) R R) R λw187 S188 f189=>⟨tv,Jb 1 R (Ju (Ja2 (l:=[.cell 4 108,.tmp 5]) V211 (bL R f189 I108 Z108 R (Jp2 R R)) R ?_))⟩)))
 cases h
 exact⟨(λb=>ren [(6,2),(7,3),(8,4)] (K137 b)),af,ae,ak,aj,ah,ai,R,((hE.stp (S3.tr (S7.tr (S17.tr (S36.tr (S45.tr (S138.tr S188)))))) R R).map (ren [(6,2),(7,3),(8,4)]) R R),((f47.stp (S138.tr S188) R R).map (ren [(6,2),(7,3),(8,4)]) R R),((f139.stp S188 R R).map (ren [(6,2),(7,3),(8,4)]) R R),((f49.stp (S138.tr S188) R R).map (ren [(6,2),(7,3),(8,4)]) R R)⟩
 refine JT λh=>Jx R (Je [2,1,2] R (Jf R (bI (parts:=[]) (cells:=[.slice none 0 0,.slice none 0 0,.slice none 0 0]) R R (by kernel_rfl)) (Jj1 (κ:=K35) 3 (vc:=[.slice none 0 0,.slice none 0 0,.slice none 0 0]) R R R R R R R Z108 R R (f8.stp (S17.tr S36) R R) R λw39 S40 f41=>⟨tv,Jb 1 R (Ju (Jw (Ja2 (l:=[.cell 4 108,.tmp 5]) V211 (bL R f41 I108 Z108 R (Jp2 R R)) R ?_)))⟩)))
 cases h
 exact⟨K35,none,0,none,0,none,0,R,(hE.stp (S3.tr (S7.tr (S17.tr (S36.tr S40)))) R R),Ow.nil,Ow.nil,Ow.nil⟩
theorem qW {w:World}{κ:Col}{ad ab ac aa ae af}{p0:Parity}(g0_0_0:Rd (Rp.int .i64) κ w 0 ad ab p0.Arena.Owner) (g0_0_1:Rd (Rp.sl (Rp.int .i64)) κ w 0 ac aa p0.Arena.Next) (g0_1:Rd (Rp.int .i64) κ w 0 ae af p0.Prio){r:Answer}(h:j9 p0=some r):Ret Tryz.prog 90 [.agg #[.slice ad p0.Arena.Owner.length ab,.slice ac p0.Arena.Next.length aa,.slice ae p0.Prio.length af]] w (λv w'=>∃(κ':Col) (ra0:Option Addr) (ru0:Nat) (ra1:Option Addr) (ru1:Nat),v= .agg #[.slice ra0 r.Won.length ru0,.slice ra1 r.Plan.length ru1]/\Ent κ w κ' w'/\Oc E6 2 κ' w' 2 ra0 ru0 r.Won/\Oc E6 2 κ' w' 3 ra1 ru1 r.Plan):=by
 unfold j9 at h
 refine Ret.enter F90 R N90 R ?_
 dsimp only[envOf]
 have hE:=Ent.refl κ w
 refine Je [1,1] R (Jf1 (κ:=κ) 2 R R R R R R R λb1 w1 K2 S3 f4=>⟨tv,Jg1 (κ:=K2) 3 R R R R R X113 R λb2 w5 K6 S7 f8=>⟨tv,Jd (Jq (Je [1,1,2] R ?_))⟩⟩)
 have f9:=f4.stp S7 R R
 refine Jl tv R R R R (Jd2 (cs:=[.slice ad p0.Arena.Owner.length ab,.slice ac p0.Arena.Next.length aa,.slice ae p0.Prio.length af]) I108 Z108 R R R (haE f9.cells)) (Ob h λx4 hx4 h=>?_)
 have f10:=g0_0_0.stp (S3.tr S7) R R
 have f11:=g0_0_1.stp (S3.tr S7) R R
 have f12:=g0_1.stp (S3.tr S7) R R
 refine Jh R R R C147 (pc (κ:=Mk K6) (p0:=p0) (Ji3 f10) (Ji3 f11) (Ji3 f12) hx4) ?_
 rintro _ w13 ⟨k14,rfl,e15⟩
 obtain⟨K16,S17,m18⟩:=Ji e15 4 R
 refine⟨tv,Jb 1 R ?_⟩
 revert h
 cases ht20:(!x4)
 refine JF λh=>Jy R (Js (Jp (Jq (Js1 (κ:=K16) [2] none [(1,2),(0,0),(2,0),(4,0),(3,1),(5,1),(6,1),(7,1)] [] (by kernel_rfl) (by kernel_rfl) λw27 S26=>Jd3 R U108 R Z104 ?_))))
 have f28:=f9.stp (S17.tr S26) R R
 refine Jg R (Jd2 (cs:=[.slice ad p0.Arena.Owner.length ab,.slice ac p0.Arena.Next.length aa,.slice ae p0.Prio.length af]) I108 Z108 R R R (haC f28.cells R)) (Jg R (Jd2 (cs:=[.slice ad p0.Arena.Owner.length ab,.slice ac p0.Arena.Next.length aa]) I104 Z104 R R R (haC (f28.lds 0 2 R) R)) (Jg R (Jd2 (cs:=[.slice ad p0.Arena.Owner.length ab,.slice ac p0.Arena.Next.length aa,.slice ae p0.Prio.length af]) I108 Z108 R R R (haC f28.cells R)) (Ob h λx10 hx10 h=>?_)))
 have f29:=f10.stp (S17.tr S26) R R
 have f30:=f11.stp (S17.tr S26) R R
 refine Jh R R R C149 (qP (κ:=Mk K16) (p0:=p0.Arena) (Ji3 f29) (Ji3 f30) hx10) ?_
 rintro _ w31 ⟨k32,ao,al,rfl,e33,f34⟩
 obtain⟨K35,S36,m37⟩:=Ji e33 6 R
 refine⟨(S36.cl R),Ob h λx12 hx12 h=>?_⟩
 have f40:=f29.stp S36 R R
 have f41:=f30.stp S36 R R
 have f42:=f12.stp (S17.tr (S26.tr S36)) R R
 refine Jh R R R C80 (kp (κ:=Mk K35) (p0:=p0) (Ji3 f40) (Ji3 f41) (Ji3 f42) hx12) ?_
 rintro _ w43 ⟨k44,am,an,rfl,e45,f46⟩
 obtain⟨K47,S48,m49⟩:=Ji e45 9 R
 refine⟨((S36.tr S48).cl R),Ob h λx13 hx13 h=>Jh R R R C148 (pj (κ:=Mk K47) (p0:=p0) (Ji3 (f40.stp S48 R R)) (Ji3 (f41.stp S48 R R)) (Ji3 (f42.stp S48 R R)) (Ji3 ((f34.mx (bH _) m37 R (R:6+2=8)).stp S48 R R).rdc) (Ji3 (f46.mx (bH _) m49 R (R:9+2=11)).rdc) hx13) ?_⟩
 rintro _ w56 ⟨k57,ah,ai,aj,ak,rfl,e58,f59,f60⟩
 obtain⟨K61,S62,m63⟩:=Ji e58 12 R
 refine⟨((S36.tr (S48.tr S62)).cl R),Jj1 (κ:=K61) 3 (vc:=[.slice ah x13.Won.length ai,.slice aj x13.Plan.length ak]) R R R R R R R Z113 R R (f8.stp (S17.tr (S26.tr (S36.tr (S48.tr S62)))) R R) R λw68 S69 f70=>⟨((S36.tr (S48.tr (S62.tr S69))).cl R),Jt1 (Jd (Ju (Ja2 (l:=[.cell 2 113]) V90 (bL R f70 I113 Z113 R R) R ?_)))⟩⟩
 cases h
 exact⟨(λb=>ren [(14,2),(15,3)] (K61 b)),ah,ai,aj,ak,R,((hE.stp (S3.tr (S7.tr (S17.tr (S26.tr (S36.tr (S48.tr (S62.tr S69))))))) R R).map (ren [(14,2),(15,3)]) R R),(((f59.mx (bH _) m63 R (R:12+2=14)).stp S69 R R).map (ren [(14,2),(15,3)]) R R),(((f60.mx (bH _) m63 R (R:12+3=15)).stp S69 R R).map (ren [(14,2),(15,3)]) R R)⟩
 refine JT λh=>Jx R (Je [2,1] R (Jf R (bI (parts:=[]) (cells:=[.slice none 0 0,.slice none 0 0]) R R (by kernel_rfl)) (Jj1 (κ:=K16) 3 (vc:=[.slice none 0 0,.slice none 0 0]) R R R R R R R Z113 R R (f8.stp S17 R R) R λw22 S23 f24=>⟨tv,Jd (Ju (Jw (Ja2 (l:=[.cell 2 113]) V90 (bL R f24 I113 Z113 R R) R ?_)))⟩)))
 cases h
 exact⟨K16,none,0,none,0,R,(hE.stp (S3.tr (S7.tr (S17.tr S23))) R R),Ow.nil,Ow.nil⟩
end Go.Proofs.YtpcjbkgbnoocaaaGreat
