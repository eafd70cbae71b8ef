/- The walks, part 12. By program. -/
import Derived.Test.YtpcjbkgbnoocaaaGreatFns10EI
set_option linter.unusedVariables false
set_option linter.unusedSimpArgs false
open Go.IntKind renaming wrap → t5
open Sum renaming inr → t9
open Int renaming toNat → vH
namespace Go.Proofs.YtpcjbkgbnoocaaaGreat
open Go Go.Wk Go.Proofs
set_option maxRecDepth 100000
set_option maxHeartbeats 1000000
theorem ob {w:World}{κ:Col}{p0:Sig}{a1 u1}{p1:(List Clause)}(g1:Rd Clause.rp κ w 0 a1 u1 p1){r:Bool}(h:eJ p0 p1=some r):Ret Tryz.prog 114 [.agg #[vi p0.In,vi p0.Out],.slice a1 p1.length u1] w (λv w'=>∃(κ':Col),v= .bool r/\Ent κ w κ' w'):=by
 unfold eJ at h
 refine Ret.enter F114 R N114 R ?_
 dsimp only[envOf]
 have hE:=Ent.refl κ w
 refine Je [1,2] R (Jf1 (κ:=κ) 2 R R R R R R R λb2 w1 K2 S3 f4=>⟨tv,Jb 1 R (Jq (Je [1,1,2,2,2,2,2,2] R (Jl tv R R R R (Jd2 (cs:=[vi p0.In,vi p0.Out]) I25 Z25 R R R (haE f4.cells)) (Ob h λx7 hx7 h=>Jh R R R C102 (jf (κ:=Mk K2) (p0:=p0) hx7) ?_))))⟩)
 rintro _ w5 ⟨k6,rfl,e7⟩
 obtain⟨K8,S9,m10⟩:=Ji e7 3 R
 refine⟨tv,Jn 2 R (Ob h λp13 h hK12=>Ju1 [(4,2),(5,2),(6,2),(7,2)] [] (λL w'=>L=[(1,.slice a1 p1.length u1),(2,.pointer (some ⟨b2,0,none⟩)),(13,.bool p13)]/\∃κ',Stp [] K8 w5 κ' w') tv ?_ ?_)⟩
 revert h
 cases ht13:(!x7)
 refine JF λh=>Jn 1 R (Jf R (Je2 U49 R R) (Jn 2 R ?_))
 cases h
 exact Jv1 _ tv ⟨R,_,Jj3⟩ (KM R)
 refine JT λh=>Jn 4 R ?_
 cases h
 exact Jv1 _ tv ⟨R,_,Jj3⟩ (KM R)
 rintro _ w14 _ ⟨rfl,K15,S16⟩
 have h:=hK12
 refine Jd ?_
 revert h
 cases ht17:p13
 refine JF λh=>Jy R (Js (Jp (Jq (Je3 R ?_))))
 have hN19:(p1.length:Int)<=9223372036854775807:=g1.len_le
 refine Ob h λq2 hq21 hK20=>?_
 clear h
 refine Jx1 (λL w'=>∃κ',L=[]/\Stp [] K15 w14 κ' w'/\q2=t9 ()) ?_ ?_
 refine Jv (Jy1 (λk L w'=>∃κ' v5,L=[(1,.slice a1 p1.length u1),(2,.pointer (some ⟨b2,0,none⟩)),(5,vi v5)]/\Stp [] K15 w14 κ' w'/\0<=v5/\vH ((p1.length:Int)-v5)=k/\cntM (eG p0 p1) k v5 ()=some q2) ⟨_,_,⟨K15,0,R,Jj3,(by decide),(by simp),hq21⟩,(KM R)⟩ ?_)
 rintro k _ w25 ⟨K26,v5,rfl,S27,hj19,hJ19,h⟩
 rcases k with _ | k
 have hk28:=h;obtain⟨o19,h⟩:=bO (t9 (Sum.inl ()):Bool⊕((Unit)⊕(Unit)))
 have hc19:decide (v5<(p1.length:Int))=false:=Jo2 (by omega)
 refine Jq (Jg3 [2,2,2,2] 2 R (Jf R (Je2 U49 R R) (Jb 1 R (Jw2 R hc19 (Jc1 (Jt (Jt ?_)))))))
 cases h
 have h:=hk28
 refine Jb1 ?_
 cases h
 exact Jw1 _ ⟨K26,R,S27.wk R,R⟩ KN
 obtain⟨o19,h,hk28⟩:=BI h;unfold eG at h
 have hc19:decide (v5<(p1.length:Int))=true:=Jn2 (by omega)
 refine Jq (Jg3 [2,2,2,2] 2 R (Jf R (Je2 U49 R R) (Jb 1 R (Jv2 R hc19 (Js (Jp (Jq (Jv (Jq (Js1 (κ:=K26) [0,2] none [(1,2),(2,2),(3,2),(0,0),(4,0),(5,1),(6,2)] [] (by kernel_rfl) (by kernel_rfl) λw30 S29=>Jn 2 R (Ob h λx23 hx23 h=>Jc3 R g1 hx23 U49 Z119 (Jg R (Jd2 (cs:=[vi p0.In,vi p0.Out]) I25 Z25 R R R (haC (f4.stp (S9.tr (S16.tr (S27.tr S29))) R R).cells R)) ?_))))))))))))
 obtain⟨cse33,hre33,hle33⟩:=((g1.stp (S3.tr (S9.tr (S16.tr (S27.tr S29)))) R R)).gSt hx23
 obtain⟨ae33_0,ue33_0,ae33_1,ue33_1,rfl,fe33_0,fe33_1⟩:=Clause.un hre33
 refine Jg R (Jd2 (cs:=[vi x23.Kind,.slice ae33_0 x23.A.length ue33_0,.slice ae33_1 x23.B.length ue33_1]) I119 Z119 R R R (haC hle33 R)) (Ob h λx25 hx25 h=>Jh R R R C163 (lS (κ:=Mk K26) (p0:=p0) (p1:=x23) (Ji3 fe33_0) (Ji3 fe33_1) hx25) ?_)
 rintro _ w34 ⟨k35,rfl,e36⟩
 obtain⟨K37,S38,m39⟩:=Ji e36 5 R
 refine⟨(S38.cl R),Jn 1 R (Jt1 (Jd ?_))⟩
 revert h
 cases ht41:(!x25)
 refine JF λh=>Jy R (Js (Jz (Jp (Jf3 R ?_))))
 have hw19:t5 .i64 (v5+1)=v5+1:=wr1 hj19 (Jm2 hc19) hN19
 rw[hw19]
 have hc19:=Jm2 hc19
 cases h
 exact Jz1 λa ha=>⟨k,_,Ja3 _,⟨K37,v5+1,R,(S27.tr (S29.tr S38)).wk R,by omega,by omega,hk28⟩,(ha.mm R)⟩
 refine JT λh=>Jx R (Je3 R (Ju (Ja1 (Jw (Jw ?_)))))
 cases h
 obtain rfl:=Option.some.inj hk28
 have h:=hK20
 dsimp only[aft]at h
 refine Ja1 (Jq2 (Jw (Ja2 (l:=[.tmp 4]) V114 (Jp2 R R) R ?_)))
 cases h
 exact⟨K37,R,(hE.stp (S3.tr (S9.tr (S16.tr (S27.tr (S29.tr S38))))) R R)⟩
 rintro _ w22 ⟨K23,rfl,S24,rfl⟩
 have h:=hK20
 dsimp only[aft]at h
 refine Jp (Je3 R (Ju (Ja2 (l:=[.tmp 4]) V114 (Jp2 R R) R ?_)))
 cases h
 exact⟨K23,R,(hE.stp (S3.tr (S9.tr (S16.tr S24))) R R)⟩
 refine JT λh=>Jx R (Je3 R (Ju (Jw (Ja2 (l:=[.tmp 4]) V114 (Jp2 R R) R ?_))))
 cases h
 exact⟨K15,R,(hE.stp (S3.tr (S9.tr S16)) R R)⟩
theorem kK {w:World}{κ:Col}{p0:Sig}{am ak ah ao}{p1:Clause}(g1_1:Rd (Rp.int .i64) κ w 0 am ak p1.A) (g1_2:Rd (Rp.int .i64) κ w 0 ah ao p1.B){r:Det}(h:io p0 p1=some r):Ret Tryz.prog 116 [.agg #[vi p0.In,vi p0.Out],.agg #[vi p1.Kind,.slice am p1.A.length ak,.slice ah p1.B.length ao]] w (λv w'=>∃(κ':Col) (ra0:Option Addr) (ru0:Nat) (ra1:Option Addr) (ru1:Nat),v= .agg #[.slice ra0 r.Next.length ru0,.slice ra1 r.Pairs.length ru1]/\Ent κ w κ' w'/\Oc (Ep.own E6 2) 29 κ' w' 2 ra0 ru0 r.Next/\Oc Pair.ep154 154 κ' w' 3 ra1 ru1 r.Pairs):=by
 unfold io at h
 refine Ret.enter F116 R N116 R ?_
 dsimp only[envOf]
 have hE:=Ent.refl κ w
 refine Je [1,1,1] R (Jf1 (κ:=κ) 2 R R R R R R R λb2 w1 K2 S3 f4=>⟨tv,Jf1 (κ:=K2) 3 R R R R R R R λb3 w5 K6 S7 f8=>⟨tv,Jg1 (κ:=K6) 4 R R R R R X100 R λb4 w9 K10 S11 f12=>⟨tv,Jd (Jq (Je [1,1,1,2] R ?_))⟩⟩⟩)
 have f13:=f4.stp (S7.tr S11) R R
 refine Jl tv R R R R (Jd2 (cs:=[vi p0.In,vi p0.Out]) I25 Z25 R R R (haE f13.cells)) ?_
 have f14:=f8.stp S11 R R
 refine Jl tv R R R R (Jd2 (cs:=[vi p1.Kind,.slice am p1.A.length ak,.slice ah p1.B.length ao]) I119 Z119 R R R (haE f14.cells)) (Ob h λx11 hx11 h=>?_)
 have f15:=g1_1.stp (S3.tr (S7.tr S11)) R R
 have f16:=g1_2.stp (S3.tr (S7.tr S11)) R R
 refine Jh R R R C163 (lS (κ:=Mk K10) (p0:=p0) (p1:=p1) (Ji3 f15) (Ji3 f16) hx11) ?_
 rintro _ w17 ⟨k18,rfl,e19⟩
 obtain⟨K20,S21,m22⟩:=Ji e19 5 R
 refine⟨tv,Jb 1 R ?_⟩
 revert h
 cases ht24:(!x11)
 refine JF λh=>Jy R (Js (Jp (Je [2,1,1,1,2,1,1] R (Jd3 R U119 R Z2 ?_))))
 have f30:=f14.stp S21 R R
 refine Jb3 R I2 (f30.ld 0 R R) (Ob h λx16 hx16 h=>Jh R R R C165 (pN (κ:=Mk K20) hx16) ?_)
 rintro _ w31 ⟨k32,au,aw,av,ar,rfl,e33,f34,f35⟩
 obtain⟨K36,S37,m38⟩:=Ji e33 7 R
 refine⟨tv,Jn1 (κ:=K36) (E:=Pair.ep154) 11 [9,10] (parts:=[(0,.tmp 16)]) (cells:=[.slice au x16.Ask.length aw,.slice av x16.Give.length ar]) (xs:=([x16]:List Pair)) R R R R R R Y98 Tryzinfo154 R R R R R R R R R R ⟨[.slice au x16.Ask.length aw,.slice av x16.Give.length ar],[],Zl K36 w31 [9,10],Zl K36 w31 [],R,Zl.sp (l1:=[9,10]) (l2:=[]) R,Zl.sr (l1:=[9,10]) (l2:=[]),⟨[.slice au x16.Ask.length aw],[.slice av x16.Give.length ar],Zl K36 w31 [9],Zl K36 w31 [10],R,Zl.sp (l1:=[9]) (l2:=[10]) R,Zl.sr (l1:=[9]) (l2:=[10]),⟨_,_,R,(f34.mx (bH _) m38 R (R:7+2=9))⟩,⟨_,_,R,(f35.mx (bH _) m38 R (R:7+3=10))⟩⟩,R⟩ λaa ab w42 K43 S44 f45=>⟨tv,Jf R (bI (parts:=[(1,.tmp 17)]) (cells:=[.slice none 0 0,.slice aa ([x16]:List Pair).length ab]) R R (by kernel_rfl)) (Jg1 (κ:=K43) 12 R R R R R X100 R λb5 w46 K47 S48 f49=>⟨tv,Jj1 (κ:=K47) 12 (vc:=[.slice none 0 0,.slice aa ([x16]:List Pair).length ab]) R R R R R R R Z100 R R f49 R λw50 S51 f52=>⟨tv,Jd (Jq (Je3 R (Ob h λq2 hq55 hK54=>?_)))⟩⟩)⟩⟩
 clear h
 refine Jx1 (λL w'=>∃κ',∃s3:Int×(List (List Int)),∃ad ac,L=[(4,.pointer (some ⟨b4,0,none⟩)),(5,.pointer (some ⟨b5,0,none⟩))]/\Stp [12,13,16,17] K47 w50 κ' w'/\Oc (Ep.own E6 2) 29 κ' w' 13 ad ac s3.2/\Bc κ' w' 12 b5 100 [.slice ad s3.2.length ac,.slice aa ([x16]:List Pair).length ab]/\q2=t9 s3) ?_ ?_
 refine Jv (Jy1 (λk L w'=>∃κ',∃s1:Int×(List (List Int)),∃aj ai,L=[(2,.pointer (some ⟨b2,0,none⟩)),(3,.pointer (some ⟨b3,0,none⟩)),(4,.pointer (some ⟨b4,0,none⟩)),(5,.pointer (some ⟨b5,0,none⟩)),(6,vi s1.1)]/\Stp [12,13,16,17] K47 w50 κ' w'/\Oc (Ep.own E6 2) 29 κ' w' 13 aj ai s1.2/\Bc κ' w' 12 b5 100 [.slice aj s1.2.length ai,.slice aa ([x16]:List Pair).length ab]/\whileM (eF p0 p1) k s1=some q2) ⟨_,_,⟨K47,((0:Int),(([]:List (List Int)):(List (List Int)))),none,0,R,Jj3,Ow.nil,f52,hq55⟩,(KM R)⟩ ?_)
 rintro k _ w61 ⟨K62,s1,aj,ai,rfl,S63,f64,f65,h⟩
 rcases k with _ | k
 cases h
 obtain⟨o53,h,hk66⟩:=BI h;unfold eF at h
 refine Jq (Jg3 [2,2,1,1,2] 1 R (Jd3 R U119 R Z2 ?_))
 have f67:=f30.stp (S37.tr (S44.tr (S48.tr (S51.tr S63)))) R R
 refine Jb3 R I2 (f67.ld 0 R R) (Ob h λx22 hx22 h=>Jh R R R C166 (oM (κ:=Mk K62) hx22) ?_)
 rintro _ w68 ⟨k69,rfl,e70⟩
 obtain⟨K71,S72,m73⟩:=Ji e70 14 R
 refine⟨tv,Jb 1 R ?_⟩
 revert h
 cases ht75:decide (s1.1<x22)
 refine JF λh=>Jy R (Jc1 (Jt (Jt ?_)))
 cases h
 have h:=hk66
 refine Jb1 ?_
 cases h
 exact Jw1 _ ⟨K71,((s1.1:Int),(s1.2:(List (List Int)))),aj,ai,R,(S63.tr S72).wk R,(f64.stp S72 R R),(f65.stp S72 R R),R⟩ (KM R)
 refine JT λh=>Jx R (Js (Jp (Jq (Jv (Je [1,2] R (Jo1 (κ:=K71) (E:=E6) 16 R R R R R Y29 Tryzinfo2 R λaz ay w76 K77 S78 f79=>⟨tv,Jb 1 R (Jq (Je3 R (Ob h λq5 hq82 hK81=>?_)))⟩))))))
 clear h
 refine Jx1 (λL w'=>∃κ',∃s6:(List Int)×Int,∃af ae,L=[(2,.pointer (some ⟨b2,0,none⟩)),(3,.pointer (some ⟨b3,0,none⟩)),(4,.pointer (some ⟨b4,0,none⟩)),(5,.pointer (some ⟨b5,0,none⟩)),(6,vi s1.1),(7,.slice af s6.1.length ae)]/\Stp [16] K77 w76 κ' w'/\Oc E6 2 κ' w' 16 af ae s6.1/\q5=t9 s6) ?_ ?_
 refine Jv (Jy1 (λk L w'=>∃κ',∃s4:(List Int)×Int,∃an al,L=[(2,.pointer (some ⟨b2,0,none⟩)),(3,.pointer (some ⟨b3,0,none⟩)),(4,.pointer (some ⟨b4,0,none⟩)),(5,.pointer (some ⟨b5,0,none⟩)),(6,vi s1.1),(7,.slice an s4.1.length al),(8,vi s4.2)]/\Stp [16] K77 w76 κ' w'/\Oc E6 2 κ' w' 16 an al s4.1/\whileM (eT p0 p1 s1) k s4=some q5) ⟨_,_,⟨K77,((([]:List Int):(List Int)),(0:Int)),az,ay,R,Jj3,f79,hq82⟩,(KM R)⟩ ?_)
 rintro k _ w87 ⟨K88,s4,an,al,rfl,S89,f90,h⟩
 rcases k with _ | k
 cases h
 obtain⟨o80,h,hk91⟩:=BI h;unfold eT at h
 refine Jq (Jg3 [2,1,1,2] 1 R (Jl tv R R R R (Jd2 (cs:=[vi p0.In,vi p0.Out]) I25 Z25 R R R (haE (f13.stp (S21.tr (S37.tr (S44.tr (S48.tr (S51.tr (S63.tr (S72.tr (S78.tr S89)))))))) R R).cells)) (Ob h λx29 hx29 h=>Jh R R R C58 (eI (κ:=Mk K88) (p0:=p0) hx29) ?_)))
 rintro _ w93 ⟨k94,rfl,e95⟩
 obtain⟨K96,S97,m98⟩:=Ji e95 17 R
 refine⟨tv,Jb 1 R ?_⟩
 revert h
 cases ht100:decide (s4.2<x29)
 refine JF λh=>Jy R (Jc1 (Jt (Jt ?_)))
 cases h
 have h:=hk91
 refine Jb1 ?_
 cases h
 exact Jw1 _ ⟨K96,((s4.1:(List Int)),(s4.2:Int)),an,al,R,(S89.tr S97).wk R,(f90.stp S97 R R),R⟩ (KM R)
 have S001:=(S21.tr (S37.tr (S44.tr (S48.tr (S51.tr (S63.tr (S72.tr (S78.tr (S89.tr S97)))))))))
 refine JT λh=>Jx R (Js (Jp (Jq (Jv (Jh3 [2,1,2,2,1,1,1,2] 1 R (Jl tv R R R R (Jd2 (cs:=[vi p1.Kind,.slice am p1.A.length ak,.slice ah p1.B.length ao]) I119 Z119 R R R (haE (f67.stp (S72.tr (S78.tr (S89.tr S97))) R R).cells)) (Jn 2 R (Ob h λx37 hx37 h=>Jh R R R C167 (qk (κ:=Mk K96) (p0:=p1) (Ji3 (f15.stp S001 R R)) (Ji3 (f16.stp S001 R R)) hx37) ?_))))))))
 rintro _ w104 ⟨k105,rfl,e106⟩
 obtain⟨K107,S108,m109⟩:=Ji e106 19 R
 refine⟨tv,Jn1 (κ:=K107) (E:=E6) 21 [] (parts:=[(0,.tmp 37)]) (cells:=[vi x37]) (xs:=([x37]:List Int)) R R R R R R Y29 Tryzinfo2 R R R R R R R R R R ⟨[vi x37],[],Zl K107 w104 [],Zl K107 w104 [],R,Zl.sp (l1:=[]) (l2:=[]) R,Zl.sr (l1:=[]) (l2:=[]),R,R⟩ λaC aE w111 K112 S113 f114=>⟨tv,Ob h λx39 hx39 h=>Jm1 (κ:=K112) (E:=E6) 16 [] R R R R R R R R R Y29 Tryzinfo2 R R R R (f90.stp (S97.tr (S108.tr S113)) R R) (Sl.srcP (bR _) f114.rdc) bJ hx39 R λaA ax w116 K117 S118 f119=>⟨tv,Jc 1 R (Jz (Jp (Jf3 R ?_)))⟩⟩⟩
 cases h
 exact Jz1 λa ha=>⟨k,_,Ja3 _,⟨K117,((x39:(List Int)),((IntKind.i64.wrap (s4.2+1)):Int)),aA,ax,R,(S89.tr (S97.tr (S108.tr (S113.tr S118)))).wk R,f119,hk91⟩,(ha.mm R)⟩
 rintro _ w83 ⟨K84,s6,af,ae,rfl,S85,f86,rfl⟩
 have h:=hK81
 dsimp only[aft]at h
 refine Jp (Ja [2,1,2,1,1,2,1] R (Jd3 R U100 R Z26 ?_))
 have f121:=f65.stp (S72.tr (S78.tr S85)) R R
 refine Jb3 R I26 (f121.ld 0 R R) (Jn 1 R (Jn1 (κ:=K84) (E:=(Ep.own E6 2)) 17 [16] (parts:=[(0,.tmp 42)]) (cells:=[.slice af s6.1.length ae]) (xs:=([s6.1]:List (List Int))) R R R R R R Y26 Tryzinfo29 R R R R R R R R R R ⟨[.slice af s6.1.length ae],[],Zl K84 w83 [16],Zl K84 w83 [],R,Zl.sp (l1:=[16]) (l2:=[]) R,Zl.sr (l1:=[16]) (l2:=[]),⟨_,_,R,f86⟩,R⟩ λaD aB w122 K123 S124 f125=>⟨tv,Ob h λx44 hx44 h=>Jm1 (κ:=K123) (E:=(Ep.own E6 2)) 13 [17] R R R R R R R R R Y26 Tryzinfo29 R R R R (f64.stp (S72.tr (S78.tr (S85.tr S124))) R R) f125.src (dc R) hx44 R λap aq w127 K128 S129 f130=>⟨tv,Jd3 R U100 R Z26 (Ji1 (κ:=K128) 12 (off:=0) (vc:=[.slice ap x44.length aq]) (cs':=[.slice ap x44.length aq,.slice aa ([x16]:List Pair).length ab]) R R R R R R R Z26 R R (f121.stp (S124.tr S129) R R) R R λw132 S133 f134=>⟨tv,Jo (Jz (Jp (Jf3 R ?_)))⟩)⟩⟩))
 cases h
 exact Jz1 λa ha=>⟨k,_,Ja3 _,⟨K128,(((IntKind.i64.wrap (s1.1+1)):Int),(x44:(List (List Int)))),ap,aq,R,(S63.tr (S72.tr (S78.tr (S85.tr (S124.tr (S129.tr S133)))))).wk R,(f130.stp S133 R R),f134,hk66⟩,(ha.mm R)⟩
 rintro _ w56 ⟨K57,s3,ad,ac,rfl,S58,f59,f60,rfl⟩
 have h:=hK54
 dsimp only[aft]at h
 refine Jp (Je [1,1] R (Jl tv R R R R (Jd2 (cs:=[.slice ad s3.2.length ac,.slice aa ([x16]:List Pair).length ab]) I100 Z100 R R R (haE f60.cells)) (Jj1 (κ:=K57) 4 (vc:=[.slice ad s3.2.length ac,.slice aa ([x16]:List Pair).length ab]) R R R R R R R Z100 R R (f12.stp (S21.tr (S37.tr (S44.tr (S48.tr (S51.tr S58))))) R R) R λw139 S140 f141=>⟨tv,Jd (Ju (Ja2 (l:=[.cell 4 100]) V116 (bL R f141 I100 Z100 R R) R ?_))⟩)))
 cases h
 exact⟨(λb=>ren [(13,2),(11,3)] (K57 b)),ad,ac,aa,ab,R,((hE.stp (S3.tr (S7.tr (S11.tr (S21.tr (S37.tr (S44.tr (S48.tr (S51.tr (S58.tr S140))))))))) R R).map (ren [(13,2),(11,3)]) R R),((f59.stp S140 R R).map (ren [(13,2),(11,3)]) R R),((f45.stp (S48.tr (S51.tr (S58.tr S140))) R R).map (ren [(13,2),(11,3)]) R R)⟩
 refine JT λh=>Jx R (Je [2,1] R (Jf R (bI (parts:=[]) (cells:=[.slice none 0 0,.slice none 0 0]) R R (by kernel_rfl)) (Jj1 (κ:=K20) 4 (vc:=[.slice none 0 0,.slice none 0 0]) R R R R R R R Z100 R R (f12.stp S21 R R) R λw26 S27 f28=>⟨tv,Jd (Ju (Jw (Ja2 (l:=[.cell 4 100]) V116 (bL R f28 I100 Z100 R R) R ?_)))⟩)))
 cases h
 exact⟨K20,none,0,none,0,R,(hE.stp (S3.tr (S7.tr (S11.tr (S21.tr S27)))) R R),Ow.nil,Ow.nil⟩
theorem jT {w:World}{κ:Col}{ad ab ac aa ae af}{p0:Parity}(g0_0_0:Rd (Rp.int .i64) κ w 0 ad ab p0.Arena.Owner) (g0_0_1:Rd (Rp.sl (Rp.int .i64)) κ w 0 ac aa p0.Arena.Next) (g0_1:Rd (Rp.int .i64) κ w 0 ae af p0.Prio){r:Bool}(h:fH p0=some r):Ret Tryz.prog 125 [.agg #[.slice ad p0.Arena.Owner.length ab,.slice ac p0.Arena.Next.length aa,.slice ae p0.Prio.length af]] w (λv w'=>∃(κ':Col),v= .bool r/\Ent κ w κ' w'):=by
 unfold fH at h
 refine Ret.enter F125 R N125 R ?_
 dsimp only[envOf]
 have hE:=Ent.refl κ w
 refine Je [1,2] R (Jf1 (κ:=κ) 2 R R R R R R R λb1 w1 K2 S3 f4=>⟨tv,Jb 1 R (Jq (Je [2,1,1,2,2,2,1,2,2,2,1,2,2,2] R (Jd3 R U108 R Z104 (Jl tv R R R R (Jd2 (cs:=[.slice ad p0.Arena.Owner.length ab,.slice ac p0.Arena.Next.length aa]) I104 Z104 R R R (haE (f4.lds 0 2 R))) (Ob h λx6 hx6 h=>Jh R R R C119 (ms (κ:=Mk K2) (p0:=p0.Arena) (Ji3 (g0_0_0.stp S3 R R)) (Ji3 (g0_0_1.stp S3 R R)) hx6) ?_)))))⟩)
 rintro _ w7 ⟨k8,rfl,e9⟩
 obtain⟨K10,S11,m12⟩:=Ji e9 3 R
 refine⟨tv,Jn 2 R (Ob h λp17 h hK14=>Ju1 [(5,2),(6,1),(7,2),(8,2),(9,2),(10,1),(11,2),(12,2),(13,2)] [] (λL w'=>L=[(1,.pointer (some ⟨b1,0,none⟩)),(17,.bool p17)]/\∃κ',Stp [] K10 w7 κ' w') tv ?_ ?_)⟩
 revert h
 cases ht15:(!x6)
 refine JF λh=>Jd3 R U108 R Z29 ?_
 have f16:=f4.stp S11 R R
 refine Jb3 R I29 (f16.ld 2 R R) (Jf R (Je2 U29 R R) (Jd3 R U108 R Z104 (Jd3 R U104 R Z29 (Jb3 R I29 (f16.ld 0 R R) (Jf R (Je2 U29 R R) (Jn 2 R ?_))))))
 cases h
 exact Jv1 _ tv ⟨R,_,Jj3⟩ (KM R)
 refine JT λh=>Jn 1 R (Jd1 R R R R (Jn 3 R (Jd1 R R R R (Jn 3 R ?_))))
 cases h
 exact Jv1 _ tv ⟨R,_,Jj3⟩ (KM R)
 rintro _ w17 _ ⟨rfl,K18,S19⟩
 have h:=hK14
 refine Jd ?_
 revert h
 cases ht20:p17
 refine JF λh=>Jy R (Js (Jp (Jq (Je3 R ?_))))
 have hN22:(p0.Prio.length:Int)<=9223372036854775807:=g0_1.len_le
 refine Ob h λq2 hq24 hK23=>?_
 clear h
 refine Jx1 (λL w'=>∃κ',L=[]/\Stp [] K18 w17 κ' w'/\q2=t9 ()) ?_ ?_
 refine Jv (Jy1 (λk L w'=>∃κ' v3,L=[(1,.pointer (some ⟨b1,0,none⟩)),(3,vi v3)]/\Stp [] K18 w17 κ' w'/\0<=v3/\vH ((p0.Prio.length:Int)-v3)=k/\cntM (fu p0) k v3 ()=some q2) ⟨_,_,⟨K18,0,R,Jj3,(by decide),(by simp),hq24⟩,(KM R)⟩ ?_)
 rintro k _ w28 ⟨K29,v3,rfl,S30,hj22,hJ22,h⟩
 rcases k with _ | k
 have hk31:=h;obtain⟨o22,h⟩:=bO (t9 (Sum.inl ()):Bool⊕((Unit)⊕(Unit)))
 have hc22:decide (v3<(p0.Prio.length:Int))=false:=Jo2 (by omega)
 refine Jq (Jg3 [2,2,1,2,2] 1 R (Jd3 R U108 R Z29 (Jb3 R I29 ((f4.stp (S11.tr (S19.tr S30)) R R).ld 2 R R) (Jf R (Je2 U29 R R) (Jb 1 R (Jw2 R hc22 (Jc1 (Jt (Jt ?_)))))))))
 cases h
 have h:=hk31
 refine Jb1 ?_
 cases h
 exact Jw1 _ ⟨K29,R,S30.wk R,R⟩ KN
 obtain⟨o22,h,hk31⟩:=BI h;unfold fu at h
 have hc22:decide (v3<(p0.Prio.length:Int))=true:=Jn2 (by omega)
 refine Jq (Jg3 [2,2,1,2,2] 1 R (Jd3 R U108 R Z29 ?_))
 have f33:=f4.stp (S11.tr (S19.tr S30)) R R
 refine Jb3 R I29 (f33.ld 2 R R) (Jf R (Je2 U29 R R) (Jb 1 R (Jv2 R hc22 (Js (Jp (Jq (Jv (Je [2,1,2,2,1,1,2] R (Jd3 R U108 R Z29 (Jb3 R I29 (f33.ld 2 R R) (Jn 1 R (Ob h λx28 hx28 h=>Jc3 R g0_1 hx28 U29 Z2 (Jb3 R I2 ((g0_1.stp (S3.tr (S11.tr (S19.tr S30))) R R).gInt hx28) (Ob h λx30 hx30 h=>Jh R R R C57 (cO (κ:=Mk K29) hx30) ?_))))))))))))))
 rintro _ w35 ⟨k36,rfl,e37⟩
 obtain⟨K38,S39,m40⟩:=Ji e37 5 R
 refine⟨tv,Jb 1 R ?_⟩
 revert h
 cases ht42:(!x30)
 refine JF λh=>Jy R (Js (Jz (Jp (Jf3 R ?_))))
 have hw22:t5 .i64 (v3+1)=v3+1:=wr1 hj22 (Jm2 hc22) hN22
 rw[hw22]
 have hc22:=Jm2 hc22
 cases h
 exact Jz1 λa ha=>⟨k,_,Ja3 _,⟨K38,v3+1,R,(S30.tr S39).wk R,by omega,by omega,hk31⟩,(ha.mm R)⟩
 refine JT λh=>Jx R (Je3 R (Ju (Ja1 (Jw (Jw ?_)))))
 cases h
 obtain rfl:=Option.some.inj hk31
 have h:=hK23
 dsimp only[aft]at h
 refine Ja1 (Jq2 (Jw (Ja2 (l:=[.tmp 2]) V125 (Jp2 R R) R ?_)))
 cases h
 exact⟨K38,R,(hE.stp (S3.tr (S11.tr (S19.tr (S30.tr S39)))) R R)⟩
 rintro _ w25 ⟨K26,rfl,S27,rfl⟩
 have h:=hK23
 dsimp only[aft]at h
 refine Jp (Je3 R (Ju (Ja2 (l:=[.tmp 2]) V125 (Jp2 R R) R ?_)))
 cases h
 exact⟨K26,R,(hE.stp (S3.tr (S11.tr (S19.tr S27))) R R)⟩
 refine JT λh=>Jx R (Je3 R (Ju (Jw (Ja2 (l:=[.tmp 2]) V125 (Jp2 R R) R ?_))))
 cases h
 exact⟨K18,R,(hE.stp (S3.tr (S11.tr S19)) R R)⟩
theorem kp {w:World}{κ:Col}{af ad ae ac ah ai}{p0:Parity}(g0_0_0:Rd (Rp.int .i64) κ w 0 af ad p0.Arena.Owner) (g0_0_1:Rd (Rp.sl (Rp.int .i64)) κ w 0 ae ac p0.Arena.Next) (g0_1:Rd (Rp.int .i64) κ w 0 ah ai p0.Prio){r:(List Int)}(h:eW p0=some r):Ret Tryz.prog 80 [.agg #[.slice af p0.Arena.Owner.length ad,.slice ae p0.Arena.Next.length ac,.slice ah p0.Prio.length ai]] w (λv w'=>∃(κ':Col) (ra0:Option Addr) (ru0:Nat),v= .slice ra0 r.length ru0/\Ent κ w κ' w'/\Oc E6 2 κ' w' 2 ra0 ru0 r):=by
 unfold eW at h
 refine Ret.enter F80 R N80 R ?_
 dsimp only[envOf]
 have hE:=Ent.refl κ w
 refine Je [1,2] R (Jf1 (κ:=κ) 2 R R R R R R R λb1 w1 K2 S3 f4=>⟨tv,Jb 1 R (Je [2,1,2,1,2] R (Jd3 R U108 R Z29 (Jb3 R I29 (f4.ld 2 R R) (Jf R (Je2 U29 R R) (Ob h λx11 hx11 h=>Jl1 (κ:=K2) (E:=E6) (z:=(0:Int)) 3 R R R R R R R Y29 Tryzinfo2 R R R R R (λ_ _ _=>R) (Ju2 hx11) λaa ab w5 K6 S7 f8=>⟨tv,Jb 1 R (Jq (Js1 (κ:=K6) [2] none [(1,2),(0,0),(2,0),(3,1),(4,1),(5,2),(6,2),(7,2),(8,2),(9,2)] [] (by kernel_rfl) (by kernel_rfl) λw10 S9=>Jd3 R U108 R Z104 ?_))⟩)))))⟩)
 have f11:=f4.stp (S7.tr S9) R R
 refine Jg R (Jd2 (cs:=[.slice af p0.Arena.Owner.length ad,.slice ae p0.Arena.Next.length ac,.slice ah p0.Prio.length ai]) I108 Z108 R R R (haC f11.cells R)) (Jg R (Jd2 (cs:=[.slice af p0.Arena.Owner.length ad,.slice ae p0.Arena.Next.length ac]) I104 Z104 R R R (haC (f11.lds 0 2 R) R)) (Ob h λx16 hx16 h=>?_))
 have f12:=g0_0_0.stp (S3.tr (S7.tr S9)) R R
 have f13:=g0_0_1.stp (S3.tr (S7.tr S9)) R R
 refine Jh R R R C142 (r6 (κ:=Mk K6) (p0:=p0.Arena) (Ji3 f12) (Ji3 f13) hx16) ?_
 rintro _ w14 ⟨k15,al,ao,rfl,e16,f17⟩
 obtain⟨K18,S19,m20⟩:=Ji e16 4 R
 refine⟨(S19.cl R),Ob h λx17 hx17 h=>Jh R R R C141 (oP (κ:=Mk K18) (p0:=p0) (Ji3 (f12.stp S19 R R)) (Ji3 (f13.stp S19 R R)) (Ji3 (g0_1.stp (S3.tr (S7.tr (S9.tr S19))) R R)) (Ji3 (f17.mx (bH _) m20 R (R:4+2=6)).rdc) hx17) ?_⟩
 rintro _ w26 ⟨k27,am,an,aj,ak,rfl,e28,f29,f30⟩
 obtain⟨K31,S32,m33⟩:=Ji e28 7 R
 refine⟨((S19.tr S32).cl R),?_⟩
 have f36:=f30.mx (bH _) m33 R (R:7+3=10)
 refine Jn 5 R (Jt1 (Jd (Jq (Jg3 [2,2,2] 1 R (Jf R (Je2 U29 R R) (Jb 1 R ?_))))))
 have hN37:(x17.2.length:Int)<=9223372036854775807:=f36.len_le
 refine Ob h λq2 hq39 hK38=>?_
 clear h
 refine Jx1 (λL w'=>∃κ',∃s3:(List Int),L=[(3,.slice aa x11.length ab)]/\Stp [3] K31 w26 κ' w'/\Oc E6 2 κ' w' 3 aa ab s3/\x11.length=s3.length/\q2=t9 s3) ?_ ?_
 refine Jv (Jy1 (λk L w'=>∃κ' v22,∃s1:(List Int),L=[(3,.slice aa x11.length ab),(20,.slice aj x17.2.length ak),(21,vi (x17.2.length:Int)),(22,vi v22)]/\Stp [3] K31 w26 κ' w'/\Oc E6 2 κ' w' 3 aa ab s1/\x11.length=s1.length/\0<=v22/\vH ((x17.2.length:Int)-v22)=k/\cntM (fY x17) k v22 s1=some q2) ⟨_,_,⟨K31,0,(x11:(List Int)),R,Jj3,(f8.stp (S9.tr (S19.tr S32)) R R),R,(by decide),(by simp),hq39⟩,(KM R)⟩ ?_)
 rintro k _ w45 ⟨K46,v22,s1,rfl,S47,f48,hn49,hj37,hJ37,h⟩
 rcases k with _ | k
 have hk51:=h;obtain⟨o37,h⟩:=bO (t9 (Sum.inl s1):(List Int)⊕(((List Int))⊕((List Int))))
 have hc37:decide (v22<(x17.2.length:Int))=false:=Jo2 (by omega)
 refine Je3 R (Jq (Jw2 R hc37 (Jc1 (Jt (Jt ?_)))))
 cases h
 have h:=hk51
 refine Jb1 ?_
 cases h
 exact Jw1 _ ⟨K46,(s1:(List Int)),R,S47.wk R,f48,hn49,R⟩ (KM R)
 obtain⟨o37,h,hk51⟩:=BI h;unfold fY at h
 have hc37:decide (v22<(x17.2.length:Int))=true:=Jn2 (by omega)
 refine Je3 R (Jq (Jv2 R hc37 (Js (Jp (Jq (Jv (Je [2,1,2] R (Ob h λx24 hx24 h=>Jc3 R f36.rdc hx24 U29 Z2 (Jb3 R I2 ((f36.stp S47 R R).rdc.gInt hx24) (Jb 1 R (Jh3 [2,2,2,1] 2 R (Ob h λx28 hx28 h=>Jf R (Jf2 f48.rdc hx28 U29 Z2 R R hn49 R) (Ob h λy429 hy429 h=>Jk1 (κ:=K46) (E:=E6) 3 [] R R R R R R R R Z2 R R R R f48 hy429 λw53 K54 S55 f56=>⟨tv,?_⟩)))))))))))))
 have hn57:x11.length=y429.length:=hn49.trans (Jt2 hy429).2.2.2.symm
 refine Jo (Jz (Jp (Jf3 R ?_)))
 have hw37:t5 .i64 (v22+1)=v22+1:=wr1 hj37 (Jm2 hc37) hN37
 rw[hw37]
 have hc37:=Jm2 hc37
 cases h
 exact Jz1 λa ha=>⟨k,_,Ja3 _,⟨K54,v22+1,(y429:(List Int)),R,(S47.tr S55).wk R,f56,hn57,by omega,by omega,hk51⟩,(ha.mm R)⟩
 rintro _ w40 ⟨K41,s3,rfl,S42,f43,hn44,rfl⟩
 have h:=hK38
 dsimp only[aft]at h
 refine Jp (Je3 R (Ju (Ja2 (l:=[.tmp 2]) V80 (Jp2 R R) R ?_)))
 cases h
 exact⟨(λb=>ren [(3,2)] (K41 b)),aa,ab,(by simp only[hn44]),((hE.stp (S3.tr (S7.tr (S9.tr (S19.tr (S32.tr S42))))) R R).map (ren [(3,2)]) R R),(f43.map (ren [(3,2)]) R R)⟩
theorem pj {w:World}{κ:Col}{aj ah ai ae am al}{p0:Parity}{a1 u1}{p1:(List Int)}{a2 u2}{p2:(List Int)}(g0_0_0:Rd (Rp.int .i64) κ w 0 aj ah p0.Arena.Owner) (g0_0_1:Rd (Rp.sl (Rp.int .i64)) κ w 0 ai ae p0.Arena.Next) (g0_1:Rd (Rp.int .i64) κ w 0 am al p0.Prio) (g1:Rd (Rp.int .i64) κ w 0 a1 u1 p1) (g2:Rd (Rp.int .i64) κ w 0 a2 u2 p2){r:Answer}(h:iZ p0 p1 p2=some r):Ret Tryz.prog 148 [.agg #[.slice aj p0.Arena.Owner.length ah,.slice ai p0.Arena.Next.length ae,.slice am p0.Prio.length al],.slice a1 p1.length u1,.slice a2 p2.length u2] w (λv w'=>∃(κ':Col) (ra0:Option Addr) (ru0:Nat) (ra1:Option Addr) (ru1:Nat),v= .agg #[.slice ra0 r.Won.length ru0,.slice ra1 r.Plan.length ru1]/\Ent κ w κ' w'/\Oc E6 2 κ' w' 2 ra0 ru0 r.Won/\Oc E6 2 κ' w' 3 ra1 ru1 r.Plan):=by
 unfold iZ at h
 refine Ret.enter F148 R N148 R ?_
 dsimp only[envOf]
 have hE:=Ent.refl κ w
 refine Je [1,1] R (Jf1 (κ:=κ) 2 R R R R R R R λb3 w1 K2 S3 f4=>⟨tv,Jg1 (κ:=K2) 3 R R R R R X113 R λb6 w5 K6 S7 f8=>⟨tv,Jd (Je [1,2,1,2] R (Jo1 (κ:=K6) (E:=E6) 4 R R R R R Y29 Tryzinfo2 R λaz ar w9 K10 S11 f12=>⟨tv,Jn 1 R (Ob h λx16 hx16 h=>Jm1 (κ:=K10) (E:=E6) 4 [] R R R R R R R R R Y29 Tryzinfo2 R R R R f12 (Sl.srcP (bR _) (g1.stp (S3.tr (S7.tr S11)) R R)) bJ hx16 R λaa ab w14 K15 S16 f17=>⟨tv,Jb 1 R (Jq (Jg3 [2,2,2] 1 R (Jf R (Je2 U29 R R) (Jb 1 R ?_))))⟩)⟩))⟩⟩)
 have hN18:(x16.length:Int)<=9223372036854775807:=f17.len_le
 refine Ob h λq2 hq20 hK19=>?_
 clear h
 refine Jx1 (λL w'=>∃κ',∃s3:(List Int),L=[(2,.slice a2 p2.length u2),(6,.pointer (some ⟨b6,0,none⟩)),(7,.slice aa x16.length ab)]/\Stp [4] K15 w14 κ' w'/\Oc E6 2 κ' w' 4 aa ab s3/\x16.length=s3.length/\q2=t9 s3) ?_ ?_
 refine Jv (Jy1 (λk L w'=>∃κ' v19,∃s1:(List Int),L=[(2,.slice a2 p2.length u2),(3,.pointer (some ⟨b3,0,none⟩)),(6,.pointer (some ⟨b6,0,none⟩)),(7,.slice aa x16.length ab),(18,vi (x16.length:Int)),(19,vi v19)]/\Stp [4] K15 w14 κ' w'/\Oc E6 2 κ' w' 4 aa ab s1/\x16.length=s1.length/\0<=v19/\vH ((x16.length:Int)-v19)=k/\cntM (fi p0 p2) k v19 s1=some q2) ⟨_,_,⟨K15,0,(x16:(List Int)),R,Jj3,f17,R,(by decide),(by simp),hq20⟩,(KM R)⟩ ?_)
 rintro k _ w26 ⟨K27,v19,s1,rfl,S28,f29,hn30,hj18,hJ18,h⟩
 rcases k with _ | k
 have hk31:=h;obtain⟨o18,h⟩:=bO (t9 (Sum.inl s1):Answer⊕(((List Int))⊕((List Int))))
 have hc18:decide (v19<(x16.length:Int))=false:=Jo2 (by omega)
 refine Je3 R (Jq (Jw2 R hc18 (Jc1 (Jt (Jt ?_)))))
 cases h
 have h:=hk31
 refine Jb1 ?_
 cases h
 exact Jw1 _ ⟨K27,(s1:(List Int)),R,S28.wk R,f29,hn30,R⟩ (KM R)
 obtain⟨o18,h,hk31⟩:=BI h;unfold fi at h
 have hc18:decide (v19<(x16.length:Int))=true:=Jn2 (by omega)
 refine Je3 R (Jq (Jv2 R hc18 (Js (Jp (Jq (Jv (Je3 R (Jq (Jq (Js1 (κ:=K27) [0,2,4] none [(0,2),(1,2),(3,2),(6,2),(7,2),(8,2),(2,0),(4,2),(5,0),(9,0),(10,2),(11,2),(12,2),(13,2),(14,2),(15,0),(16,2),(17,2)] [] (by kernel_rfl) (by kernel_rfl) λw33 S32=>Jd3 R U108 R Z104 (Jd3 R U104 R Z29 (Jn 3 R (Ob h λx30 hx30 h=>Jc3 R g2 hx30 U29 Z2 ?_)))))))))))))
 have f34:=f4.stp (S7.tr (S11.tr (S16.tr (S28.tr S32)))) R R
 refine Jg R (Jc2 I29 R R (hvC (f34.ld 0 R R) R)) (Ob h λx26 hx26 h=>Jc3 R g0_0_0 hx26 U29 Z2 ?_)
 have f35:=g0_0_0.stp (S3.tr (S7.tr (S11.tr (S16.tr (S28.tr S32))))) R R
 refine Jg R (Jc2 I2 R R (hvC (f35.gInt hx26) R)) ?_
 have f36:=g2.stp (S3.tr (S7.tr (S11.tr (S16.tr (S28.tr S32))))) R R
 refine Jg R (Jc2 I2 R R (hvC (f36.gInt hx30) R)) (Jn 2 R (Ob h λp39 h hK37=>Ju1 [(12,2),(13,2),(14,2),(15,0),(16,2),(17,2)] [] (λL w'=>L=[(2,.slice a2 p2.length u2),(3,.pointer (some ⟨b3,0,none⟩)),(6,.pointer (some ⟨b6,0,none⟩)),(7,.slice aa x16.length ab),(8,vi v19),(18,vi (x16.length:Int)),(19,vi v19),(39,.bool p39)]/\∃κ',Stp [] K27 w33 κ' w') (Cl.refl _ _ _) ?_ ?_))
 revert h
 cases ht38:(x26 !=x30)
 refine JF λh=>Jn 2 R (Ob h λx36 hx36 h=>Jf R (Jf2 f29.rdc hx36 U29 Z2 R R hn30 R) (Jg R (Jc2 I2 R R (hvC ((f29.stp S32 R R).rdc.gInt hx36) R)) (Jn 2 R ?_)))
 cases h
 exact Jv1 _ (Cl.refl _ _ _) ⟨R,_,Jj3⟩ (KM R)
 refine JT λh=>Jn 3 R (Je1 R R R R (Jn 2 R ?_))
 cases h
 exact Jv1 _ (Cl.refl _ _ _) ⟨R,_,Jj3⟩ (KM R)
 rintro _ w40 _ ⟨rfl,K41,S42⟩
 have h:=hK37
 refine Jt1 (Jd ?_)
 revert h
 cases ht43:p39
 refine JF λh=>Jy R (Js (Jp (Jg3 [2,2,2,2,2,1,1,2] 1 R (Jf R (bI (parts:=[(0,.tmp 40)]) (cells:=[.slice a2 p2.length u2,.slice none 0 0]) R R (by kernel_rfl)) (Jn 2 R (Ob h λx44 hx44 h=>Jc3 R f36 hx44 U29 Z2 ?_))))))
 have f45:=f36.stp S42 R R
 refine Jb3 R I2 (f45.gInt hx44) (Ob h λx46 hx46 h=>Jh R R R C195 (pd (κ:=Mk K41) (p0:=(⟨p2,([]:List Int)⟩:Answer)) (Ji3 f45) Sl.nil hx46) ?_)
 rintro _ w46 ⟨k47,ac,ad,rfl,e48,f49⟩
 obtain⟨K50,S51,m52⟩:=Ji e48 5 R
 refine⟨tv,Jb 1 R (Je [2,2,1,2,2,1,2,2] R (Jd3 R U108 R Z104 (Jd3 R U104 R Z26 ?_)))⟩
 have f55:=f34.stp (S42.tr S51) R R
 refine Jb3 R I26 (f55.ld 1 R R) (Jn 1 R (Ob h λx51 hx51 h=>Jc3 R g0_0_1 hx51 U26 Z29 ?_))
 have f56:=g0_0_1.stp (S3.tr (S7.tr (S11.tr (S16.tr (S28.tr (S32.tr (S42.tr S51))))))) R R
 obtain⟨ax51,ux51,f57,hl58⟩:=f56.gSl hx51
 refine Jb3 R I29 hl58 (Jf R (Je2 U29 R R) (Jb 1 R ?_))
 have hN59:(x51.length:Int)<=9223372036854775807:=f57.len_le
 refine Ob h λq5 hq61 hK60=>?_
 clear h
 refine Jx1 (λL w'=>∃κ',∃s6:(List Int),L=[(2,.slice a2 p2.length u2),(3,.pointer (some ⟨b3,0,none⟩)),(6,.pointer (some ⟨b6,0,none⟩)),(7,.slice aa x16.length ab),(18,vi (x16.length:Int)),(19,vi v19)]/\Stp [4] K50 w46 κ' w'/\Oc E6 2 κ' w' 4 aa ab s6/\x16.length=s6.length/\q5=t9 s6) ?_ ?_
 refine Jv (Jy1 (λk L w'=>∃κ' v54,∃s4:(List Int),L=[(2,.slice a2 p2.length u2),(3,.pointer (some ⟨b3,0,none⟩)),(6,.pointer (some ⟨b6,0,none⟩)),(7,.slice aa x16.length ab),(8,vi v19),(9,.slice ac x46.length ad),(18,vi (x16.length:Int)),(19,vi v19),(52,.slice ax51 x51.length ux51),(53,vi (x51.length:Int)),(54,vi v54)]/\Stp [4] K50 w46 κ' w'/\Oc E6 2 κ' w' 4 aa ab s4/\x16.length=s4.length/\0<=v54/\vH ((x51.length:Int)-v54)=k/\cntM (em p0 p2 v19 x46 x51) k v54 s4=some q5) ⟨_,_,⟨K50,0,(s1:(List Int)),R,Jj3,(f29.stp (S32.tr (S42.tr S51)) R R),hn30,(by decide),(by simp),hq61⟩,(KM R)⟩ ?_)
 rintro k _ w67 ⟨K68,v54,s4,rfl,S69,f70,hn71,hj59,hJ59,h⟩
 rcases k with _ | k
 have hk73:=h;obtain⟨o59,h⟩:=bO (t9 (Sum.inl s4):Answer⊕(((List Int))⊕((List Int))))
 have hc59:decide (v54<(x51.length:Int))=false:=Jo2 (by omega)
 refine Je3 R (Jq (Jw2 R hc59 (Jc1 (Jt (Jt ?_)))))
 cases h
 have h:=hk73
 refine Jb1 ?_
 cases h
 exact Jw1 _ ⟨K68,(s4:(List Int)),R,S69.wk R,f70,hn71,R⟩ (KM R)
 obtain⟨o59,h,hk73⟩:=BI h;unfold em at h
 have hc59:decide (v54<(x51.length:Int))=true:=Jn2 (by omega)
 refine Je3 R (Jq (Jv2 R hc59 (Js (Jp (Jq (Jv (Je [2,1,2] R (Ob h λx56 hx56 h=>Jc3 R f57 hx56 U29 Z2 (Jb3 R I2 ((f57.stp S69 R R).gInt hx56) (Jb 1 R (Jq (Jq (Js1 (κ:=K68) [0] none [(0,2),(1,2),(2,2),(4,2),(5,2),(6,2),(3,0),(7,0),(8,2)] [] (by kernel_rfl) (by kernel_rfl) λw76 S75=>Jn 2 R (Ob h λx60 hx60 h=>Jc3 R f45 hx60 U29 Z2 (Jn 2 R (Ob h λx64 hx64 h=>Jc3 R f45 hx64 U29 Z2 ?_))))))))))))))))
 have f77:=f45.stp (S51.tr (S69.tr S75)) R R
 refine Jg R (Jc2 I2 R R (hvC (f77.gInt hx60) R)) (Jg R (Jc2 I2 R R (hvC (f77.gInt hx64) R)) (Jn 1 R (Jt1 (Jd ?_))))
 revert h
 cases ht78:(x60 !=x64)
 refine JF λh=>Jy R (Js (Jp (Jg3 [2,2,2,2,1] 3 R (Ob h λx70 hx70 h=>Jf R (Jf2 f70.rdc hx70 U29 Z2 R R hn71 R) (Ob h λy448 hy448 h=>Jk1 (κ:=K68) (E:=E6) 4 [] R R R R R R R R Z2 R R R R (f70.stp S75 R R) hy448 λw81 K82 S83 f84=>⟨tv,?_⟩)))))
 have hn85:x16.length=y448.length:=hn71.trans (Jt2 hy448).2.2.2.symm
 refine Jd (Je [1,2,1,2,1,2,2,2,2,2] R (Jl tv R R R R (Jd2 (cs:=[.slice aj p0.Arena.Owner.length ah,.slice ai p0.Arena.Next.length ae,.slice am p0.Prio.length al]) I108 Z108 R R R (haE (f55.stp (S69.tr (S75.tr S83)) R R).cells)) (Jn 1 R (Ob h λx74 hx74 h=>Jh R R R C196 (Ret.cast (by simp only[hn85,List.cons_append,List.nil_append]) (qL (κ:=Mk K82) (p0:=p0) (Ji3 (f35.stp (S42.tr (S51.tr (S69.tr (S75.tr S83)))) R R)) (Ji3 (f56.stp (S69.tr (S75.tr S83)) R R)) (Ji3 (g0_1.stp (S3.tr (S7.tr (S11.tr (S16.tr (S28.tr (S32.tr (S42.tr (S51.tr (S69.tr (S75.tr S83)))))))))) R R)) (Ji3 f84.rdc) hx74)) ?_))))
 rintro _ w90 ⟨k91,ax,aw,av,aC,ap,au,rfl,e92,f93,f94,f95⟩
 obtain⟨K96,S97,m98⟩:=Ji e92 8 R
 refine⟨tv,Jn 1 R (Ob h λx76 hx76 h=>Jh R R R C141 (oP (κ:=Mk K96) (p0:=x74) (Ji3 (f93.mx (bH _) m98 R (R:8+2=10)).rdc) (Ji3 (f94.mx (co (bH _) _) m98 R (R:8+3=11)).rdc) (Ji3 (f95.mx (bH _) m98 R (R:8+4=12)).rdc) (Ji3 ((f49.mx (bH _) m52 R (R:5+2=7)).stp (S69.tr (S75.tr (S83.tr S97))) R R).rdc) hx76) ?_)⟩
 rintro _ w104 ⟨k105,an,ao,aA,aq,rfl,e106,f107,f108⟩
 obtain⟨K109,S110,m111⟩:=Ji e106 13 R
 refine⟨tv,Jb 5 R (Jq (Jg3 [2,2,2,1,2,2,2,2,2,2,2,2,2,2,1,2,2,2,2,2,2,2] 2 R (Ob h λx81 hx81 h=>Jc3 R f77 hx81 U29 Z2 ?_)))⟩
 have f115:=f77.stp (S83.tr (S97.tr S110)) R R
 refine Jb3 R I2 (f115.gInt hx81) (Jn 2 R (Ob h λp88 h hK116=>Ju1 [(6,2),(7,2),(8,2),(9,2)] [(10,2),(11,2),(12,2),(13,2),(14,1),(15,2),(16,2),(17,2),(18,2),(19,2),(20,2),(21,2)] (λL w'=>L=[(2,.slice a2 p2.length u2),(3,.pointer (some ⟨b3,0,none⟩)),(6,.pointer (some ⟨b6,0,none⟩)),(7,.slice aa x16.length ab),(8,vi v19),(9,.slice ac x46.length ad),(12,.slice an x76.1.length ao),(18,vi (x16.length:Int)),(19,vi v19),(52,.slice ax51 x51.length ux51),(53,vi (x51.length:Int)),(54,vi v54),(88,.bool p88)]/\∃κ',Stp [] K109 w104 κ' w') tv ?_ ?_))
 revert h
 cases ht117:(x81==0)
 refine JF λh=>Jn 4 R ?_
 cases h
 exact Jv1 _ tv ⟨R,_,Jj3⟩ (KM R)
 refine JT λh=>Jn 1 R (Jf R (Je2 U29 R R) (Jn 2 R ?_))
 cases h
 exact Jv1 _ tv ⟨R,_,Jj3⟩ (KM R)
 rintro _ w118 _ ⟨rfl,K119,S120⟩
 have h:=hK116
 refine Jn 1 R (Ob h λp100 h hK121=>Ju1 [(11,2),(12,2),(13,2),(14,1),(15,2),(16,2),(17,2),(18,2),(19,2),(20,2),(21,2)] [] (λL w'=>L=[(2,.slice a2 p2.length u2),(3,.pointer (some ⟨b3,0,none⟩)),(6,.pointer (some ⟨b6,0,none⟩)),(7,.slice aa x16.length ab),(8,vi v19),(9,.slice ac x46.length ad),(18,vi (x16.length:Int)),(19,vi v19),(52,.slice ax51 x51.length ux51),(53,vi (x51.length:Int)),(54,vi v54),(100,.bool p100)]/\∃κ',Stp [] K119 w118 κ' w') tv ?_ ?_)
 revert h
 cases ht122:p88
 refine JF λh=>Jn 2 R (Ob h λx92 hx92 h=>Jc3 R f115 hx92 U29 Z2 (Jb3 R I2 ((f115.stp S120 R R).gInt hx92) (Jn 2 R (Ob h λp99 h hK124=>Ju1 [(17,2),(18,2),(19,2),(20,2)] [(21,2)] (λL w'=>L=[(2,.slice a2 p2.length u2),(3,.pointer (some ⟨b3,0,none⟩)),(6,.pointer (some ⟨b6,0,none⟩)),(7,.slice aa x16.length ab),(8,vi v19),(9,.slice ac x46.length ad),(18,vi (x16.length:Int)),(19,vi v19),(52,.slice ax51 x51.length ux51),(53,vi (x51.length:Int)),(54,vi v54),(89,.bool false),(90,.slice a2 p2.length u2),(91,vi v19),(92,.pointer (some (aAt a2 (v19.toNat * 1)))),(93,vi x92),(94,.bool (x92==1)),(95,.bool (x92==1)),(99,.bool p99)]/\∃κ',Stp [] K119 w118 κ' w') tv ?_ ?_))))
 revert h
 cases ht125:(x92==1)
 refine JF λh=>Jn 4 R ?_
 cases h
 exact Jv1 _ tv ⟨R,_,Jj3⟩ (KM R)
 refine JT λh=>Jn 1 R (Jf R (Je2 U29 R R) (Jn 2 R ?_))
 cases h
 exact Jv1 _ tv ⟨R,_,Jj3⟩ (KM R)
 rintro _ w126 _ ⟨rfl,K127,S128⟩
 have h:=hK124
 refine Jn 1 R ?_
 cases h
 exact Jv1 _ tv ⟨R,_,S128.wk R⟩ (KM R)
 refine JT λh=>Jn 3 R (Jd1 R R R R (Jn 7 R ?_))
 cases h
 exact Jv1 _ tv ⟨R,_,Jj3⟩ (KM R)
 rintro _ w129 _ ⟨rfl,K130,S131⟩
 have h:=hK121
 refine Jd ?_
 revert h
 cases ht132:p100
 refine JF λh=>Jy R (Js (Jp (Jh3 [2,2,2,1] 2 R (Ob h λx103 hx103 h=>Jf R (Jf2 f84.rdc hx103 U29 Z2 R R hn85 R) (Ob h λy461 hy461 h=>Jk1 (κ:=K130) (E:=E6) 4 [] R R R R R R R R Z2 R R R R (f84.stp (S97.tr (S110.tr (S120.tr S131))) R R) hy461 λw135 K136 S137 f138=>⟨tv,?_⟩)))))
 have hn139:x16.length=y461.length:=hn85.trans (Jt2 hy461).2.2.2.symm
 refine Jo (Jz (Jp (Jf3 R ?_)))
 have hw59:t5 .i64 (v54+1)=v54+1:=wr1 hj59 (Jm2 hc59) hN59
 rw[hw59]
 have hc59:=Jm2 hc59
 cases h
 exact Jz1 λa ha=>⟨k,_,Ja3 _,⟨K136,v54+1,(y461:(List Int)),R,(S69.tr (S75.tr (S83.tr (S97.tr (S110.tr (S120.tr (S131.tr S137))))))).wk R,f138,hn139,by omega,by omega,hk73⟩,(ha.mm R)⟩
 refine JT λh=>Jx R (Jc1 (Jt (Jz2 R (Jt (Jt ?_)))))
 cases h
 have h:=hk73
 refine Jb1 ?_
 cases h
 exact Jw1 _ ⟨K130,(y448:(List Int)),R,(S69.tr (S75.tr (S83.tr (S97.tr (S110.tr (S120.tr S131)))))).wk R,(f84.stp (S97.tr (S110.tr (S120.tr S131))) R R),hn85,R⟩ (KM R)
 refine JT λh=>Jx R (Jc1 (Jt (Jb1 (Jp (Jf3 R ?_)))))
 have hw59:t5 .i64 (v54+1)=v54+1:=wr1 hj59 (Jm2 hc59) hN59
 rw[hw59]
 have hc59:=Jm2 hc59
 cases h
 exact Jz1 λa ha=>⟨k,_,Ja3 _,⟨K68,v54+1,(s4:(List Int)),R,(S69.tr S75).wk R,(f70.stp S75 R R),hn71,by omega,by omega,hk73⟩,(ha.mm R)⟩
 rintro _ w62 ⟨K63,s6,rfl,S64,f65,hn66,rfl⟩
 have h:=hK60
 dsimp only[aft]at h
 refine Jz (Jp (Jf3 R ?_))
 have hw18:t5 .i64 (v19+1)=v19+1:=wr1 hj18 (Jm2 hc18) hN18
 rw[hw18]
 have hc18:=Jm2 hc18
 cases h
 exact Jz1 λa ha=>⟨k,_,Ja3 _,⟨K63,v19+1,(s6:(List Int)),R,(S28.tr (S32.tr (S42.tr (S51.tr S64)))).wk R,f65,hn66,by omega,by omega,hk31⟩,(ha.mm R)⟩
 refine JT λh=>Jx R (Jc1 (Jt (Jb1 (Jp (Jf3 R ?_)))))
 have hw18:t5 .i64 (v19+1)=v19+1:=wr1 hj18 (Jm2 hc18) hN18
 rw[hw18]
 have hc18:=Jm2 hc18
 cases h
 exact Jz1 λa ha=>⟨k,_,Ja3 _,⟨K41,v19+1,(s1:(List Int)),R,(S28.tr (S32.tr S42)).wk R,(f29.stp (S32.tr S42) R R),hn30,by omega,by omega,hk31⟩,(ha.mm R)⟩
 rintro _ w21 ⟨K22,s3,rfl,S23,f24,hn25,rfl⟩
 have h:=hK19
 dsimp only[aft]at h
 refine Jp (Je [1,2,1,2,2,1] R (Jo1 (κ:=K22) (E:=E6) 5 R R R R R Y29 Tryzinfo2 R λaB ay w140 K141 S142 f143=>⟨tv,Jn 1 R (Ob h λx108 hx108 h=>Jm1 (κ:=K141) (E:=E6) 5 [] R R R R R R R R R Y29 Tryzinfo2 R R R R f143 (Sl.srcP (bR _) (g2.stp (S3.tr (S7.tr (S11.tr (S16.tr (S23.tr S142))))) R R)) bJ hx108 R λak af w145 K146 S147 f148=>⟨tv,Jn 1 R (Jf R (bI (parts:=[(0,.tmp 108),(1,.tmp 109)]) (cells:=[.slice ak x108.length af,.slice aa x16.length ab]) R R (by kernel_rfl)) (Jj1 (κ:=K146) 3 (vc:=[.slice ak x108.length af,.slice aa x16.length ab]) R R R R R R R Z113 R R (f8.stp (S11.tr (S16.tr (S23.tr (S142.tr S147)))) R R) R λw150 S151 f152=>⟨tv,Jd (Ju (Ja2 (l:=[.cell 6 113]) V148 (bL R f152 I113 Z113 R R) R ?_))⟩))⟩)⟩))
 cases h
 exact⟨(λb=>ren [(5,2),(4,3)] (K146 b)),ak,af,aa,ab,(by simp only[hn25]),((hE.stp (S3.tr (S7.tr (S11.tr (S16.tr (S23.tr (S142.tr (S147.tr S151))))))) R R).map (ren [(5,2),(4,3)]) R R),((f148.stp S151 R R).map (ren [(5,2),(4,3)]) R R),((f24.stp (S142.tr (S147.tr S151)) R R).map (ren [(5,2),(4,3)]) R R)⟩
end Go.Proofs.YtpcjbkgbnoocaaaGreat
