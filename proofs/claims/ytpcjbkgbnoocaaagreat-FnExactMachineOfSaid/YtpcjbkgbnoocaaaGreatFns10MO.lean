/- The walks, part 10. By program. -/
import Derived.Test.YtpcjbkgbnoocaaaGreatFns9MO
set_option linter.unusedVariables false
set_option linter.unusedSimpArgs false
open Go.IntKind renaming wrap → t0
open Sum renaming inr → xe, inl → xf
open Int renaming toNat → xh
namespace Go.Proofs.YtpcjbkgbnoocaaaGreat
open Go Go.Wk Go.Proofs
set_option maxRecDepth 100000
set_option maxHeartbeats 1000000
variable {w:World}{κ:Col}
theorem po {p0:Sig}{a1 u1}{p1:(List Clause)}(g1:Rd Clause.rp κ w 0 a1 u1 p1){r:Bool}(h:ft p0 p1=some r):Ret Tryz.prog 114 [.agg #[vi p0.In,vi p0.Out],.slice a1 p1.length u1] w (Pvb κ w r):=by
 unfold ft at h
 refine Jk3 κ F114 R N114 R λhE=>Je [1,2] R<|Jf1 (κ:=κ) 2 R R R R R R R λb2 w1 K2 S3 f4=>Tv<|Jb 1 R<|Jq<|Je [1,1,2,2,2,2,2,2] R<|Jl tv R R R R (Jd2 (cs:=[vi p0.In,vi p0.Out]) I25 Z25 R R R<|haE f4.cells)<|Ob h λx7 hx7 h=>Jh R R R C102 (kc (κ:=Mk K2) (p0:=p0) hx7) ?_
 rintro _ w5 ⟨k6,rfl,e7⟩
 obtain⟨K8,S9,m10⟩:=Ji e7 3 R
 refine Tv<|Jn 2 R<|Ob h λp13 h hK12=>Ju1 [(4,2),(5,2),(6,2),(7,2)] [] (λL w'=>L=[(1,.slice a1 p1.length u1),(2,.pointer (some ⟨b2,0,none⟩)),(13,.bool p13)]/\∃κ',Stp [] K8 w5 κ' w') tv ?_ ?_
 revert h
 cases ht13:(!x7)
 refine JF λh=>Jn 1 R<|Jn3 R U49 R R<|Jn 2 R ?_
 cases h
 exact Jv1 _ tv ⟨R,_,Jj3⟩<|KM R
 refine JT λh=>Jn 4 R ?_
 cases h
 exact Jv1 _ tv ⟨R,_,Jj3⟩<|KM R
 rintro _ w14 _ ⟨rfl,K15,S16⟩
 have h:=hK12
 refine Jd ?_
 revert h
 cases ht17:p13
 refine JF λh=>Jy R<|Js<|Jp<|Jq<|Je3 R ?_
 have hN19:(p1.length:Int)<=9223372036854775807:=g1.len_le
 refine Ob h λq2 hq21 hK20=>?_
 clear h
 refine Jx1 (λL w'=>∃κ',L=[]/\Stp [] K15 w14 κ' w'/\q2=xe ()) ?_ ?_
 refine Jv<|Jy1 (λk L w'=>∃κ' v5,L=[(1,.slice a1 p1.length u1),(2,.pointer (some ⟨b2,0,none⟩)),(5,vi v5)]/\Stp [] K15 w14 κ' w'/\0<=v5/\xh ((p1.length:Int)-v5)=k/\cntM (fu p0 p1) k v5 ()=some q2) ⟨_,_,⟨K15,0,R,Jj3,(by decide),(by simp),hq21⟩,(KM R)⟩ ?_
 rintro k _ w25 ⟨K26,v5,rfl,S27,hj19,hJ19,h⟩
 rcases k with _ | k
 have hk28:=h;obtain⟨o19,h⟩:=bP (xe (xf ()):Bool⊕((Unit)⊕(Unit)))
 have hc19:decide (v5<(p1.length:Int))=false:=Jo2 (by omega)
 refine Jq<|Jg3 [2,2,2,2] 2 R<|Jn3 R U49 R R<|Jb 1 R<|Jw2 R hc19<|Jc1<|Jt<|Jt ?_
 cases h
 have h:=hk28
 refine Jb1 ?_
 cases h
 exact Jw1 _ ⟨K26,R,S27.wk R,R⟩ KN
 obtain⟨o19,h,hk28⟩:=BI h;unfold fu at h
 have hc19:decide (v5<(p1.length:Int))=true:=Jn2 (by omega)
 refine Jq<|Jg3 [2,2,2,2] 2 R<|Jn3 R U49 R R<|Jb 1 R<|Jv2 R hc19<|Js<|Jp<|Jq<|Jv<|Jq<|Js1 (κ:=K26) [0,2] none [(1,2),(2,2),(3,2),(0,0),(4,0),(5,1),(6,2)] [] (by kernel_rfl) (by kernel_rfl) λw30 S29=>Jn 2 R<|Ob h λx23 hx23 h=>Jc3 R g1 hx23 U49 Z119<|Jg R (Jd2 (cs:=[vi p0.In,vi p0.Out]) I25 Z25 R R R<|haC (f4.stp (T4 S9 S16 S27 S29) R R).cells R) ?_
 obtain⟨cse33,hre33,hle33⟩:=((g1.stp (T5 S3 S9 S16 S27 S29) R R)).gSt hx23
 obtain⟨ae33_0,ue33_0,ae33_1,ue33_1,rfl,fe33_0,fe33_1⟩:=Clause.un hre33
 refine Jg R (Jd2 (cs:=[vi x23.Kind,.slice ae33_0 x23.A.length ue33_0,.slice ae33_1 x23.B.length ue33_1]) I119 Z119 R R R<|haC hle33 R)<|Ob h λx25 hx25 h=>Jh R R R C163 (mE (κ:=Mk K26) (p0:=p0) (p1:=x23) (Ji3 fe33_0) (Ji3 fe33_1) hx25) ?_
 rintro _ w34 ⟨k35,rfl,e36⟩
 obtain⟨K37,S38,m39⟩:=Ji e36 5 R
 refine⟨(S38.cl R),Jn 1 R<|Jt1<|Jd ?_⟩
 revert h
 cases ht41:(!x25)
 refine JF λh=>Jy R<|Js<|Jz<|Jp<|Jf3 R ?_
 have hw19:t0 .i64 (v5+1)=v5+1:=wr1 hj19 (Jm2 hc19) hN19
 rw[hw19]
 have hc19:=Jm2 hc19
 cases h
 exact Jz1 λa ha=>⟨k,_,Ja3 _,⟨K37,v5+1,R,(T3 S27 S29 S38).wk R,by omega,by omega,hk28⟩,(ha.mm R)⟩
 refine JT λh=>Jx R<|Je3 R<|Ju<|Ja1<|Jw<|Jw ?_
 cases h
 obtain rfl:=Option.some.inj hk28
 have h:=yL hK20
 refine Ja1<|Jq2<|Jw<|Ja2 (l:=[.tmp 4]) V114 (Jp2 R R) R ?_
 cases h
 exact⟨K37,R,(hE.stp (T6 S3 S9 S16 S27 S29 S38) R R)⟩
 rintro _ w22 ⟨K23,rfl,S24,rfl⟩
 have h:=yI hK20
 refine Jp<|Je3 R<|Ju<|Ja2 (l:=[.tmp 4]) V114 (Jp2 R R) R ?_
 cases h
 exact⟨K23,R,(hE.stp (T4 S3 S9 S16 S24) R R)⟩
 refine JT λh=>Jx R<|Je3 R<|Ju<|Jw<|Ja2 (l:=[.tmp 4]) V114 (Jp2 R R) R ?_
 cases h
 exact⟨K15,R,(hE.stp (T3 S3 S9 S16) R R)⟩
theorem lW {p0:Sig}{al ai an ah}{p1:Clause}(g1_1:Rd (Rp.int .i64) κ w 0 al ai p1.A) (g1_2:Rd (Rp.int .i64) κ w 0 an ah p1.B){r:Det}(h:jg p0 p1=some r):Ret Tryz.prog 116 [.agg #[vi p0.In,vi p0.Out],.agg #[vi p1.Kind,.slice al p1.A.length ai,.slice an p1.B.length ah]] w (λv w'=>∃(κ':Col) (ra0:Option Addr) (ru0:Nat) (ra1:Option Addr) (ru1:Nat),v= .agg #[.slice ra0 r.Next.length ru0,.slice ra1 r.Pairs.length ru1]/\Ent κ w κ' w'/\Oc (Ep.own E6 2) 29 κ' w' 2 ra0 ru0 r.Next/\Oc Pair.ep154 154 κ' w' 3 ra1 ru1 r.Pairs):=by
 unfold jg at h
 refine Jk3 κ F116 R N116 R λhE=>Je [1,1,1] R<|Jf1 (κ:=κ) 2 R R R R R R R λb2 w1 K2 S3 f4=>Tv<|Jf1 (κ:=K2) 3 R R R R R R R λb3 w5 K6 S7 f8=>Tv<|Jg1 (κ:=K6) 4 R R R R R X100 R λb4 w9 K10 S11 f12=>Tv<|Jd<|Jq<|Je [1,1,1,2] R ?_
 have f13:=f4.stp (S7.tr S11) R R
 refine Jl tv R R R R (Jd2 (cs:=[vi p0.In,vi p0.Out]) I25 Z25 R R R<|haE f13.cells) ?_
 have f14:=f8.stp S11 R R
 refine Jl tv R R R R (Jd2 (cs:=[vi p1.Kind,.slice al p1.A.length ai,.slice an p1.B.length ah]) I119 Z119 R R R<|haE f14.cells)<|Ob h λx11 hx11 h=>?_
 have f15:=g1_1.stp (T3 S3 S7 S11) R R
 have f16:=g1_2.stp (T3 S3 S7 S11) R R
 refine Jh R R R C163 (mE (κ:=Mk K10) (p0:=p0) (p1:=p1) (Ji3 f15) (Ji3 f16) hx11) ?_
 rintro _ w17 ⟨k18,rfl,e19⟩
 obtain⟨K20,S21,m22⟩:=Ji e19 5 R
 refine Tv<|Jb 1 R ?_
 revert h
 cases ht24:(!x11)
 refine JF λh=>Jy R<|Js<|Jp<|Je [2,1,1,1,2,1,1] R<|Jd3 R U119 R Z2 ?_
 have f30:=f14.stp S21 R R
 refine Jb3 R I2 (f30.ld 0 R R)<|Ob h λx16 hx16 h=>Jh R R R C165 (rJ (κ:=Mk K20) hx16) ?_
 rintro _ w31 ⟨k32,ap,au,aw,aq,rfl,e33,f34,f35⟩
 obtain⟨K36,S37,m38⟩:=Ji e33 7 R
 refine Tv<|Jn1 (κ:=K36) (E:=Pair.ep154) 11 [9,10] (parts:=[(0,.tmp 16)]) (cells:=[.slice ap x16.Ask.length au,.slice aw x16.Give.length aq]) (xs:=([x16]:List Pair)) R R R R R R Y98 cv R R R R R R R R R R ⟨[.slice ap x16.Ask.length au,.slice aw x16.Give.length aq],[],Zl K36 w31 [9,10],Zl K36 w31 [],R,Zl.sp (l1:=[9,10]) (l2:=[]) R,Zl.sr (l1:=[9,10]) (l2:=[]),⟨[.slice ap x16.Ask.length au],[.slice aw x16.Give.length aq],Zl K36 w31 [9],Zl K36 w31 [10],R,Zl.sp (l1:=[9]) (l2:=[10]) R,Zl.sr (l1:=[9]) (l2:=[10]),⟨_,_,R,(f34.mx (bI _) m38 R (R:7+2=9))⟩,⟨_,_,R,(f35.mx (bI _) m38 R (R:7+3=10))⟩⟩,R⟩ λab aa w42 K43 S44 f45=>Tv<|Jf R (bJ (parts:=[(1,.tmp 17)]) (cells:=[.slice none 0 0,.slice ab ([x16]:List Pair).length aa]) R R (by kernel_rfl))<|Jg1 (κ:=K43) 12 R R R R R X100 R λb5 w46 K47 S48 f49=>Tv<|Jj1 (κ:=K47) 12 (vc:=[.slice none 0 0,.slice ab ([x16]:List Pair).length aa]) R R R R R R R Z100 R R f49 R λw50 S51 f52=>Tv<|Jd<|Jq<|Je3 R<|Ob h λq2 hq55 hK54=>?_
 clear h
 refine Jx1 (λL w'=>∃κ',∃s3:Int×(List<|List Int),∃ac ad,L=[(4,.pointer (some ⟨b4,0,none⟩)),(5,.pointer (some ⟨b5,0,none⟩))]/\Stp [12,13,16,17] K47 w50 κ' w'/\Oc (Ep.own E6 2) 29 κ' w' 13 ac ad s3.2/\Bc κ' w' 12 b5 100 [.slice ac s3.2.length ad,.slice ab ([x16]:List Pair).length aa]/\q2=xe s3) ?_ ?_
 refine Jv<|Jy1 (λk L w'=>∃κ',∃s1:Int×(List<|List Int),∃ao aj,L=[(2,.pointer (some ⟨b2,0,none⟩)),(3,.pointer (some ⟨b3,0,none⟩)),(4,.pointer (some ⟨b4,0,none⟩)),(5,.pointer (some ⟨b5,0,none⟩)),(6,vi s1.1)]/\Stp [12,13,16,17] K47 w50 κ' w'/\Oc (Ep.own E6 2) 29 κ' w' 13 ao aj s1.2/\Bc κ' w' 12 b5 100 [.slice ao s1.2.length aj,.slice ab ([x16]:List Pair).length aa]/\bZ (fd p0 p1) k s1=some q2) ⟨_,_,⟨K47,((0:Int),(([]:List (List Int)):(List<|List Int))),none,0,R,Jj3,Ow.nil,f52,hq55⟩,(KM R)⟩ ?_
 rintro k _ w61 ⟨K62,s1,ao,aj,rfl,S63,f64,f65,h⟩
 rcases k with _ | k
 cases h
 obtain⟨o53,h,hk66⟩:=BI h;unfold fd at h
 refine Jq<|Jg3 [2,2,1,1,2] 1 R<|Jd3 R U119 R Z2 ?_
 have f67:=f30.stp (T5 S37 S44 S48 S51 S63) R R
 refine Jb3 R I2 (f67.ld 0 R R)<|Ob h λx22 hx22 h=>Jh R R R C166 (px (κ:=Mk K62) hx22) ?_
 rintro _ w68 ⟨k69,rfl,e70⟩
 obtain⟨K71,S72,m73⟩:=Ji e70 14 R
 refine Tv<|Jb 1 R ?_
 revert h
 cases ht75:decide (s1.1<x22)
 refine JF λh=>Jy R<|Jc1<|Jt<|Jt ?_
 cases h
 have h:=hk66
 refine Jb1 ?_
 cases h
 exact Jw1 _ ⟨K71,(s1.1,s1.2),ao,aj,R,(S63.tr S72).wk R,(f64.stp S72 R R),(f65.stp S72 R R),R⟩<|KM R
 refine JT λh=>Jx R<|Js<|Jp<|Jq<|Jv<|Je [1,2] R<|Jo1 (κ:=K71) (E:=E6) 16 R R R R R Y29 bG R λaA ay w76 K77 S78 f79=>Tv<|Jb 1 R<|Jq<|Je3 R<|Ob h λq5 hq82 hK81=>?_
 clear h
 refine Jx1 (λL w'=>∃κ',∃s6:(List Int)×Int,∃af ae,L=[(2,.pointer (some ⟨b2,0,none⟩)),(3,.pointer (some ⟨b3,0,none⟩)),(4,.pointer (some ⟨b4,0,none⟩)),(5,.pointer (some ⟨b5,0,none⟩)),(6,vi s1.1),(7,.slice af s6.1.length ae)]/\Stp [16] K77 w76 κ' w'/\Oc E6 2 κ' w' 16 af ae s6.1/\q5=xe s6) ?_ ?_
 refine Jv<|Jy1 (λk L w'=>∃κ',∃s4:(List Int)×Int,∃am ak,L=[(2,.pointer (some ⟨b2,0,none⟩)),(3,.pointer (some ⟨b3,0,none⟩)),(4,.pointer (some ⟨b4,0,none⟩)),(5,.pointer (some ⟨b5,0,none⟩)),(6,vi s1.1),(7,.slice am s4.1.length ak),(8,vi s4.2)]/\Stp [16] K77 w76 κ' w'/\Oc E6 2 κ' w' 16 am ak s4.1/\bZ (eT p0 p1 s1) k s4=some q5) ⟨_,_,⟨K77,((([]:List Int):(List Int)),(0:Int)),aA,ay,R,Jj3,f79,hq82⟩,(KM R)⟩ ?_
 rintro k _ w87 ⟨K88,s4,am,ak,rfl,S89,f90,h⟩
 rcases k with _ | k
 cases h
 obtain⟨o80,h,hk91⟩:=BI h;unfold eT at h
 refine Jq<|Jg3 [2,1,1,2] 1 R<|Jl tv R R R R (Jd2 (cs:=[vi p0.In,vi p0.Out]) I25 Z25 R R R<|haE (f13.stp (T9 S21 S37 S44 S48 S51 S63 S72 S78 S89) R R).cells)<|Ob h λx29 hx29 h=>Jh R R R C58 (eZ (κ:=Mk K88) (p0:=p0) hx29) ?_
 rintro _ w93 ⟨k94,rfl,e95⟩
 obtain⟨K96,S97,m98⟩:=Ji e95 17 R
 refine Tv<|Jb 1 R ?_
 revert h
 cases ht100:decide (s4.2<x29)
 refine JF λh=>Jy R<|Jc1<|Jt<|Jt ?_
 cases h
 have h:=hk91
 refine Jb1 ?_
 cases h
 exact Jw1 _ ⟨K96,(s4.1,s4.2),am,ak,R,(S89.tr S97).wk R,(f90.stp S97 R R),R⟩<|KM R
 have S001:=(T10 S21 S37 S44 S48 S51 S63 S72 S78 S89 S97)
 refine JT λh=>Jx R<|Js<|Jp<|Jq<|Jv<|Jh3 [2,1,2,2,1,1,1,2] 1 R<|Jl tv R R R R (Jd2 (cs:=[vi p1.Kind,.slice al p1.A.length ai,.slice an p1.B.length ah]) I119 Z119 R R R<|haE (f67.stp (T4 S72 S78 S89 S97) R R).cells)<|Jn 2 R<|Ob h λx37 hx37 h=>Jh R R R C167 (qW (κ:=Mk K96) (p0:=p1) (Ji3<|f15.stp S001 R R) (Ji3<|f16.stp S001 R R) hx37) ?_
 rintro _ w104 ⟨k105,rfl,e106⟩
 obtain⟨K107,S108,m109⟩:=Ji e106 19 R
 refine Tv<|Jn1 (κ:=K107) (E:=E6) 21 [] (parts:=[(0,.tmp 37)]) (cells:=[vi x37]) (xs:=([x37]:List Int)) R R R R R R Y29 bG R R R R R R R R R R ⟨[vi x37],[],Zl K107 w104 [],Zl K107 w104 [],R,Zl.sp (l1:=[]) (l2:=[]) R,Zl.sr (l1:=[]) (l2:=[]),R,R⟩ λaC aE w111 K112 S113 f114=>Tv<|Ob h λx39 hx39 h=>Jm1 (κ:=K112) (E:=E6) 16 [] R R R R R R R R R Y29 bG R R R R (f90.stp (T3 S97 S108 S113) R R) (Sl.srcP (bT _) f114.rdc) bK hx39 R λax az w116 K117 S118 f119=>Tv<|Jc 1 R<|Jz<|Jp<|Jf3 R ?_
 cases h
 exact Jz1 λa ha=>⟨k,_,Ja3 _,⟨K117,(x39,((IntKind.i64.wrap<|s4.2+1):Int)),ax,az,R,(T5 S89 S97 S108 S113 S118).wk R,f119,hk91⟩,(ha.mm R)⟩
 rintro _ w83 ⟨K84,s6,af,ae,rfl,S85,f86,rfl⟩
 have h:=yI hK81
 refine Jp<|Ja [2,1,2,1,1,2,1] R<|Jd3 R U100 R Z26 ?_
 have f121:=f65.stp (T3 S72 S78 S85) R R
 refine Jb3 R I26 (f121.ld 0 R R)<|Jn 1 R<|Jn1 (κ:=K84) (E:=(Ep.own E6 2)) 17 [16] (parts:=[(0,.tmp 42)]) (cells:=[.slice af s6.1.length ae]) (xs:=([s6.1]:List (List Int))) R R R R R R Y26 bN R R R R R R R R R R ⟨[.slice af s6.1.length ae],[],Zl K84 w83 [16],Zl K84 w83 [],R,Zl.sp (l1:=[16]) (l2:=[]) R,Zl.sr (l1:=[16]) (l2:=[]),⟨_,_,R,f86⟩,R⟩ λaB aD w122 K123 S124 f125=>Tv<|Ob h λx44 hx44 h=>Jm1 (κ:=K123) (E:=(Ep.own E6 2)) 13 [17] R R R R R R R R R Y26 bN R R R R (f64.stp (T4 S72 S78 S85 S124) R R) f125.src (dd R) hx44 R λar av w127 K128 S129 f130=>Tv<|Jd3 R U100 R Z26<|Ji1 (κ:=K128) 12 (off:=0) (vc:=[.slice ar x44.length av]) (cs':=[.slice ar x44.length av,.slice ab ([x16]:List Pair).length aa]) R R R R R R R Z26 R R (f121.stp (S124.tr S129) R R) R R λw132 S133 f134=>Tv<|Jo<|Jz<|Jp<|Jf3 R ?_
 cases h
 exact Jz1 λa ha=>⟨k,_,Ja3 _,⟨K128,(((IntKind.i64.wrap<|s1.1+1):Int),x44),ar,av,R,(T7 S63 S72 S78 S85 S124 S129 S133).wk R,(f130.stp S133 R R),f134,hk66⟩,(ha.mm R)⟩
 rintro _ w56 ⟨K57,s3,ac,ad,rfl,S58,f59,f60,rfl⟩
 have h:=yI hK54
 refine Jp<|Je [1,1] R<|Jl tv R R R R (Jd2 (cs:=[.slice ac s3.2.length ad,.slice ab ([x16]:List Pair).length aa]) I100 Z100 R R R<|haE f60.cells)<|Jj1 (κ:=K57) 4 (vc:=[.slice ac s3.2.length ad,.slice ab ([x16]:List Pair).length aa]) R R R R R R R Z100 R R (f12.stp (T6 S21 S37 S44 S48 S51 S58) R R) R λw139 S140 f141=>Tv<|Jd<|Ju<|Ja2 (l:=[.cell 4 100]) V116 (bL R f141 I100 Z100 R R) R ?_
 cases h
 exact⟨(λb=>ren [(13,2),(11,3)]<|K57 b),ac,ad,ab,aa,R,((hE.stp (T10 S3 S7 S11 S21 S37 S44 S48 S51 S58 S140) R R).map (ren [(13,2),(11,3)]) R R),((f59.stp S140 R R).map (ren [(13,2),(11,3)]) R R),((f45.stp (T4 S48 S51 S58 S140) R R).map (ren [(13,2),(11,3)]) R R)⟩
 refine JT λh=>Jx R<|Je [2,1] R<|Jf R (bJ (parts:=[]) (cells:=[.slice none 0 0,.slice none 0 0]) R R (by kernel_rfl))<|Jj1 (κ:=K20) 4 (vc:=[.slice none 0 0,.slice none 0 0]) R R R R R R R Z100 R R (f12.stp S21 R R) R λw26 S27 f28=>Tv<|Jd<|Ju<|Jw<|Ja2 (l:=[.cell 4 100]) V116 (bL R f28 I100 Z100 R R) R ?_
 cases h
 exact⟨K20,none,0,none,0,R,(hE.stp (T5 S3 S7 S11 S21 S27) R R),Ow.nil,Ow.nil⟩
theorem nA {a0 u0}{p0:(List Pair)}{p1:Int}(g0:Rd Pair.rp κ w 0 a0 u0 p0){r:Bool}(h:ju p0 p1=some r):Ret Tryz.prog 120 [.slice a0 p0.length u0,vi p1] w (Pvb κ w r):=by
 unfold ju at h
 refine Jk3 κ F120 R N120 R λhE=>Je3 R<|Jq<|Jg3 [2,1,2,2,2,2,2,2] 1 R<|Ob h λx7 hx7 h=>Jh R R R C57 (cD (κ:=Mk κ) hx7) ?_
 rintro _ w1 ⟨k2,rfl,e3⟩
 obtain⟨K4,S5,m6⟩:=Ji e3 2 R
 refine Tv<|Jn 2 R<|Ob h λp13 h hK8=>Ju1 [(4,2),(5,2),(6,2),(7,2)] [] (λL w'=>L=[(0,.slice a0 p0.length u0),(1,vi p1),(13,.bool p13)]/\∃κ',Stp [] K4 w1 κ' w') tv ?_ ?_
 revert h
 cases ht9:(!x7)
 refine JF λh=>Jn 1 R<|Jn3 R U98 R R<|Jn 2 R ?_
 cases h
 exact Jv1 _ tv ⟨R,_,Jj3⟩<|KM R
 refine JT λh=>Jn 4 R ?_
 cases h
 exact Jv1 _ tv ⟨R,_,Jj3⟩<|KM R
 rintro _ w10 _ ⟨rfl,K11,S12⟩
 have h:=hK8
 refine Jd ?_
 revert h
 cases ht13:p13
 refine JF λh=>Jy R<|Js<|Jp<|Jq<|Je3 R ?_
 have hN15:(p0.length:Int)<=9223372036854775807:=g0.len_le
 refine Ob h λq2 hq17 hK16=>?_
 clear h
 refine Jx1 (λL w'=>∃κ',L=[]/\Stp [] K11 w10 κ' w'/\q2=xe ()) ?_ ?_
 refine Jv<|Jy1 (λk L w'=>∃κ' v5,L=[(0,.slice a0 p0.length u0),(1,vi p1),(5,vi v5)]/\Stp [] K11 w10 κ' w'/\0<=v5/\xh ((p0.length:Int)-v5)=k/\cntM (gU p0 p1) k v5 ()=some q2) ⟨_,_,⟨K11,0,R,Jj3,(by decide),(by simp),hq17⟩,(KM R)⟩ ?_
 rintro k _ w21 ⟨K22,v5,rfl,S23,hj15,hJ15,h⟩
 rcases k with _ | k
 have hk24:=h;obtain⟨o15,h⟩:=bP (xe (xf ()):Bool⊕((Unit)⊕(Unit)))
 have hc15:decide (v5<(p0.length:Int))=false:=Jo2 (by omega)
 refine Jq<|Jg3 [2,2,2,2] 2 R<|Jn3 R U98 R R<|Jb 1 R<|Jw2 R hc15<|Jc1<|Jt<|Jt ?_
 cases h
 have h:=hk24
 refine Jb1 ?_
 cases h
 exact Jw1 _ ⟨K22,R,S23.wk R,R⟩ KN
 obtain⟨o15,h,hk24⟩:=BI h;unfold gU at h
 have hc15:decide (v5<(p0.length:Int))=true:=Jn2 (by omega)
 refine Jq<|Jg3 [2,2,2,2] 2 R<|Jn3 R U98 R R<|Jb 1 R<|Jv2 R hc15<|Js<|Jp<|Jq<|Jv<|Jg3 [2,2,2,2,1,2,1,2,2,2,2,2,2,1,2,1,2,2] 2 R<|Ob h λx22 hx22 h=>Jc3 R g0 hx22 U98 Z154<|Jd3 R U154 R Z29 ?_
 have f25:=g0.stp (T3 S5 S12 S23) R R
 obtain⟨cse26,hre26,hle26⟩:=(f25).gSt hx22
 obtain⟨ae26_0,ue26_0,ae26_1,ue26_1,rfl,fe26_0,fe26_1⟩:=Pair.un hre26
 refine Jb3 R I29 (λw' hw'=>hle26 w' hw' 0 _ R)<|Jn 1 R<|Ob h λx26 hx26 h=>Jh R R R C170 (pu (κ:=Mk K22) (Ji3 fe26_0) hx26) ?_
 rintro _ w27 ⟨k28,rfl,e29⟩
 obtain⟨K30,S31,m32⟩:=Ji e29 4 R
 refine Tv<|Jn 2 R<|Ob h λp37 h hK34=>Ju1 [(9,2),(10,2),(11,2),(12,2),(13,1),(14,2),(15,1),(16,2),(17,2)] [] (λL w'=>L=[(0,.slice a0 p0.length u0),(1,vi p1),(5,vi v5),(37,.bool p37)]/\∃κ',Stp [] K30 w27 κ' w') tv ?_ ?_
 revert h
 cases ht35:(!x26)
 refine JF λh=>Jn 2 R<|Ob h λx31 hx31 h=>Jc3 R f25 hx31 U98 Z154<|Jd3 R U154 R Z29 ?_
 obtain⟨cse37,hre37,hle37⟩:=((f25.stp S31 R R)).gSt hx31
 obtain⟨ae37_0,ue37_0,ae37_1,ue37_1,rfl,fe37_0,fe37_1⟩:=Pair.un hre37
 refine Jb3 R I29 (λw' hw'=>hle37 w' hw' 1 _ R)<|Jn 1 R<|Ob h λx35 hx35 h=>Jh R R R C170 (pu (κ:=Mk K30) (Ji3 fe37_1) hx35) ?_
 rintro _ w38 ⟨k39,rfl,e40⟩
 obtain⟨K41,S42,m43⟩:=Ji e40 6 R
 refine Tv<|Jn 2 R ?_
 cases h
 exact Jv1 _ tv ⟨R,_,S42.wk R⟩<|KM R
 refine JT λh=>Jn 4 R<|Jd1 R R R R<|Jn 1 R<|Jd1 R R R R<|Jn 2 R ?_
 cases h
 exact Jv1 _ tv ⟨R,_,Jj3⟩<|KM R
 rintro _ w45 _ ⟨rfl,K46,S47⟩
 have h:=hK34
 refine Jd ?_
 revert h
 cases ht48:p37
 refine JF λh=>Jy R<|Js<|Jz<|Jp<|Jf3 R ?_
 have hw15:t0 .i64 (v5+1)=v5+1:=wr1 hj15 (Jm2 hc15) hN15
 rw[hw15]
 have hc15:=Jm2 hc15
 cases h
 exact Jz1 λa ha=>⟨k,_,Ja3 _,⟨K46,v5+1,R,(T3 S23 S31 S47).wk R,by omega,by omega,hk24⟩,(ha.mm R)⟩
 refine JT λh=>Jx R<|Je3 R<|Ju<|Ja1<|Jw<|Jw ?_
 cases h
 obtain rfl:=Option.some.inj hk24
 have h:=yL hK16
 refine Ja1<|Jq2<|Jw<|Ja2 (l:=[.tmp 4]) V120 (Jp2 R R) R ?_
 cases h
 exact⟨K46,R,(hE.stp (T5 S5 S12 S23 S31 S47) R R)⟩
 rintro _ w18 ⟨K19,rfl,S20,rfl⟩
 have h:=yI hK16
 refine Jp<|Je3 R<|Ju<|Ja2 (l:=[.tmp 4]) V120 (Jp2 R R) R ?_
 cases h
 exact⟨K19,R,(hE.stp (T3 S5 S12 S20) R R)⟩
 refine JT λh=>Jx R<|Je3 R<|Ju<|Jw<|Ja2 (l:=[.tmp 4]) V120 (Jp2 R R) R ?_
 cases h
 exact⟨K11,R,(hE.stp (S5.tr S12) R R)⟩
theorem mF {aa ac ad ab af ae}{p0:Parity}(g0_0_0:Rd (Rp.int .i64) κ w 0 aa ac p0.Arena.Owner) (g0_0_1:Rd (Rp.sl (Rp.int .i64)) κ w 0 ad ab p0.Arena.Next) (g0_1:Rd (Rp.int .i64) κ w 0 af ae p0.Prio){r:Bool}(h:iG p0=some r):Ret Tryz.prog 125 [.agg #[.slice aa p0.Arena.Owner.length ac,.slice ad p0.Arena.Next.length ab,.slice af p0.Prio.length ae]] w (Pvb κ w r):=by
 unfold iG at h
 refine Jk3 κ F125 R N125 R λhE=>Je [1,2] R<|Jf1 (κ:=κ) 2 R R R R R R R λb1 w1 K2 S3 f4=>Tv<|Jb 1 R<|Jq<|Je [2,1,1,2,2,2,1,2,2,2,1,2,2,2] R<|Jd3 R U108 R Z104<|Jl tv R R R R (Jd2 (cs:=[.slice aa p0.Arena.Owner.length ac,.slice ad p0.Arena.Next.length ab]) I104 Z104 R R R<|haE<|f4.lds 0 2 R)<|Ob h λx6 hx6 h=>Jh R R R C119 (mW (κ:=Mk K2) (p0:=p0.Arena) (Ji3<|g0_0_0.stp S3 R R) (Ji3<|g0_0_1.stp S3 R R) hx6) ?_
 rintro _ w7 ⟨k8,rfl,e9⟩
 obtain⟨K10,S11,m12⟩:=Ji e9 3 R
 refine Tv<|Jn 2 R<|Ob h λp17 h hK14=>Ju1 [(5,2),(6,1),(7,2),(8,2),(9,2),(10,1),(11,2),(12,2),(13,2)] [] (λL w'=>L=[(1,.pointer (some ⟨b1,0,none⟩)),(17,.bool p17)]/\∃κ',Stp [] K10 w7 κ' w') tv ?_ ?_
 revert h
 cases ht15:(!x6)
 refine JF λh=>Jd3 R U108 R Z29 ?_
 have f16:=f4.stp S11 R R
 refine Jb3 R I29 (f16.ld 2 R R)<|Jn3 R U29 R R<|Jd3 R U108 R Z104<|Jd3 R U104 R Z29<|Jb3 R I29 (f16.ld 0 R R)<|Jn3 R U29 R R<|Jn 2 R ?_
 cases h
 exact Jv1 _ tv ⟨R,_,Jj3⟩<|KM R
 refine JT λh=>Jn 1 R<|Jd1 R R R R<|Jn 3 R<|Jd1 R R R R<|Jn 3 R ?_
 cases h
 exact Jv1 _ tv ⟨R,_,Jj3⟩<|KM R
 rintro _ w17 _ ⟨rfl,K18,S19⟩
 have h:=hK14
 refine Jd ?_
 revert h
 cases ht20:p17
 refine JF λh=>Jy R<|Js<|Jp<|Jq<|Je3 R ?_
 have hN22:(p0.Prio.length:Int)<=9223372036854775807:=g0_1.len_le
 refine Ob h λq2 hq24 hK23=>?_
 clear h
 refine Jx1 (λL w'=>∃κ',L=[]/\Stp [] K18 w17 κ' w'/\q2=xe ()) ?_ ?_
 refine Jv<|Jy1 (λk L w'=>∃κ' v3,L=[(1,.pointer (some ⟨b1,0,none⟩)),(3,vi v3)]/\Stp [] K18 w17 κ' w'/\0<=v3/\xh ((p0.Prio.length:Int)-v3)=k/\cntM (gb p0) k v3 ()=some q2) ⟨_,_,⟨K18,0,R,Jj3,(by decide),(by simp),hq24⟩,(KM R)⟩ ?_
 rintro k _ w28 ⟨K29,v3,rfl,S30,hj22,hJ22,h⟩
 rcases k with _ | k
 have hk31:=h;obtain⟨o22,h⟩:=bP (xe (xf ()):Bool⊕((Unit)⊕(Unit)))
 have hc22:decide (v3<(p0.Prio.length:Int))=false:=Jo2 (by omega)
 refine Jq<|Jg3 [2,2,1,2,2] 1 R<|Jd3 R U108 R Z29<|Jb3 R I29 ((f4.stp (T3 S11 S19 S30) R R).ld 2 R R)<|Jn3 R U29 R R<|Jb 1 R<|Jw2 R hc22<|Jc1<|Jt<|Jt ?_
 cases h
 have h:=hk31
 refine Jb1 ?_
 cases h
 exact Jw1 _ ⟨K29,R,S30.wk R,R⟩ KN
 obtain⟨o22,h,hk31⟩:=BI h;unfold gb at h
 have hc22:decide (v3<(p0.Prio.length:Int))=true:=Jn2 (by omega)
 refine Jq<|Jg3 [2,2,1,2,2] 1 R<|Jd3 R U108 R Z29 ?_
 have f33:=f4.stp (T3 S11 S19 S30) R R
 refine Jb3 R I29 (f33.ld 2 R R)<|Jn3 R U29 R R<|Jb 1 R<|Jv2 R hc22<|Js<|Jp<|Jq<|Jv<|Je [2,1,2,2,1,1,2] R<|Jd3 R U108 R Z29<|Jb3 R I29 (f33.ld 2 R R)<|Jn 1 R<|Ob h λx28 hx28 h=>Jc3 R g0_1 hx28 U29 Z2<|Jb3 R I2 ((g0_1.stp (T4 S3 S11 S19 S30) R R).gInt hx28)<|Ob h λx30 hx30 h=>Jh R R R C57 (cD (κ:=Mk K29) hx30) ?_
 rintro _ w35 ⟨k36,rfl,e37⟩
 obtain⟨K38,S39,m40⟩:=Ji e37 5 R
 refine Tv<|Jb 1 R ?_
 revert h
 cases ht42:(!x30)
 refine JF λh=>Jy R<|Js<|Jz<|Jp<|Jf3 R ?_
 have hw22:t0 .i64 (v3+1)=v3+1:=wr1 hj22 (Jm2 hc22) hN22
 rw[hw22]
 have hc22:=Jm2 hc22
 cases h
 exact Jz1 λa ha=>⟨k,_,Ja3 _,⟨K38,v3+1,R,(S30.tr S39).wk R,by omega,by omega,hk31⟩,(ha.mm R)⟩
 refine JT λh=>Jx R<|Je3 R<|Ju<|Ja1<|Jw<|Jw ?_
 cases h
 obtain rfl:=Option.some.inj hk31
 have h:=yL hK23
 refine Ja1<|Jq2<|Jw<|Ja2 (l:=[.tmp 2]) V125 (Jp2 R R) R ?_
 cases h
 exact⟨K38,R,(hE.stp (T5 S3 S11 S19 S30 S39) R R)⟩
 rintro _ w25 ⟨K26,rfl,S27,rfl⟩
 have h:=yI hK23
 refine Jp<|Je3 R<|Ju<|Ja2 (l:=[.tmp 2]) V125 (Jp2 R R) R ?_
 cases h
 exact⟨K26,R,(hE.stp (T4 S3 S11 S19 S27) R R)⟩
 refine JT λh=>Jx R<|Je3 R<|Ju<|Jw<|Ja2 (l:=[.tmp 2]) V125 (Jp2 R R) R ?_
 cases h
 exact⟨K18,R,(hE.stp (T3 S3 S11 S19) R R)⟩
theorem mP {aj af ah ae ai ak}{p0:Parity}(g0_0_0:Rd (Rp.int .i64) κ w 0 aj af p0.Arena.Owner) (g0_0_1:Rd (Rp.sl (Rp.int .i64)) κ w 0 ah ae p0.Arena.Next) (g0_1:Rd (Rp.int .i64) κ w 0 ai ak p0.Prio){r:(List Int)}(h:gE p0=some r):Ret Tryz.prog 174 [.agg #[.slice aj p0.Arena.Owner.length af,.slice ah p0.Arena.Next.length ae,.slice ai p0.Prio.length ak]] w (Pvs E6 2 κ w r):=by
 unfold gE at h
 refine Jk3 κ F174 R N174 R λhE=>Je [1,2] R<|Jf1 (κ:=κ) 2 R R R R R R R λb1 w1 K2 S3 f4=>Tv<|Jb 1 R<|Jq<|Js1 (κ:=K2) [2] none [(2,2),(0,0),(3,0),(4,2),(1,1),(5,1),(6,1),(7,2)] [] (by kernel_rfl) (by kernel_rfl) λw6 S5=>Jd3 R U108 R Z29 ?_
 have f7:=f4.stp S5 R R
 refine Jg R (Jd2 (cs:=[.slice aj p0.Arena.Owner.length af,.slice ah p0.Arena.Next.length ae,.slice ai p0.Prio.length ak]) I108 Z108 R R R<|haC f7.cells R)<|Jg R (Jc2 I29 R R<|hvC (f7.ld 2 R R) R)<|Jn3 R U29 R R<|Ob h λx7 hx7 h=>Jh R R R C175 (qt (κ:=λb=>mp [] 1<|K2 b) (p0:=p0) (Jl2 (g0_0_0.stp (S3.tr S5) R R) (mp [] 1) R R) (Jl2 (g0_0_1.stp (S3.tr S5) R R) (mp [] 1) R R) (Jl2 (g0_1.stp (S3.tr S5) R R) (mp [] 1) R R) hx7) ?_
 rintro _ w11 ⟨k12,au,aA,aF,ar,ay,aE,av,aC,aw,aD,rfl,e13,f14,f15,f16,f17,f18⟩
 obtain⟨K19,S20,m21,z22⟩:=Jj e13 3 R
 refine⟨(S20.cl R),Ob h λx11 hx11 h=>Jh R R R C214 (sM (κ:=Mk K19) hx11) ?_⟩
 rintro _ w28 ⟨k29,aG,aB,rfl,e30,f31⟩
 obtain⟨K32,S33,m34⟩:=Ji e30 10 R
 refine⟨((S20.tr S33).cl R),Ob h λx12 hx12 h=>Jh R R R C213 (pH _ (κ:=Mk K32) (p0:=x7) (Ji3 ((f14.mx z22).stp S33 R R)) (Ji3 ((f15.mx z22).stp S33 R R)) (Ji3 ((f16.mx z22).stp S33 R R)) (Ji3 ((f17.mx (cm (bI _) _) m21 R (R:3+5=8)).stp S33 R R).rdc) (Ji3 ((f18.mx (bI _) m21 R (R:3+6=9)).stp S33 R R).rdc) (Ji3 (f31.mx da m34 R (R:10+2=12)).rdc) hx12) ?_⟩
 rintro _ w42 ⟨k43,ap,am,rfl,e44,f45⟩
 obtain⟨K46,S47,m48⟩:=Ji e44 13 R
 refine⟨((T3 S20 S33 S47).cl R),?_⟩
 have f50:=f45.mx da m48 R (R:13+2=15)
 refine Jn 1 R<|Jt1<|Jd<|Je [1,2] R<|Jo1 (κ:=K46) (E:=E6) 16 R R R R R Y29 bG R λal aq w51 K52 S53 f54=>Tv<|Jb 1 R<|Jq<|Je3 R ?_
 have hN55:(x12.length:Int)<=9223372036854775807:=f50.len_le
 refine Ob h λq2 hq57 hK56=>?_
 clear h
 refine Jx1 (λL w'=>∃κ',∃s3:(List Int),∃aa ac,L=[(4,.slice aa s3.length ac)]/\Stp [16] K52 w51 κ' w'/\Oc E6 2 κ' w' 16 aa ac s3/\q2=xe s3) ?_ ?_
 refine Jv<|Jy1 (λk L w'=>∃κ' v5,∃s1:(List Int),∃ad ab,L=[(3,.slice ap x12.length am),(4,.slice ad s1.length ab),(5,vi v5)]/\Stp [16] K52 w51 κ' w'/\Oc E6 2 κ' w' 16 ad ab s1/\0<=v5/\xh ((x12.length:Int)-v5)=k/\cntM (jL x12) k v5 s1=some q2) ⟨_,_,⟨K52,0,(([]:List Int):(List Int)),al,aq,R,Jj3,f54,(by decide),(by simp),hq57⟩,(KM R)⟩ ?_
 rintro k _ w62 ⟨K63,v5,s1,ad,ab,rfl,S64,f65,hj55,hJ55,h⟩
 rcases k with _ | k
 have hk66:=h;obtain⟨o55,h⟩:=bP (xe (xf s1):(List Int)⊕(((List Int))⊕((List Int))))
 have hc55:decide (v5<(x12.length:Int))=false:=Jo2 (by omega)
 refine Jq<|Jg3 [2,2,2,2] 2 R<|Jn3 R U193 R R<|Jb 1 R<|Jw2 R hc55<|Jc1<|Jt<|Jt ?_
 cases h
 have h:=hk66
 refine Jb1 ?_
 cases h
 exact Jw1 _ ⟨K63,s1,ad,ab,R,S64.wk R,f65,R⟩<|KM R
 obtain⟨o55,h,hk66⟩:=BI h;unfold jL at h
 have hc55:decide (v5<(x12.length:Int))=true:=Jn2 (by omega)
 refine Jq<|Jg3 [2,2,2,2] 2 R<|Jn3 R U193 R R<|Jb 1 R<|Jv2 R hc55<|Js<|Jp<|Jq<|Jv<|Jh3 [2,2,2,2,1,1,2,1,1,2] 3 R<|Ob h λx23 hx23 h=>Jc3 R f50.rdc hx23 U193 Z4<|Jb3 R I4 ((f50.stp (S53.tr S64) R R).rdc.gBool hx23)<|Ob h λx25 hx25 h=>Jh R R R C200 (lY (κ:=Mk K63) hx25) ?_
 rintro _ w68 ⟨k69,rfl,e70⟩
 obtain⟨K71,S72,m73⟩:=Ji e70 17 R
 refine Tv<|Jn 1 R<|Jn1 (κ:=K71) (E:=E6) 19 [] (parts:=[(0,.tmp 26)]) (cells:=[vi<|IntKind.i64.wrap (1-x25)]) (xs:=([(IntKind.i64.wrap (1-x25))]:List Int)) R R R R R R Y29 bG R R R R R R R R R R ⟨[vi<|IntKind.i64.wrap (1-x25)],[],Zl K71 w68 [],Zl K71 w68 [],R,Zl.sp (l1:=[]) (l2:=[]) R,Zl.sr (l1:=[]) (l2:=[]),R,R⟩ λaz ax w75 K76 S77 f78=>Tv<|Ob h λx28 hx28 h=>Jm1 (κ:=K76) (E:=E6) 16 [] R R R R R R R R R Y29 bG R R R R (f65.stp (S72.tr S77) R R) (Sl.srcP (bT _) f78.rdc) bK hx28 R λan ao w80 K81 S82 f83=>Tv<|Jc 1 R<|Jz<|Jp<|Jf3 R ?_
 have hw55:t0 .i64 (v5+1)=v5+1:=wr1 hj55 (Jm2 hc55) hN55
 rw[hw55]
 have hc55:=Jm2 hc55
 cases h
 exact Jz1 λa ha=>⟨k,_,Ja3 _,⟨K81,v5+1,x28,an,ao,R,(T4 S64 S72 S77 S82).wk R,f83,by omega,by omega,hk66⟩,(ha.mm R)⟩
 rintro _ w58 ⟨K59,s3,aa,ac,rfl,S60,f61,rfl⟩
 have h:=yI hK56
 refine Jp<|Je3 R<|Ju<|Ja2 (l:=[.tmp 2]) V174 (Jp2 R R) R ?_
 cases h
 exact⟨(λb=>ren [(16,2)]<|K59 b),aa,ac,R,((hE.stp (T7 S3 S5 S20 S33 S47 S53 S60) R R).map (ren [(16,2)]) R R),(f61.map (ren [(16,2)]) R R)⟩
theorem rm {aa ak aj ah ad af ai ab ae ac}{p0:l7Game}{a1 u1}{p1:(List Bool)}{p2:Int}(g0_0:Rd (Rp.int .i64) κ w 0 aa ak p0.owner) (g0_1:Rd (Rp.int .i64) κ w 0 aj ah p0.prio) (g0_2:Rd (Rp.sl (Rp.int .i64)) κ w 0 ad af p0.next) (g0_3:Rd (Rp.sl (Rp.int .i64)) κ w 0 ai ab p0.prev) (g0_4:Rd (Rp.int .i64) κ w 0 ae ac p0.pick) (g1:Rd Rp.bool κ w 0 a1 u1 p1){r:Bool}(h:kT p0 p1 p2=some r):Ret Tryz.prog 215 [.agg #[.slice aa p0.owner.length ak,.slice aj p0.prio.length ah,.slice ad p0.next.length af,.slice ai p0.prev.length ab,.slice ae p0.pick.length ac],.slice a1 p1.length u1,vi p2] w (Pvb κ w r):=by
 unfold kT at h
 refine Jk3 κ F215 R N215 R λhE=>Je [1,2] R<|Jf1 (κ:=κ) 2 R R R R R R R λb3 w1 K2 S3 f4=>Tv<|Jb 1 R<|Je [1,2,1,2] R<|Jl tv R R R R (Jd2 (cs:=[.slice aa p0.owner.length ak,.slice aj p0.prio.length ah,.slice ad p0.next.length af,.slice ai p0.prev.length ab,.slice ae p0.pick.length ac]) I191 Z191 R R R<|haE f4.cells)<|Jn 1 R<|Ob h λx11 hx11 h=>?_
 have f10:=g1.stp S3 R R
 refine Jh R R R C213 (pH _ (κ:=Mk K2) (p0:=p0) (Ji3<|g0_0.stp S3 R R) (Ji3<|g0_1.stp S3 R R) (Ji3<|g0_2.stp S3 R R) (Ji3<|g0_3.stp S3 R R) (Ji3<|g0_4.stp S3 R R) (Ji3 f10) hx11) ?_
 rintro _ w11 ⟨k12,am,al,rfl,e13,f14⟩
 obtain⟨K15,S16,m17⟩:=Ji e13 3 R
 refine Tv<|?_
 have f19:=f14.mx da m17 R (R:3+2=5)
 refine Jb 1 R<|Jq<|Je3 R ?_
 have hN20:(p1.length:Int)<=9223372036854775807:=f10.len_le
 refine Ob h λq2 hq22 hK21=>?_
 clear h
 refine Jx1 (λL w'=>∃κ',L=[]/\Stp [] K15 w11 κ' w'/\q2=xe ()) ?_ ?_
 refine Jv<|Jy1 (λk L w'=>∃κ' v8,L=[(1,.slice a1 p1.length u1),(2,vi p2),(7,.slice am x11.length al),(8,vi v8)]/\Stp [] K15 w11 κ' w'/\0<=v8/\xh ((p1.length:Int)-v8)=k/\cntM (gF p1 p2 x11) k v8 ()=some q2) ⟨_,_,⟨K15,0,R,Jj3,(by decide),(by simp),hq22⟩,(KM R)⟩ ?_
 rintro k _ w26 ⟨K27,v8,rfl,S28,hj20,hJ20,h⟩
 rcases k with _ | k
 have hk29:=h;obtain⟨o20,h⟩:=bP (xe (xf ()):Bool⊕((Unit)⊕(Unit)))
 have hc20:decide (v8<(p1.length:Int))=false:=Jo2 (by omega)
 refine Jq<|Jg3 [2,2,2,2] 2 R<|Jn3 R U193 R R<|Jb 1 R<|Jw2 R hc20<|Jc1<|Jt<|Jt ?_
 cases h
 have h:=hk29
 refine Jb1 ?_
 cases h
 exact Jw1 _ ⟨K27,R,S28.wk R,R⟩ KN
 obtain⟨o20,h,hk29⟩:=BI h;unfold gF at h
 have hc20:decide (v8<(p1.length:Int))=true:=Jn2 (by omega)
 refine Jq<|Jg3 [2,2,2,2] 2 R<|Jn3 R U193 R R<|Jb 1 R<|Jv2 R hc20<|Js<|Jp<|Jq<|Jv<|Jg3 [2,2,2,1,2,2,2,2,1,2,2,2,2] 2 R<|Ob h λx20 hx20 h=>Jc3 R f10 hx20 U193 Z4<|Jb3 R I4 ((f10.stp (S16.tr S28) R R).gBool hx20)<|Jn 1 R<|Ob h λp30 h hK31=>Ju1 [(5,2),(6,2),(7,2),(8,1),(9,2),(10,2),(11,2),(12,2)] [] (λL w'=>L=[(1,.slice a1 p1.length u1),(2,vi p2),(7,.slice am x11.length al),(8,vi v8),(30,.bool p30)]/\∃κ',Stp [] K27 w26 κ' w') tv ?_ ?_
 revert h
 cases ht32:x20
 refine JF λh=>Jn 3 R<|Jd1 R R R R<|Jn 4 R ?_
 cases h
 exact Jv1 _ tv ⟨R,_,Jj3⟩<|KM R
 refine JT λh=>Jn 2 R<|Ob h λx25 hx25 h=>Jc3 R f19.rdc hx25 U193 Z4<|Jb3 R I4 ((f19.stp S28 R R).rdc.gBool hx25)<|Jn 2 R<|Jf R (np R R U4 R)<|Jn 1 R ?_
 cases h
 exact Jv1 _ tv ⟨R,_,Jj3⟩<|KM R
 rintro _ w34 _ ⟨rfl,K35,S36⟩
 have h:=hK31
 refine Jd ?_
 revert h
 cases ht37:p30
 refine JF λh=>Jy R<|Js<|Jz<|Jp<|Jf3 R ?_
 have hw20:t0 .i64 (v8+1)=v8+1:=wr1 hj20 (Jm2 hc20) hN20
 rw[hw20]
 have hc20:=Jm2 hc20
 cases h
 exact Jz1 λa ha=>⟨k,_,Ja3 _,⟨K35,v8+1,R,(S28.tr S36).wk R,by omega,by omega,hk29⟩,(ha.mm R)⟩
 refine JT λh=>Jx R<|Je3 R<|Ju<|Ja1<|Jw<|Jw ?_
 cases h
 obtain rfl:=Option.some.inj hk29
 have h:=yL hK21
 refine Ja1<|Jq2<|Jw<|Ja2 (l:=[.tmp 6]) V215 (Jp2 R R) R ?_
 cases h
 exact⟨K35,R,(hE.stp (T4 S3 S16 S28 S36) R R)⟩
 rintro _ w23 ⟨K24,rfl,S25,rfl⟩
 have h:=yI hK21
 refine Jp<|Je3 R<|Ju<|Ja2 (l:=[.tmp 6]) V215 (Jp2 R R) R ?_
 cases h
 exact⟨K24,R,(hE.stp (T3 S3 S16 S25) R R)⟩
theorem cW {a0 u0}{p0:(List Clause)}{c1_0:Sig}{b1_0}(g0:Rd Clause.rp κ w 0 a0 u0 p0) (gb1_0:Bc κ w 0 b1_0 25 [vi c1_0.In,vi c1_0.Out]){r:Bool}(h:bS p0 c1_0=some r):Ret Tryz.prog 178 [.slice a0 p0.length u0,.func (.func 179) #[] #[.pointer (some ⟨b1_0,0,none⟩)]] w (Pvb κ w r):=by
 unfold bS at h
 refine Jk3 κ F178 R N178 R λhE=>Je3 R<|Jg3 [2,2,1,2,2] 2 R<|Ob h λx7 hx7 h=>Jh R R R C216 (c8 (κ:=Mk κ) (c1_0:=c1_0) (Ji3 g0) (gb1_0.map (mp [] 0) R R) hx7) ?_
 rintro _ w1 ⟨k2,rfl,e3⟩
 obtain⟨K4,S5,m6⟩:=Ji e3 2 R
 refine Tv<|Jb 2 R<|Ju<|Ja2 (l:=[.tmp 4]) V178 (Jp2 R R) R ?_
 cases h
 exact⟨K4,R,(hE.stp S5 R R)⟩
theorem d8 {aR aU aP aT}{p0:Arena}{ap aj}{p1:Place}{aK aJ}{c2_0:(List Pair)}{b2_0}(g0_0:Rd (Rp.int .i64) κ w 0 aR aU p0.Owner) (g0_1:Rd (Rp.sl (Rp.int .i64)) κ w 0 aP aT p0.Next) (g1_1:Rd (Rp.int .i64) κ w 0 ap aj p1.Record) (g2_0:Rd Pair.rp κ w 0 aK aJ c2_0) (gb2_0:Bc κ w 0 b2_0 98 [.slice aK c2_0.length aJ]){r:Parity×(List Place)×Bool}(h:ci p0 p1 c2_0=some r):Ret Tryz.prog 136 [.agg #[.slice aR p0.Owner.length aU,.slice aP p0.Next.length aT],.agg #[vi p1.At,.slice ap p1.Record.length aj],.func (.func 137) #[] #[.pointer (some ⟨b2_0,0,none⟩)],.func (.func 139) #[] #[.pointer (some ⟨b2_0,0,none⟩)]] w (λv w'=>∃(κ':Col) (ra0:Option Addr) (ru0:Nat) (ra1:Option Addr) (ru1:Nat) (ra2:Option Addr) (ru2:Nat) (ra3:Option Addr) (ru3:Nat),v= .tuple #[.agg #[.slice ra0 r.1.Arena.Owner.length ru0,.slice ra1 r.1.Arena.Next.length ru1,.slice ra2 r.1.Prio.length ru2],.slice ra3 r.2.1.length ru3,.bool r.2.2]/\Ent κ w κ' w'/\Oc E6 2 κ' w' 2 ra0 ru0 r.1.Arena.Owner/\Oc (Ep.fz (Rp.sl (Rp.int .i64))) 29 κ' w' 3 ra1 ru1 r.1.Arena.Next/\Oc E6 2 κ' w' 4 ra2 ru2 r.1.Prio/\Oc (Ep.fz Place.rp) 116 κ' w' 5 ra3 ru3 r.2.1):=by
 unfold ci at h
 refine Jk3 κ F136 R N136 R λhE=>Je [1,1,1,2,2] R<|Jf1 (κ:=κ) 2 R R R R R R R λb4 w1 K2 S3 f4=>Tv<|Jf1 (κ:=K2) 3 R R R R R R R λb5 w5 K6 S7 f8=>Tv<|Jg1 (κ:=K6) 4 R R R R R X108 R λb8 w9 K10 S11 f12=>Tv<|Jb 2 R<|Je [1,1,2] R<|Jl tv R R R R (Jd2 (cs:=[vi p1.At,.slice ap p1.Record.length aj]) I116 Z116 R R R<|haE (f8.stp S11 R R).cells)<|Jn1 (κ:=K10) (E:=(Ep.fz Place.rp)) 5 [] (parts:=[(0,.tmp 20)]) (cells:=[vi p1.At,.slice ap p1.Record.length aj]) (xs:=([p1]:List Place)) R R R R R R Y109 ef R R R R R R R R R R ⟨[vi p1.At,.slice ap p1.Record.length aj],[],Zl K10 w9 [],Zl K10 w9 [],R,Zl.sp (l1:=[]) (l2:=[]) R,Zl.sr (l1:=[]) (l2:=[]),(Place.mk_rel<|Sl.z1<|g1_1.stp (T3 S3 S7 S11) R R),R⟩ λaX ba w15 K16 S17 f18=>Tv<|Jb 1 R<|Je [2,1,1] R<|Jf R (bJ (parts:=[]) (cells:=[.slice none 0 0,.slice none 0 0,.slice none 0 0]) R R (by kernel_rfl))<|Jg1 (κ:=K16) 6 R R R R R X108 R λb12 w19 K20 S21 f22=>Tv<|Jj1 (κ:=K20) 6 (vc:=[.slice none 0 0,.slice none 0 0,.slice none 0 0]) R R R R R R R Z108 R R f22 R λw23 S24 f25=>Tv<|Jd<|Jq<|Je3 R<|Ob h λq2 hq28 hK27=>?_
 clear h
 refine Jx1 (λL w'=>∃κ',∃s3:(List Place)×Int×(List Int)×(List<|List Int)×(List Int),∃ay aA ab ac aa af ad ae,L=[(2,.func (.func 137) #[] #[.pointer (some ⟨b2_0,0,none⟩)]),(3,.func (.func 139) #[] #[.pointer (some ⟨b2_0,0,none⟩)]),(8,.pointer (some ⟨b8,0,none⟩)),(11,.slice ay s3.1.length aA),(12,.pointer (some ⟨b12,0,none⟩))]/\Stp [5,6,7,8,9,10,14,17,18,25,26,27] K20 w23 κ' w'/\Oc (Ep.fz Place.rp) 116 κ' w' 5 ay aA s3.1/\Oc E6 2 κ' w' 7 ab ac s3.2.2.1/\Oc (Ep.fz<|Rp.sl<|Rp.int .i64) 29 κ' w' 8 aa af s3.2.2.2.1/\Oc E6 2 κ' w' 9 ad ae s3.2.2.2.2/\Bc κ' w' 6 b12 108 [.slice ab s3.2.2.1.length ac,.slice aa s3.2.2.2.1.length af,.slice ad s3.2.2.2.2.length ae]/\q2=xe s3) ?_ ?_
 refine Jv<|Jy1 (λk L w'=>∃κ',∃s1:(List Place)×Int×(List Int)×(List<|List Int)×(List Int),∃au am ao aw ak ah ai av,L=[(2,.func (.func 137) #[] #[.pointer (some ⟨b2_0,0,none⟩)]),(3,.func (.func 139) #[] #[.pointer (some ⟨b2_0,0,none⟩)]),(4,.pointer (some ⟨b4,0,none⟩)),(8,.pointer (some ⟨b8,0,none⟩)),(11,.slice au s1.1.length am),(12,.pointer (some ⟨b12,0,none⟩)),(13,vi s1.2.1)]/\Stp [5,6,7,8,9,10,14,17,18,25,26,27] K20 w23 κ' w'/\Oc (Ep.fz Place.rp) 116 κ' w' 5 au am s1.1/\Oc E6 2 κ' w' 7 ao aw s1.2.2.1/\Oc (Ep.fz<|Rp.sl<|Rp.int .i64) 29 κ' w' 8 ak ah s1.2.2.2.1/\Oc E6 2 κ' w' 9 ai av s1.2.2.2.2/\Bc κ' w' 6 b12 108 [.slice ao s1.2.2.1.length aw,.slice ak s1.2.2.2.1.length ah,.slice ai s1.2.2.2.2.length av]/\bZ (bO p0 c2_0) k s1=some q2) ⟨_,_,⟨K20,((([p1]:List Place):(List Place)),(0:Int),(([]:List Int):(List Int)),(([]:List (List Int)):(List<|List Int)),(([]:List Int):(List Int))),aX,ba,none,0,none,0,none,0,R,Jj3,(f18.stp (S21.tr S24) R R),Ow.nil,Ow.nil,Ow.nil,f25,hq28⟩,(KM R)⟩ ?_
 rintro k _ w37 ⟨K38,s1,au,am,ao,aw,ak,ah,ai,av,rfl,S39,f40,f41,f42,f43,f44,h⟩
 rcases k with _ | k
 cases h
 obtain⟨o26,h,hk46⟩:=BI h;unfold bO at h
 refine Jq<|Jg3 [2,2,2,2] 2 R<|Jn3 R U109 R R<|Jb 1 R ?_
 revert h
 cases ht47:decide (s1.2.1<(s1.1.length:Int))
 refine JF λh=>Jy R<|Jc1<|Jt<|Jt ?_
 cases h
 have h:=hk46
 refine Jb1 ?_
 cases h
 exact Jw1 _ ⟨K38,(s1.1,s1.2.1,s1.2.2.1,s1.2.2.2.1,s1.2.2.2.2),au,am,ao,aw,ak,ah,ai,av,R,S39.wk R,f40,f41,f42,f43,f44,R⟩<|KM R
 refine JT λh=>Jx R<|Js<|Jp<|Jq<|Jv<|Jg3 [2,2,2,1,1,1] 2 R<|Ob h λx31 hx31 h=>Jc3 R f40.rdc hx31 U109 Z116 ?_
 obtain⟨cse48,hre48,hle48⟩:=Ow.gZS f40 hx31
 obtain⟨ae48_0,ue48_0,rfl,fe48_0⟩:=Place.un hre48
 refine Jl tv R R R R (Jd2 (cs:=[vi x31.At,.slice ae48_0 x31.Record.length ue48_0]) I116 Z116 R R R<|haE hle48)<|Jg1 (κ:=K38) 10 R R R R R X116 R λb14 w49 K50 S51 f52=>Tv<|Jj1 (κ:=K50) 10 (vc:=[vi x31.At,.slice ae48_0 x31.Record.length ue48_0]) R R R R R R R Z116 R R f52 R λw53 S54 f55=>Tv<|Jd<|Jg3 [2,1,1,2] 1 R<|Jl tv R R R R (Jd2 (cs:=[vi x31.At,.slice ae48_0 x31.Record.length ue48_0]) I116 Z116 R R R<|haE f55.cells)<|Ob h λx35 hx35 h=>?_
 have f56:=fe48_0.stp (S51.tr S54) R R
 have f57:=g2_0.stp (T9 S3 S7 S11 S17 S21 S24 S39 S51 S54) R R
 have f58:=gb2_0.stp (T9 S3 S7 S11 S17 S21 S24 S39 S51 S54) R R
 refine WO.callV R R R R R R R R C137 (ov (κ:=Mk K50) (p0:=x31) (Ji3 f56) (Ji3 f57) (f58.map (mp [] 0) R R) hx35) ?_
 rintro _ w59 ⟨k60,aH,aS,rfl,e61,f62⟩
 obtain⟨K63,S64,m65⟩:=Ji e61 11 R
 refine Tv<|Jb 1 R<|Je [1,2] R<|Jo1 (κ:=K63) (E:=E6) 14 R R R R R Y29 bG R λaZ bc w68 K69 S70 f71=>Tv<|Jb 1 R<|Jq<|Je [2,1,2,1,2,1,2,2] R<|Jd3 R U104 R Z26 ?_
 have f72:=f4.stp (T10 S7 S11 S17 S21 S24 S39 S51 S54 S64 S70) R R
 refine Jb3 R I26 (f72.ld 1 R R)<|Jd3 R U116 R Z2 ?_
 have f73:=f55.stp (S64.tr S70) R R
 refine Jb3 R I2 (f73.ld 0 R R)<|Ob h λx41 hx41 h=>Jc3 R g0_1 hx41 U26 Z29 ?_
 obtain⟨ax41,ux41,f75,hl76⟩:=(g0_1.stp (T11 S3 S7 S11 S17 S21 S24 S39 S51 S54 S64 S70) R R).gSl hx41
 refine Jb3 R I29 hl76<|Jn3 R U29 R R<|Jb 1 R ?_
 have hN77:(x41.length:Int)<=9223372036854775807:=f75.len_le
 refine Ob h λq5 hq79 hK78=>?_
 clear h
 refine Jx1 (λL w'=>∃κ',∃s6:(List Place)×(List Int),∃aC ax aD aG,L=[(2,.func (.func 137) #[] #[.pointer (some ⟨b2_0,0,none⟩)]),(3,.func (.func 139) #[] #[.pointer (some ⟨b2_0,0,none⟩)]),(4,.pointer (some ⟨b4,0,none⟩)),(8,.pointer (some ⟨b8,0,none⟩)),(11,.slice aC s6.1.length ax),(12,.pointer (some ⟨b12,0,none⟩)),(13,vi s1.2.1),(14,.pointer (some ⟨b14,0,none⟩)),(16,.slice aD s6.2.length aG)]/\Stp [5,14,17,18] K69 w68 κ' w'/\Oc (Ep.fz Place.rp) 116 κ' w' 5 aC ax s6.1/\Oc E6 2 κ' w' 14 aD aG s6.2/\q5=xe s6) ?_ ?_
 refine Jv<|Jy1 (λk L w'=>∃κ' v44,∃s4:(List Place)×(List Int),∃aq an al ar,L=[(2,.func (.func 137) #[] #[.pointer (some ⟨b2_0,0,none⟩)]),(3,.func (.func 139) #[] #[.pointer (some ⟨b2_0,0,none⟩)]),(4,.pointer (some ⟨b4,0,none⟩)),(8,.pointer (some ⟨b8,0,none⟩)),(11,.slice aq s4.1.length an),(12,.pointer (some ⟨b12,0,none⟩)),(13,vi s1.2.1),(14,.pointer (some ⟨b14,0,none⟩)),(15,.slice aH x35.length aS),(16,.slice al s4.2.length ar),(42,.slice ax41 x41.length ux41),(43,vi (x41.length:Int)),(44,vi v44)]/\Stp [5,14,17,18] K69 w68 κ' w'/\Oc (Ep.fz Place.rp) 116 κ' w' 5 aq an s4.1/\Oc E6 2 κ' w' 14 al ar s4.2/\0<=v44/\xh ((x41.length:Int)-v44)=k/\cntM (bV x35 x41) k v44 s4=some q5) ⟨_,_,⟨K69,0,(s1.1,(([]:List Int):(List Int))),au,am,aZ,bc,R,Jj3,(f40.stp (T4 S51 S54 S64 S70) R R),f71,(by decide),(by simp),hq79⟩,(KM R)⟩ ?_
 rintro k _ w85 ⟨K86,v44,s4,aq,an,al,ar,rfl,S87,f88,f89,hj77,hJ77,h⟩
 rcases k with _ | k
 have hk91:=h;obtain⟨o77,h⟩:=bP (xe (xf s4):(Parity×(List Place)×Bool)⊕(((List Place)×(List Int))⊕((List Place)×(List Int))))
 have hc77:decide (v44<(x41.length:Int))=false:=Jo2 (by omega)
 refine Je3 R<|Jq<|Jw2 R hc77<|Jc1<|Jt<|Jt ?_
 cases h
 have h:=hk91
 refine Jb1 ?_
 cases h
 exact Jw1 _ ⟨K86,(s4.1,s4.2),aq,an,al,ar,R,S87.wk R,f88,f89,R⟩<|KM R
 obtain⟨o77,h,hk91⟩:=BI h;unfold bV at h
 have hc77:decide (v44<(x41.length:Int))=true:=Jn2 (by omega)
 refine Je3 R<|Jq<|Jv2 R hc77<|Js<|Jp<|Jq<|Jv<|Je [2,1,2] R<|Ob h λx46 hx46 h=>Jc3 R f75 hx46 U29 Z2<|Jb3 R I2 ((f75.stp S87 R R).gInt hx46)<|Jb 1 R<|Jg3 [2,2,2,1,2] 3 R<|Ob h λx51 hx51 h=>?_
 have f93:=(f62.mx (bI _) m65 R (R:11+2=13)).stp (S70.tr S87) R R
 refine Jh R R R C185 (qI (κ:=Mk K86) (Ji3 f88.rdc) (Ji3 f93.rdc) hx51) ?_
 rintro _ w94 ⟨k95,rfl,e96⟩
 obtain⟨K97,S98,m99⟩:=Ji e96 15 R
 refine Tv<|Jb 1 R<|Jq<|Je3 R<|Ob h λq7 h hK101=>Jx1 (λL w'=>∃κ' aB az,L=[(2,.func (.func 137) #[] #[.pointer (some ⟨b2_0,0,none⟩)]),(3,.func (.func 139) #[] #[.pointer (some ⟨b2_0,0,none⟩)]),(4,.pointer (some ⟨b4,0,none⟩)),(8,.pointer (some ⟨b8,0,none⟩)),(11,.slice aB q7.1.length az),(12,.pointer (some ⟨b12,0,none⟩)),(13,vi s1.2.1),(14,.pointer (some ⟨b14,0,none⟩)),(15,.slice aH x35.length aS),(16,.slice al s4.2.length ar),(19,vi q7.2),(42,.slice ax41 x41.length ux41),(43,vi (x41.length:Int)),(44,vi v44)]/\Stp [5,17,18] K97 w94 κ' w'/\Oc (Ep.fz Place.rp) 116 κ' w' 5 aB az q7.1) ?_ ?_
 revert h
 cases ht106:decide (x51<0)
 refine JF λh=>Jy R<|Js ?_
 cases h
 exact Jw1 _ ⟨K97,aq,an,R,Jj3,(f88.stp S98 R R)⟩<|KM R
 refine JT λh=>Jx R<|Jg3 [2,2,2] 1 R<|Jn3 R U109 R R<|Jb 1 R<|Jh3 [2,2,1,2,1,2,1,1,2] 2 R<|Jo1 (κ:=K97) (E:=E6) 17 R R R R R Y29 bG R λbi bd w107 K108 S109 f110=>Tv<|Jn 1 R<|Ob h λx60 hx60 h=>Jm1 (κ:=K108) (E:=E6) 17 [] R R R R R R R R R Y29 bG R R R R f110 (Sl.srcP (bT _) (f93.stp (S98.tr S109) R R).rdc) bK hx60 R λaF aE w112 K113 S114 f115=>Tv<|Jf R (bJ (parts:=[(0,.tmp 57),(1,.tmp 60)]) (cells:=[vi x46,.slice aF x60.length aE]) R R (by kernel_rfl)) ?_
 obtain⟨K116,S117,z118⟩:=ea K113 w112 17
 refine Jn1 (κ:=K116) (E:=(Ep.fz Place.rp)) 18 [] (parts:=[(0,.tmp 61)]) (cells:=[vi x46,.slice aF x60.length aE]) (xs:=([(⟨x46,x60⟩:Place)]:List Place)) R R R R R R Y109 ef R R R R R R R R R R ⟨[vi x46,.slice aF x60.length aE],[],Zl K116 w112 [],Zl K116 w112 [],R,Zl.sp (l1:=[]) (l2:=[]) R,Zl.sr (l1:=[]) (l2:=[]),(Place.mk_rel (x:=(⟨x46,x60⟩:Place))<|Sl.z1<|Sl.st z118 f115.rdc),R⟩ λbe bh w120 K121 S122 f123=>Tv<|Ob h λx63 hx63 h=>Jm1 (κ:=K121) (E:=(Ep.fz Place.rp)) 5 [18] R R R R R R R R R Y109 ef R R R R (f88.stp (T5 S98 S109 S114 S117 S122) R R) f123.src (dd R) hx63 R λaV aW w125 K126 S127 f128=>Tv<|Jc 1 R ?_
 cases h
 exact Jw1 _ ⟨K126,aV,aW,R,(T5 S109 S114 S117 S122 S127).wk R,f128⟩<|KM R
 rintro _ w102 ⟨K103,aB,az,rfl,S104,f105⟩
 have h:=hK101
 refine Jp<|Jh3 [2,2,1,1,2] 2 R<|Jn1 (κ:=K103) (E:=E6) 17 [] (parts:=[(0,.tmp 65)]) (cells:=[vi q7.2]) (xs:=([q7.2]:List Int)) R R R R R R Y29 bG R R R R R R R R R R ⟨[vi q7.2],[],Zl K103 w102 [],Zl K103 w102 [],R,Zl.sp (l1:=[]) (l2:=[]) R,Zl.sr (l1:=[]) (l2:=[]),R,R⟩ λbg bf w130 K131 S132 f133=>Tv<|Ob h λx67 hx67 h=>Jm1 (κ:=K131) (E:=E6) 14 [] R R R R R R R R R Y29 bG R R R R (f89.stp (T3 S98 S104 S132) R R) (Sl.srcP (bT _) f133.rdc) bK hx67 R λbb aY w135 K136 S137 f138=>Tv<|Jc 1 R<|Jz<|Jp<|Jf3 R ?_
 have hw77:t0 .i64 (v44+1)=v44+1:=wr1 hj77 (Jm2 hc77) hN77
 rw[hw77]
 have hc77:=Jm2 hc77
 cases h
 exact Jz1 λa ha=>⟨k,_,Ja3 _,⟨K136,v44+1,(q7.1,x67),aB,az,bb,aY,R,(T5 S87 S98 S104 S132 S137).wk R,(f105.stp (S132.tr S137) R R),f138,by omega,by omega,hk91⟩,(ha.mm R)⟩
 rintro _ w80 ⟨K81,s6,aC,ax,aD,aG,rfl,S82,f83,f84,rfl⟩
 have h:=yI hK78
 refine Jp<|Jq<|Jg3 [2,2,2] 1 R<|Jn3 R U109 R R<|Jb 1 R ?_
 revert h
 cases ht140:decide (256<(s6.1.length:Int))
 refine JF λh=>Jy R<|Js<|Jp<|Jg3 [2,1] 1 R<|Ob h λx74 hx74 h=>Jh R R R C133 (gG (κ:=λb=>mp [(14,2)] 0<|K81 b) (f84.map (mp [(14,2)] 0) R R) hx74) ?_
 rintro _ w146 ⟨k147,rfl,e148,f149,hn150⟩
 obtain⟨K151,S152,m153⟩:=Ji e148 15 R
 refine Tv<|Jd<|Js1 (κ:=K151) [0,2,6,10] (some 12) [(1,2),(3,2),(7,2),(10,2),(0,0),(2,0),(4,0),(5,2),(6,0),(8,0),(9,1),(11,1)] [(12,1)] (by kernel_rfl) (by kernel_rfl) λw157 S156=>Jd3 R U104 R Z29<|Jd3 R U116 R Z2<|Jn 2 R ?_
 have f158:=f44.stp (T7 S51 S54 S64 S70 S82 S152 S156) R R
 refine Jg R (Jd2 (cs:=[.slice ao s1.2.2.1.length aw,.slice ak s1.2.2.2.1.length ah,.slice ai s1.2.2.2.2.length av]) I108 Z108 R R R<|haC f158.cells R)<|Jg R (Jc2 I29 R R<|hvC ((f72.stp (T3 S82 S152 S156) R R).ld 0 R R) R) ?_
 have f160:=f73.stp (T3 S82 S152 S156) R R
 have S001:=(T5 S64 S70 S82 S152 S156)
 refine Jg R (Jc2 I2 R R<|hvC (f160.ld 0 R R) R)<|Ob h λx80 hx80 h=>Jc3 R g0_0 hx80 U29 Z2<|Jg R (Jc2 I2 R R<|hvC ((g0_0.stp (T14 S3 S7 S11 S17 S21 S24 S39 S51 S54 S64 S70 S82 S152 S156) R R).gInt hx80) R)<|Jg R (Jd2 (cs:=[vi x31.At,.slice ae48_0 x31.Record.length ue48_0]) I116 Z116 R R R<|haC f160.cells R)<|Ob h λx84 hx84 h=>WO.callV R R R R R R R R C139 (oh (κ:=Mk K151) (p0:=x31) (Ji3<|f56.stp S001 R R) (Ji3<|f57.stp S001 R R) ((f58.stp S001 R R).map (mp [] 0) R R) hx84) ?_
 rintro _ w165 ⟨k166,rfl,e167⟩
 obtain⟨K168,S169,m170⟩:=Ji e167 18 R
 refine⟨(S169.cl R),?_⟩
 obtain⟨K173,S174,z175⟩:=ea K168 w165 17
 have S002:=(T9 S51 S54 S64 S70 S82 S152 S156 S169 S174)
 refine Ob h λx86 hx86 h=>Jh R R R C186 (Ret.cast (by simp only[(hn150),List.cons_append,List.nil_append])<|ou (κ:=λb=>mp [(7,2),(8,3),(9,4)] 1<|K173 b) (p0:=(⟨(⟨s1.2.2.1,s1.2.2.2.1⟩:Arena),s1.2.2.2.2⟩:Parity)) ((f41.stp S002 R R).map (mp [(7,2),(8,3),(9,4)] 1) R R) ((f42.stp S002 R R).map (mp [(7,2),(8,3),(9,4)] 1) R R) ((f43.stp S002 R R).map (mp [(7,2),(8,3),(9,4)] 1) R R) (Jl2 (Sl.st z175 ((f149.mx (bI _) m153 R (R:15+2=17)).stp (S156.tr S169) R R).rdc) (mp [(7,2),(8,3),(9,4)] 1) R R) hx86) ?_
 rintro _ w180 ⟨k181,aO,aI,aM,aN,aL,aQ,rfl,e182,f183,f184,f185⟩
 obtain⟨K186,S187,m188,z189⟩:=Jj e182 20 R
 have S003:=(T3 S169 S174 S187)
 refine⟨(S003.cl R),Jt1<|Jj1 (κ:=K186) 6 (vc:=[.slice aO x86.Arena.Owner.length aI,.slice aM x86.Arena.Next.length aN,.slice aL x86.Prio.length aQ]) R R R R R R R Z108 R R (f158.stp S003 R R) R λw194 S195 f196=>Tv<|Jo<|Jz<|Jp<|Jf3 R ?_⟩
 cases h
 exact Jz1 λa ha=>⟨k,_,Ja3 _,⟨(λb=>ren [(25,7),(26,8),(27,9)]<|K186 b),(s6.1,((IntKind.i64.wrap<|s1.2.1+1):Int),x86.Arena.Owner,x86.Arena.Next,x86.Prio),aC,ax,aO,aI,aM,aN,aL,aQ,R,(Jy2 ((T12 S39 S51 S54 S64 S70 S82 S152 S156 S169 S174 S187 S195).wk R) [(25,7),(26,8),(27,9)] R),((f83.stp (T6 S152 S156 S169 S174 S187 S195) R R).map (ren [(25,7),(26,8),(27,9)]) R R),(((f183.mx (bI _) m188 R (R:20+5=25)).stp S195 R R).map (ren [(25,7),(26,8),(27,9)]) R R),(((f184.mxz z189 m188 R (R:20+6=26)).stp S195 R R).map (ren [(25,7),(26,8),(27,9)]) R R),(((f185.mx (bI _) m188 R (R:20+7=27)).stp S195 R R).map (ren [(25,7),(26,8),(27,9)]) R R),(f196.map (ren [(25,7),(26,8),(27,9)]) R R),hk46⟩,(ha.mm R)⟩
 refine JT λh=>Jx R<|Je [2,1,2,2] R<|Jf R (bJ (parts:=[]) (cells:=[.slice none 0 0,.slice none 0 0,.slice none 0 0]) R R (by kernel_rfl))<|Jj1 (κ:=K81) 4 (vc:=[.slice none 0 0,.slice none 0 0,.slice none 0 0]) R R R R R R R Z108 R R (f12.stp (T9 S17 S21 S24 S39 S51 S54 S64 S70 S82) R R) R λw142 S143 f144=>Tv<|Jb 2 R<|Ju<|Jw<|Ja1<|Jw<|Jw ?_
 cases h
 obtain rfl:=Option.some.inj hk46
 have h:=yL hK27
 refine Ja1<|Jq2<|Jw<|Ja2 (l:=[.cell 8 108,.tmp 9,.tmp 10]) V136 (bL R f144 I108 Z108 R<|Jp2 R<|Jp2 R R) R ?_
 cases h
 exact⟨K81,none,0,none,0,none,0,none,0,R,(hE.stp (T13 S3 S7 S11 S17 S21 S24 S39 S51 S54 S64 S70 S82 S143) R R),Ow.nil,Ow.nil,Ow.nil,Ow.nil⟩
 rintro _ w29 ⟨K30,s3,ay,aA,ab,ac,aa,af,ad,ae,rfl,S31,f32,f33,f34,f35,f36,rfl⟩
 have h:=yI hK27
 refine Jp<|Je [1,2,1,2,2] R<|Jl tv R R R R (Jd2 (cs:=[.slice ab s3.2.2.1.length ac,.slice aa s3.2.2.2.1.length af,.slice ad s3.2.2.2.2.length ae]) I108 Z108 R R R<|haE f36.cells)<|Jn 1 R<|Jj1 (κ:=K30) 4 (vc:=[.slice ab s3.2.2.1.length ac,.slice aa s3.2.2.2.1.length af,.slice ad s3.2.2.2.2.length ae]) R R R R R R R Z108 R R (f12.stp (T4 S17 S21 S24 S31) R R) R λw202 S203 f204=>Tv<|Jb 2 R<|Ju<|Ja2 (l:=[.cell 8 108,.tmp 9,.tmp 10]) V136 (bL R f204 I108 Z108 R<|Jp2 R<|Jp2 R R) R ?_
 cases h
 exact⟨(λb=>ren [(7,2),(8,3),(9,4)]<|K30 b),ab,ac,aa,af,ad,ae,ay,aA,R,((hE.stp (T8 S3 S7 S11 S17 S21 S24 S31 S203) R R).map (ren [(7,2),(8,3),(9,4)]) R R),((f33.stp S203 R R).map (ren [(7,2),(8,3),(9,4)]) R R),((f34.stp S203 R R).map (ren [(7,2),(8,3),(9,4)]) R R),((f35.stp S203 R R).map (ren [(7,2),(8,3),(9,4)]) R R),((f32.stp S203 R R).map (ren [(7,2),(8,3),(9,4)]) R R)⟩
theorem m0 {ac ae af ad ai ah}{p0:Parity}(g0_0_0:Rd (Rp.int .i64) κ w 0 ac ae p0.Arena.Owner) (g0_0_1:Rd (Rp.sl (Rp.int .i64)) κ w 0 af ad p0.Arena.Next) (g0_1:Rd (Rp.int .i64) κ w 0 ai ah p0.Prio){r:(List Int)}(h:gC p0=some r):Ret Tryz.prog 80 [.agg #[.slice ac p0.Arena.Owner.length ae,.slice af p0.Arena.Next.length ad,.slice ai p0.Prio.length ah]] w (Pvs E6 2 κ w r):=by
 unfold gC at h
 refine Jk3 κ F80 R N80 R λhE=>Je [1,2] R<|Jf1 (κ:=κ) 2 R R R R R R R λb1 w1 K2 S3 f4=>Tv<|Jb 1 R<|Je [2,1,2,1,2] R<|Jd3 R U108 R Z29<|Jb3 R I29 (f4.ld 2 R R)<|Jn3 R U29 R R<|Ob h λx11 hx11 h=>Jl1 (κ:=K2) (E:=E6) (z:=(0:Int)) 3 R R R R R R R Y29 bG R R R R R (λ_ _ _=>R) (Ju2 hx11) λab aa w5 K6 S7 f8=>Tv<|Jb 1 R<|Jq<|Js1 (κ:=K6) [2] none [(1,2),(0,0),(2,0),(3,1),(4,1),(5,2),(6,2),(7,2),(8,2),(9,2)] [] (by kernel_rfl) (by kernel_rfl) λw10 S9=>Jd3 R U108 R Z104 ?_
 have f11:=f4.stp (S7.tr S9) R R
 refine Jg R (Jd2 (cs:=[.slice ac p0.Arena.Owner.length ae,.slice af p0.Arena.Next.length ad,.slice ai p0.Prio.length ah]) I108 Z108 R R R<|haC f11.cells R)<|Jg R (Jd2 (cs:=[.slice ac p0.Arena.Owner.length ae,.slice af p0.Arena.Next.length ad]) I104 Z104 R R R<|haC (f11.lds 0 2 R) R)<|Ob h λx16 hx16 h=>?_
 have f12:=g0_0_0.stp (T3 S3 S7 S9) R R
 have f13:=g0_0_1.stp (T3 S3 S7 S9) R R
 refine Jh R R R C142 (tf (κ:=Mk K6) (p0:=p0.Arena) (Ji3 f12) (Ji3 f13) hx16) ?_
 rintro _ w14 ⟨k15,al,an,rfl,e16,f17⟩
 obtain⟨K18,S19,m20⟩:=Ji e16 4 R
 refine⟨(S19.cl R),Ob h λx17 hx17 h=>Jh R R R C141 (pe (κ:=Mk K18) (p0:=p0) (Ji3<|f12.stp S19 R R) (Ji3<|f13.stp S19 R R) (Ji3<|g0_1.stp (T4 S3 S7 S9 S19) R R) (Ji3 (f17.mx (bI _) m20 R (R:4+2=6)).rdc) hx17) ?_⟩
 rintro _ w26 ⟨k27,ao,am,aj,ak,rfl,e28,f29,f30⟩
 obtain⟨K31,S32,m33⟩:=Ji e28 7 R
 refine⟨((S19.tr S32).cl R),?_⟩
 have f36:=f30.mx (bI _) m33 R (R:7+3=10)
 refine Jn 5 R<|Jt1<|Jd<|Jq<|Jg3 [2,2,2] 1 R<|Jn3 R U29 R R<|Jb 1 R ?_
 have hN37:(x17.2.length:Int)<=9223372036854775807:=f36.len_le
 refine Ob h λq2 hq39 hK38=>?_
 clear h
 refine Jx1 (λL w'=>∃κ',∃s3:(List Int),L=[(3,.slice ab x11.length aa)]/\Stp [3] K31 w26 κ' w'/\Oc E6 2 κ' w' 3 ab aa s3/\x11.length=s3.length/\q2=xe s3) ?_ ?_
 refine Jv<|Jy1 (λk L w'=>∃κ' v22,∃s1:(List Int),L=[(3,.slice ab x11.length aa),(20,.slice aj x17.2.length ak),(21,vi (x17.2.length:Int)),(22,vi v22)]/\Stp [3] K31 w26 κ' w'/\Oc E6 2 κ' w' 3 ab aa s1/\x11.length=s1.length/\0<=v22/\xh ((x17.2.length:Int)-v22)=k/\cntM (ie x17) k v22 s1=some q2) ⟨_,_,⟨K31,0,x11,R,Jj3,(f8.stp (T3 S9 S19 S32) R R),R,(by decide),(by simp),hq39⟩,(KM R)⟩ ?_
 rintro k _ w45 ⟨K46,v22,s1,rfl,S47,f48,hn49,hj37,hJ37,h⟩
 rcases k with _ | k
 have hk51:=h;obtain⟨o37,h⟩:=bP (xe (xf s1):(List Int)⊕(((List Int))⊕((List Int))))
 have hc37:decide (v22<(x17.2.length:Int))=false:=Jo2 (by omega)
 refine Je3 R<|Jq<|Jw2 R hc37<|Jc1<|Jt<|Jt ?_
 cases h
 have h:=hk51
 refine Jb1 ?_
 cases h
 exact Jw1 _ ⟨K46,s1,R,S47.wk R,f48,hn49,R⟩<|KM R
 obtain⟨o37,h,hk51⟩:=BI h;unfold ie at h
 have hc37:decide (v22<(x17.2.length:Int))=true:=Jn2 (by omega)
 refine Je3 R<|Jq<|Jv2 R hc37<|Js<|Jp<|Jq<|Jv<|Je [2,1,2] R<|Ob h λx24 hx24 h=>Jc3 R f36.rdc hx24 U29 Z2<|Jb3 R I2 ((f36.stp S47 R R).rdc.gInt hx24)<|Jb 1 R<|Jh3 [2,2,2,1] 2 R<|Ob h λx28 hx28 h=>Jf R (Jf2 f48.rdc hx28 U29 Z2 R R hn49 R)<|Ob h λy400 hy400 h=>Jk1 (κ:=K46) (E:=E6) 3 [] R R R R R R R R Z2 R R R R f48 hy400 λw53 K54 S55 f56=>Tv<|?_
 have hn57:x11.length=y400.length:=hn49.trans (Jt2 hy400).2.2.2.symm
 refine Jo<|Jz<|Jp<|Jf3 R ?_
 have hw37:t0 .i64 (v22+1)=v22+1:=wr1 hj37 (Jm2 hc37) hN37
 rw[hw37]
 have hc37:=Jm2 hc37
 cases h
 exact Jz1 λa ha=>⟨k,_,Ja3 _,⟨K54,v22+1,y400,R,(S47.tr S55).wk R,f56,hn57,by omega,by omega,hk51⟩,(ha.mm R)⟩
 rintro _ w40 ⟨K41,s3,rfl,S42,f43,hn44,rfl⟩
 have h:=yI hK38
 refine Jp<|Je3 R<|Ju<|Ja2 (l:=[.tmp 2]) V80 (Jp2 R R) R ?_
 cases h
 exact⟨(λb=>ren [(3,2)]<|K41 b),ab,aa,(by simp only[hn44]),((hE.stp (T6 S3 S7 S9 S19 S32 S42) R R).map (ren [(3,2)]) R R),(f43.map (ren [(3,2)]) R R)⟩
theorem qe {ak ah ai af aj al}{p0:Parity}{a1 u1}{p1:(List Int)}{a2 u2}{p2:(List Int)}(g0_0_0:Rd (Rp.int .i64) κ w 0 ak ah p0.Arena.Owner) (g0_0_1:Rd (Rp.sl (Rp.int .i64)) κ w 0 ai af p0.Arena.Next) (g0_1:Rd (Rp.int .i64) κ w 0 aj al p0.Prio) (g1:Rd (Rp.int .i64) κ w 0 a1 u1 p1) (g2:Rd (Rp.int .i64) κ w 0 a2 u2 p2){r:Answer}(h:j5 p0 p1 p2=some r):Ret Tryz.prog 148 [.agg #[.slice ak p0.Arena.Owner.length ah,.slice ai p0.Arena.Next.length af,.slice aj p0.Prio.length al],.slice a1 p1.length u1,.slice a2 p2.length u2] w (λv w'=>∃(κ':Col) (ra0:Option Addr) (ru0:Nat) (ra1:Option Addr) (ru1:Nat),v= .agg #[.slice ra0 r.Won.length ru0,.slice ra1 r.Plan.length ru1]/\Ent κ w κ' w'/\Oc E6 2 κ' w' 2 ra0 ru0 r.Won/\Oc E6 2 κ' w' 3 ra1 ru1 r.Plan):=by
 unfold j5 at h
 refine Jk3 κ F148 R N148 R λhE=>Je [1,1] R<|Jf1 (κ:=κ) 2 R R R R R R R λb3 w1 K2 S3 f4=>Tv<|Jg1 (κ:=K2) 3 R R R R R X113 R λb6 w5 K6 S7 f8=>Tv<|Jd<|Je [1,2,1,2] R<|Jo1 (κ:=K6) (E:=E6) 4 R R R R R Y29 bG R λax aw w9 K10 S11 f12=>Tv<|Jn 1 R<|Ob h λx16 hx16 h=>Jm1 (κ:=K10) (E:=E6) 4 [] R R R R R R R R R Y29 bG R R R R f12 (Sl.srcP (bT _)<|g1.stp (T3 S3 S7 S11) R R) bK hx16 R λab aa w14 K15 S16 f17=>Tv<|Jb 1 R<|Jq<|Jg3 [2,2,2] 1 R<|Jn3 R U29 R R<|Jb 1 R ?_
 have hN18:(x16.length:Int)<=9223372036854775807:=f17.len_le
 refine Ob h λq2 hq20 hK19=>?_
 clear h
 refine Jx1 (λL w'=>∃κ',∃s3:(List Int),L=[(2,.slice a2 p2.length u2),(6,.pointer (some ⟨b6,0,none⟩)),(7,.slice ab x16.length aa)]/\Stp [4] K15 w14 κ' w'/\Oc E6 2 κ' w' 4 ab aa s3/\x16.length=s3.length/\q2=xe s3) ?_ ?_
 refine Jv<|Jy1 (λk L w'=>∃κ' v19,∃s1:(List Int),L=[(2,.slice a2 p2.length u2),(3,.pointer (some ⟨b3,0,none⟩)),(6,.pointer (some ⟨b6,0,none⟩)),(7,.slice ab x16.length aa),(18,vi (x16.length:Int)),(19,vi v19)]/\Stp [4] K15 w14 κ' w'/\Oc E6 2 κ' w' 4 ab aa s1/\x16.length=s1.length/\0<=v19/\xh ((x16.length:Int)-v19)=k/\cntM (fO p0 p2) k v19 s1=some q2) ⟨_,_,⟨K15,0,x16,R,Jj3,f17,R,(by decide),(by simp),hq20⟩,(KM R)⟩ ?_
 rintro k _ w26 ⟨K27,v19,s1,rfl,S28,f29,hn30,hj18,hJ18,h⟩
 rcases k with _ | k
 have hk31:=h;obtain⟨o18,h⟩:=bP (xe (xf s1):Answer⊕(((List Int))⊕((List Int))))
 have hc18:decide (v19<(x16.length:Int))=false:=Jo2 (by omega)
 refine Je3 R<|Jq<|Jw2 R hc18<|Jc1<|Jt<|Jt ?_
 cases h
 have h:=hk31
 refine Jb1 ?_
 cases h
 exact Jw1 _ ⟨K27,s1,R,S28.wk R,f29,hn30,R⟩<|KM R
 obtain⟨o18,h,hk31⟩:=BI h;unfold fO at h
 have hc18:decide (v19<(x16.length:Int))=true:=Jn2 (by omega)
 refine Je3 R<|Jq<|Jv2 R hc18<|Js<|Jp<|Jq<|Jv<|Je3 R<|Jq<|Jq<|Js1 (κ:=K27) [0,2,4] none [(0,2),(1,2),(3,2),(6,2),(7,2),(8,2),(2,0),(4,2),(5,0),(9,0),(10,2),(11,2),(12,2),(13,2),(14,2),(15,0),(16,2),(17,2)] [] (by kernel_rfl) (by kernel_rfl) λw33 S32=>Jd3 R U108 R Z104<|Jd3 R U104 R Z29<|Jn 3 R<|Ob h λx30 hx30 h=>Jc3 R g2 hx30 U29 Z2 ?_
 have f34:=f4.stp (T5 S7 S11 S16 S28 S32) R R
 refine Jg R (Jc2 I29 R R<|hvC (f34.ld 0 R R) R)<|Ob h λx26 hx26 h=>Jc3 R g0_0_0 hx26 U29 Z2 ?_
 have f35:=g0_0_0.stp (T6 S3 S7 S11 S16 S28 S32) R R
 refine Jg R (Jc2 I2 R R<|hvC (f35.gInt hx26) R) ?_
 have f36:=g2.stp (T6 S3 S7 S11 S16 S28 S32) R R
 refine Jg R (Jc2 I2 R R<|hvC (f36.gInt hx30) R)<|Jn 2 R<|Ob h λp39 h hK37=>Ju1 [(12,2),(13,2),(14,2),(15,0),(16,2),(17,2)] [] (λL w'=>L=[(2,.slice a2 p2.length u2),(3,.pointer (some ⟨b3,0,none⟩)),(6,.pointer (some ⟨b6,0,none⟩)),(7,.slice ab x16.length aa),(8,vi v19),(18,vi (x16.length:Int)),(19,vi v19),(39,.bool p39)]/\∃κ',Stp [] K27 w33 κ' w') (Cl.refl _ _ _) ?_ ?_
 revert h
 cases ht38:(x26 !=x30)
 refine JF λh=>Jn 2 R<|Ob h λx36 hx36 h=>Jf R (Jf2 f29.rdc hx36 U29 Z2 R R hn30 R)<|Jg R (Jc2 I2 R R<|hvC ((f29.stp S32 R R).rdc.gInt hx36) R)<|Jn 2 R ?_
 cases h
 exact Jv1 _ (Cl.refl _ _ _) ⟨R,_,Jj3⟩<|KM R
 refine JT λh=>Jn 3 R<|Je1 R R R R<|Jn 2 R ?_
 cases h
 exact Jv1 _ (Cl.refl _ _ _) ⟨R,_,Jj3⟩<|KM R
 rintro _ w40 _ ⟨rfl,K41,S42⟩
 have h:=hK37
 refine Jt1<|Jd ?_
 revert h
 cases ht43:p39
 refine JF λh=>Jy R<|Js<|Jp<|Jg3 [2,2,2,2,2,1,1,2] 1 R<|Jf R (bJ (parts:=[(0,.tmp 40)]) (cells:=[.slice a2 p2.length u2,.slice none 0 0]) R R (by kernel_rfl))<|Jn 2 R<|Ob h λx44 hx44 h=>Jc3 R f36 hx44 U29 Z2 ?_
 have f45:=f36.stp S42 R R
 refine Jb3 R I2 (f45.gInt hx44)<|Ob h λx46 hx46 h=>Jh R R R C195 (p5 (κ:=Mk K41) (p0:=(⟨p2,([]:List Int)⟩:Answer)) (Ji3 f45) Sl.nil hx46) ?_
 rintro _ w46 ⟨k47,ac,ad,rfl,e48,f49⟩
 obtain⟨K50,S51,m52⟩:=Ji e48 5 R
 refine Tv<|Jb 1 R<|Je [2,2,1,2,2,1,2,2] R<|Jd3 R U108 R Z104<|Jd3 R U104 R Z26 ?_
 have f55:=f34.stp (S42.tr S51) R R
 refine Jb3 R I26 (f55.ld 1 R R)<|Jn 1 R<|Ob h λx51 hx51 h=>Jc3 R g0_0_1 hx51 U26 Z29 ?_
 have f56:=g0_0_1.stp (T8 S3 S7 S11 S16 S28 S32 S42 S51) R R
 obtain⟨ax51,ux51,f57,hl58⟩:=f56.gSl hx51
 refine Jb3 R I29 hl58<|Jn3 R U29 R R<|Jb 1 R ?_
 have hN59:(x51.length:Int)<=9223372036854775807:=f57.len_le
 refine Ob h λq5 hq61 hK60=>?_
 clear h
 refine Jx1 (λL w'=>∃κ',∃s6:(List Int),L=[(2,.slice a2 p2.length u2),(3,.pointer (some ⟨b3,0,none⟩)),(6,.pointer (some ⟨b6,0,none⟩)),(7,.slice ab x16.length aa),(18,vi (x16.length:Int)),(19,vi v19)]/\Stp [4] K50 w46 κ' w'/\Oc E6 2 κ' w' 4 ab aa s6/\x16.length=s6.length/\q5=xe s6) ?_ ?_
 refine Jv<|Jy1 (λk L w'=>∃κ' v54,∃s4:(List Int),L=[(2,.slice a2 p2.length u2),(3,.pointer (some ⟨b3,0,none⟩)),(6,.pointer (some ⟨b6,0,none⟩)),(7,.slice ab x16.length aa),(8,vi v19),(9,.slice ac x46.length ad),(18,vi (x16.length:Int)),(19,vi v19),(52,.slice ax51 x51.length ux51),(53,vi (x51.length:Int)),(54,vi v54)]/\Stp [4] K50 w46 κ' w'/\Oc E6 2 κ' w' 4 ab aa s4/\x16.length=s4.length/\0<=v54/\xh ((x51.length:Int)-v54)=k/\cntM (eF p0 p2 v19 x46 x51) k v54 s4=some q5) ⟨_,_,⟨K50,0,s1,R,Jj3,(f29.stp (T3 S32 S42 S51) R R),hn30,(by decide),(by simp),hq61⟩,(KM R)⟩ ?_
 rintro k _ w67 ⟨K68,v54,s4,rfl,S69,f70,hn71,hj59,hJ59,h⟩
 rcases k with _ | k
 have hk73:=h;obtain⟨o59,h⟩:=bP (xe (xf s4):Answer⊕(((List Int))⊕((List Int))))
 have hc59:decide (v54<(x51.length:Int))=false:=Jo2 (by omega)
 refine Je3 R<|Jq<|Jw2 R hc59<|Jc1<|Jt<|Jt ?_
 cases h
 have h:=hk73
 refine Jb1 ?_
 cases h
 exact Jw1 _ ⟨K68,s4,R,S69.wk R,f70,hn71,R⟩<|KM R
 obtain⟨o59,h,hk73⟩:=BI h;unfold eF at h
 have hc59:decide (v54<(x51.length:Int))=true:=Jn2 (by omega)
 refine Je3 R<|Jq<|Jv2 R hc59<|Js<|Jp<|Jq<|Jv<|Je [2,1,2] R<|Ob h λx56 hx56 h=>Jc3 R f57 hx56 U29 Z2<|Jb3 R I2 ((f57.stp S69 R R).gInt hx56)<|Jb 1 R<|Jq<|Jq<|Js1 (κ:=K68) [0] none [(0,2),(1,2),(2,2),(4,2),(5,2),(6,2),(3,0),(7,0),(8,2)] [] (by kernel_rfl) (by kernel_rfl) λw76 S75=>Jn 2 R<|Ob h λx60 hx60 h=>Jc3 R f45 hx60 U29 Z2<|Jn 2 R<|Ob h λx64 hx64 h=>Jc3 R f45 hx64 U29 Z2 ?_
 have f77:=f45.stp (T3 S51 S69 S75) R R
 refine Jg R (Jc2 I2 R R<|hvC (f77.gInt hx60) R)<|Jg R (Jc2 I2 R R<|hvC (f77.gInt hx64) R)<|Jn 1 R<|Jt1<|Jd ?_
 revert h
 cases ht78:(x60 !=x64)
 refine JF λh=>Jy R<|Js<|Jp<|Jg3 [2,2,2,2,1] 3 R<|Ob h λx70 hx70 h=>Jf R (Jf2 f70.rdc hx70 U29 Z2 R R hn71 R)<|Ob h λy414 hy414 h=>Jk1 (κ:=K68) (E:=E6) 4 [] R R R R R R R R Z2 R R R R (f70.stp S75 R R) hy414 λw81 K82 S83 f84=>Tv<|?_
 have hn85:x16.length=y414.length:=hn71.trans (Jt2 hy414).2.2.2.symm
 refine Jd<|Je [1,2,1,2,1,2,2,2,2,2] R<|Jl tv R R R R (Jd2 (cs:=[.slice ak p0.Arena.Owner.length ah,.slice ai p0.Arena.Next.length af,.slice aj p0.Prio.length al]) I108 Z108 R R R<|haE (f55.stp (T3 S69 S75 S83) R R).cells)<|Jn 1 R<|Ob h λx74 hx74 h=>Jh R R R C196 (Ret.cast (by simp only[hn85,List.cons_append,List.nil_append])<|sq (κ:=Mk K82) (p0:=p0) (Ji3<|f35.stp (T5 S42 S51 S69 S75 S83) R R) (Ji3<|f56.stp (T3 S69 S75 S83) R R) (Ji3<|g0_1.stp (T11 S3 S7 S11 S16 S28 S32 S42 S51 S69 S75 S83) R R) (Ji3 f84.rdc) hx74) ?_
 rintro _ w90 ⟨k91,au,aC,ay,ar,ap,av,rfl,e92,f93,f94,f95⟩
 obtain⟨K96,S97,m98⟩:=Ji e92 8 R
 refine Tv<|Jn 1 R<|Ob h λx76 hx76 h=>Jh R R R C141 (pe (κ:=Mk K96) (p0:=x74) (Ji3 (f93.mx (bI _) m98 R (R:8+2=10)).rdc) (Ji3 (f94.mx (cm (bI _) _) m98 R (R:8+3=11)).rdc) (Ji3 (f95.mx (bI _) m98 R (R:8+4=12)).rdc) (Ji3 ((f49.mx (bI _) m52 R (R:5+2=7)).stp (T4 S69 S75 S83 S97) R R).rdc) hx76) ?_
 rintro _ w104 ⟨k105,ao,an,aB,aq,rfl,e106,f107,f108⟩
 obtain⟨K109,S110,m111⟩:=Ji e106 13 R
 refine Tv<|Jb 5 R<|Jq<|Jg3 [2,2,2,1,2,2,2,2,2,2,2,2,2,2,1,2,2,2,2,2,2,2] 2 R<|Ob h λx81 hx81 h=>Jc3 R f77 hx81 U29 Z2 ?_
 have f115:=f77.stp (T3 S83 S97 S110) R R
 refine Jb3 R I2 (f115.gInt hx81)<|Jn 2 R<|Ob h λp88 h hK116=>Ju1 [(6,2),(7,2),(8,2),(9,2)] [(10,2),(11,2),(12,2),(13,2),(14,1),(15,2),(16,2),(17,2),(18,2),(19,2),(20,2),(21,2)] (λL w'=>L=[(2,.slice a2 p2.length u2),(3,.pointer (some ⟨b3,0,none⟩)),(6,.pointer (some ⟨b6,0,none⟩)),(7,.slice ab x16.length aa),(8,vi v19),(9,.slice ac x46.length ad),(12,.slice ao x76.1.length an),(18,vi (x16.length:Int)),(19,vi v19),(52,.slice ax51 x51.length ux51),(53,vi (x51.length:Int)),(54,vi v54),(88,.bool p88)]/\∃κ',Stp [] K109 w104 κ' w') tv ?_ ?_
 revert h
 cases ht117:(x81==0)
 refine JF λh=>Jn 4 R ?_
 cases h
 exact Jv1 _ tv ⟨R,_,Jj3⟩<|KM R
 refine JT λh=>Jn 1 R<|Jn3 R U29 R R<|Jn 2 R ?_
 cases h
 exact Jv1 _ tv ⟨R,_,Jj3⟩<|KM R
 rintro _ w118 _ ⟨rfl,K119,S120⟩
 have h:=hK116
 refine Jn 1 R<|Ob h λp100 h hK121=>Ju1 [(11,2),(12,2),(13,2),(14,1),(15,2),(16,2),(17,2),(18,2),(19,2),(20,2),(21,2)] [] (λL w'=>L=[(2,.slice a2 p2.length u2),(3,.pointer (some ⟨b3,0,none⟩)),(6,.pointer (some ⟨b6,0,none⟩)),(7,.slice ab x16.length aa),(8,vi v19),(9,.slice ac x46.length ad),(18,vi (x16.length:Int)),(19,vi v19),(52,.slice ax51 x51.length ux51),(53,vi (x51.length:Int)),(54,vi v54),(100,.bool p100)]/\∃κ',Stp [] K119 w118 κ' w') tv ?_ ?_
 revert h
 cases ht122:p88
 refine JF λh=>Jn 2 R<|Ob h λx92 hx92 h=>Jc3 R f115 hx92 U29 Z2<|Jb3 R I2 ((f115.stp S120 R R).gInt hx92)<|Jn 2 R<|Ob h λp99 h hK124=>Ju1 [(17,2),(18,2),(19,2),(20,2)] [(21,2)] (λL w'=>L=[(2,.slice a2 p2.length u2),(3,.pointer (some ⟨b3,0,none⟩)),(6,.pointer (some ⟨b6,0,none⟩)),(7,.slice ab x16.length aa),(8,vi v19),(9,.slice ac x46.length ad),(18,vi (x16.length:Int)),(19,vi v19),(52,.slice ax51 x51.length ux51),(53,vi (x51.length:Int)),(54,vi v54),(89,.bool false),(90,.slice a2 p2.length u2),(91,vi v19),(92,.pointer (some<|aAt a2<|v19.toNat * 1)),(93,vi x92),(94,.bool (x92==1)),(95,.bool (x92==1)),(99,.bool p99)]/\∃κ',Stp [] K119 w118 κ' w') tv ?_ ?_
 revert h
 cases ht125:(x92==1)
 refine JF λh=>Jn 4 R ?_
 cases h
 exact Jv1 _ tv ⟨R,_,Jj3⟩<|KM R
 refine JT λh=>Jn 1 R<|Jn3 R U29 R R<|Jn 2 R ?_
 cases h
 exact Jv1 _ tv ⟨R,_,Jj3⟩<|KM R
 rintro _ w126 _ ⟨rfl,K127,S128⟩
 have h:=hK124
 refine Jn 1 R ?_
 cases h
 exact Jv1 _ tv ⟨R,_,S128.wk R⟩<|KM R
 refine JT λh=>Jn 3 R<|Jd1 R R R R<|Jn 7 R ?_
 cases h
 exact Jv1 _ tv ⟨R,_,Jj3⟩<|KM R
 rintro _ w129 _ ⟨rfl,K130,S131⟩
 have h:=hK121
 refine Jd ?_
 revert h
 cases ht132:p100
 refine JF λh=>Jy R<|Js<|Jp<|Jh3 [2,2,2,1] 2 R<|Ob h λx103 hx103 h=>Jf R (Jf2 f84.rdc hx103 U29 Z2 R R hn85 R)<|Ob h λy427 hy427 h=>Jk1 (κ:=K130) (E:=E6) 4 [] R R R R R R R R Z2 R R R R (f84.stp (T4 S97 S110 S120 S131) R R) hy427 λw135 K136 S137 f138=>Tv<|?_
 have hn139:x16.length=y427.length:=hn85.trans (Jt2 hy427).2.2.2.symm
 refine Jo<|Jz<|Jp<|Jf3 R ?_
 have hw59:t0 .i64 (v54+1)=v54+1:=wr1 hj59 (Jm2 hc59) hN59
 rw[hw59]
 have hc59:=Jm2 hc59
 cases h
 exact Jz1 λa ha=>⟨k,_,Ja3 _,⟨K136,v54+1,y427,R,(T8 S69 S75 S83 S97 S110 S120 S131 S137).wk R,f138,hn139,by omega,by omega,hk73⟩,(ha.mm R)⟩
 refine JT λh=>Jx R<|Jc1<|Jt<|Jz2 R<|Jt<|Jt ?_
 cases h
 have h:=hk73
 refine Jb1 ?_
 cases h
 exact Jw1 _ ⟨K130,y414,R,(T7 S69 S75 S83 S97 S110 S120 S131).wk R,(f84.stp (T4 S97 S110 S120 S131) R R),hn85,R⟩<|KM R
 refine JT λh=>Jx R<|Jc1<|Jt<|Jb1<|Jp<|Jf3 R ?_
 have hw59:t0 .i64 (v54+1)=v54+1:=wr1 hj59 (Jm2 hc59) hN59
 rw[hw59]
 have hc59:=Jm2 hc59
 cases h
 exact Jz1 λa ha=>⟨k,_,Ja3 _,⟨K68,v54+1,s4,R,(S69.tr S75).wk R,(f70.stp S75 R R),hn71,by omega,by omega,hk73⟩,(ha.mm R)⟩
 rintro _ w62 ⟨K63,s6,rfl,S64,f65,hn66,rfl⟩
 have h:=yI hK60
 refine Jz<|Jp<|Jf3 R ?_
 have hw18:t0 .i64 (v19+1)=v19+1:=wr1 hj18 (Jm2 hc18) hN18
 rw[hw18]
 have hc18:=Jm2 hc18
 cases h
 exact Jz1 λa ha=>⟨k,_,Ja3 _,⟨K63,v19+1,s6,R,(T5 S28 S32 S42 S51 S64).wk R,f65,hn66,by omega,by omega,hk31⟩,(ha.mm R)⟩
 refine JT λh=>Jx R<|Jc1<|Jt<|Jb1<|Jp<|Jf3 R ?_
 have hw18:t0 .i64 (v19+1)=v19+1:=wr1 hj18 (Jm2 hc18) hN18
 rw[hw18]
 have hc18:=Jm2 hc18
 cases h
 exact Jz1 λa ha=>⟨k,_,Ja3 _,⟨K41,v19+1,s1,R,(T3 S28 S32 S42).wk R,(f29.stp (S32.tr S42) R R),hn30,by omega,by omega,hk31⟩,(ha.mm R)⟩
 rintro _ w21 ⟨K22,s3,rfl,S23,f24,hn25,rfl⟩
 have h:=yI hK19
 refine Jp<|Je [1,2,1,2,2,1] R<|Jo1 (κ:=K22) (E:=E6) 5 R R R R R Y29 bG R λaA az w140 K141 S142 f143=>Tv<|Jn 1 R<|Ob h λx108 hx108 h=>Jm1 (κ:=K141) (E:=E6) 5 [] R R R R R R R R R Y29 bG R R R R f143 (Sl.srcP (bT _)<|g2.stp (T6 S3 S7 S11 S16 S23 S142) R R) bK hx108 R λam ae w145 K146 S147 f148=>Tv<|Jn 1 R<|Jf R (bJ (parts:=[(0,.tmp 108),(1,.tmp 109)]) (cells:=[.slice am x108.length ae,.slice ab x16.length aa]) R R (by kernel_rfl))<|Jj1 (κ:=K146) 3 (vc:=[.slice am x108.length ae,.slice ab x16.length aa]) R R R R R R R Z113 R R (f8.stp (T5 S11 S16 S23 S142 S147) R R) R λw150 S151 f152=>Tv<|Jd<|Ju<|Ja2 (l:=[.cell 6 113]) V148 (bL R f152 I113 Z113 R R) R ?_
 cases h
 exact⟨(λb=>ren [(5,2),(4,3)]<|K146 b),am,ae,ab,aa,(by simp only[hn25]),((hE.stp (T8 S3 S7 S11 S16 S23 S142 S147 S151) R R).map (ren [(5,2),(4,3)]) R R),((f148.stp S151 R R).map (ren [(5,2),(4,3)]) R R),((f24.stp (T3 S142 S147 S151) R R).map (ren [(5,2),(4,3)]) R R)⟩
theorem sK {p0:Sig}{aa ab ac ad}{p1:Det}(g1_0:Rd (Rp.sl (Rp.int .i64)) κ w 0 aa ab p1.Next) (g1_1:Rd Pair.rp κ w 0 ac ad p1.Pairs){r:Bool}(h:ny p0 p1=some r):Ret Tryz.prog 150 [.agg #[vi p0.In,vi p0.Out],.agg #[.slice aa p1.Next.length ab,.slice ac p1.Pairs.length ad]] w (Pvb κ w r):=by
 unfold ny at h
 refine Jk3 κ F150 R N150 R λhE=>Je [1,1,2] R<|Jf1 (κ:=κ) 2 R R R R R R R λb2 w1 K2 S3 f4=>Tv<|Jf1 (κ:=K2) 3 R R R R R R R λb3 w5 K6 S7 f8=>Tv<|Jb 1 R<|Je [2,1,2,2] R<|Jd3 R U100 R Z26<|Jb3 R I26 (f8.ld 0 R R)<|Jn3 R U26 R R<|Jb 1 R<|Jq<|Jg3 [2,2,2,2,2,2,2,2,1,2,1,2,2] 3 R<|Ob h λp16 h hK9=>Ju1 [(3,2),(4,2),(5,2)] [(6,2),(7,2),(8,1),(9,2),(10,1),(11,2),(12,2)] (λL w'=>L=[(2,.pointer (some ⟨b2,0,none⟩)),(3,.pointer (some ⟨b3,0,none⟩)),(5,vi (p1.Next.length:Int)),(16,.bool p16)]/\∃κ',Stp [] K6 w5 κ' w') tv ?_ ?_
 revert h
 cases ht10:decide ((p1.Next.length:Int)<1)
 refine JF λh=>Jn 3 R ?_
 cases h
 exact Jv1 _ tv ⟨R,_,Jj3⟩<|KM R
 refine JT λh=>Jn 3 R ?_
 cases h
 exact Jv1 _ tv ⟨R,_,Jj3⟩<|KM R
 rintro _ w11 _ ⟨rfl,K12,S13⟩
 have h:=hK9
 refine Jn 1 R<|Ob h λp23 h hK14=>Ju1 [(7,2),(8,1),(9,2),(10,1),(11,2),(12,2)] [] (λL w'=>L=[(2,.pointer (some ⟨b2,0,none⟩)),(3,.pointer (some ⟨b3,0,none⟩)),(5,vi (p1.Next.length:Int)),(23,.bool p23)]/\∃κ',Stp [] K12 w11 κ' w') tv ?_ ?_
 revert h
 cases ht15:p16
 refine JF λh=>Jd3 R U100 R Z98<|Jb3 R I98 ((f8.stp S13 R R).ld 1 R R)<|Jn 1 R<|Ob h λx21 hx21 h=>Jh R R R C197 (pX (κ:=Mk K12) (Ji3<|g1_1.stp (T3 S3 S7 S13) R R) hx21) ?_
 rintro _ w18 ⟨k19,rfl,e20⟩
 obtain⟨K21,S22,m23⟩:=Ji e20 4 R
 refine Tv<|Jn 2 R ?_
 cases h
 exact Jv1 _ tv ⟨R,_,S22.wk R⟩<|KM R
 refine JT λh=>Jn 1 R<|Jd1 R R R R<|Jn 1 R<|Jd1 R R R R<|Jn 2 R ?_
 cases h
 exact Jv1 _ tv ⟨R,_,Jj3⟩<|KM R
 rintro _ w25 _ ⟨rfl,K26,S27⟩
 have h:=hK14
 refine Jd ?_
 revert h
 cases ht28:p23
 refine JF λh=>Jy R<|Js<|Jp<|Jq<|Je [2,1,2,2] R<|Jd3 R U100 R Z26<|Jb3 R I26 ((f8.stp (S13.tr S27) R R).ld 0 R R)<|Jn3 R U26 R R<|Jb 1 R ?_
 have hN31:(p1.Next.length:Int)<=9223372036854775807:=g1_0.len_le
 refine Ob h λq2 hq33 hK32=>?_
 clear h
 refine Jx1 (λL w'=>∃κ',L=[]/\Stp [] K26 w25 κ' w'/\q2=xe ()) ?_ ?_
 refine Jv<|Jy1 (λk L w'=>∃κ' v27,L=[(2,.pointer (some ⟨b2,0,none⟩)),(5,vi (p1.Next.length:Int)),(25,.slice aa p1.Next.length ab),(26,vi (p1.Next.length:Int)),(27,vi v27)]/\Stp [] K26 w25 κ' w'/\0<=v27/\xh ((p1.Next.length:Int)-v27)=k/\cntM (jE p0 p1) k v27 ()=some q2) ⟨_,_,⟨K26,0,R,Jj3,(by decide),(by simp),hq33⟩,(KM R)⟩ ?_
 rintro k _ w37 ⟨K38,v27,rfl,S39,hj31,hJ31,h⟩
 rcases k with _ | k
 have hk40:=h;obtain⟨o31,h⟩:=bP (xe (xf ()):Bool⊕((Unit)⊕(Unit)))
 have hc31:decide (v27<(p1.Next.length:Int))=false:=Jo2 (by omega)
 refine Je3 R<|Jq<|Jw2 R hc31<|Jc1<|Jt<|Jt ?_
 cases h
 have h:=hk40
 refine Jb1 ?_
 cases h
 exact Jw1 _ ⟨K38,R,S39.wk R,R⟩ KN
 obtain⟨o31,h,hk40⟩:=BI h;unfold jE at h
 have hc31:decide (v27<(p1.Next.length:Int))=true:=Jn2 (by omega)
 refine Je3 R<|Jq<|Jv2 R hc31<|Js<|Jp<|Jq<|Jv<|Je [2,1,2] R<|Ob h λx29 hx29 h=>Jc3 R g1_0 hx29 U26 Z29 ?_
 obtain⟨ax29,ux29,f42,hl43⟩:=(g1_0.stp (T5 S3 S7 S13 S27 S39) R R).gSl hx29
 refine Jb3 R I29 hl43<|Jb 1 R<|Jg3 [2,2,1,1,2,2,2,2,1,2,2] 1 R<|Jn3 R U29 R R<|Jl tv R R R R (Jd2 (cs:=[vi p0.In,vi p0.Out]) I25 Z25 R R R<|haE (f4.stp (T4 S7 S13 S27 S39) R R).cells)<|Ob h λx34 hx34 h=>Jh R R R C130 (fb (κ:=Mk K38) (p0:=p0) hx34) ?_
 rintro _ w45 ⟨k46,rfl,e47⟩
 obtain⟨K48,S49,m50⟩:=Ji e47 4 R
 refine Tv<|Jn 2 R<|Ob h λp41 h hK52=>Ju1 [(6,2),(7,2),(8,1),(9,2),(10,2)] [] (λL w'=>L=[(2,.pointer (some ⟨b2,0,none⟩)),(5,vi (p1.Next.length:Int)),(25,.slice aa p1.Next.length ab),(26,vi (p1.Next.length:Int)),(27,vi v27),(41,.bool p41)]/\∃κ',Stp [] K48 w45 κ' w') tv ?_ ?_
 revert h
 cases ht53:((x29.length:Int) !=x34)
 refine JF λh=>Jn 2 R<|Ob h λx39 hx39 h=>Jh R R R C66 (om (κ:=Mk K48) (Ji3<|f42.stp S49 R R) hx39) ?_
 rintro _ w55 ⟨k56,rfl,e57⟩
 obtain⟨K58,S59,m60⟩:=Ji e57 6 R
 refine Tv<|Jn 2 R ?_
 cases h
 exact Jv1 _ tv ⟨R,_,S59.wk R⟩<|KM R
 refine JT λh=>Jn 2 R<|Jd1 R R R R<|Jn 2 R ?_
 cases h
 exact Jv1 _ tv ⟨R,_,Jj3⟩<|KM R
 rintro _ w62 _ ⟨rfl,K63,S64⟩
 have h:=hK52
 refine Jd ?_
 revert h
 cases ht65:p41
 refine JF λh=>Jy R<|Js<|Jz<|Jp<|Jf3 R ?_
 have hw31:t0 .i64 (v27+1)=v27+1:=wr1 hj31 (Jm2 hc31) hN31
 rw[hw31]
 have hc31:=Jm2 hc31
 cases h
 exact Jz1 λa ha=>⟨k,_,Ja3 _,⟨K63,v27+1,R,(T3 S39 S49 S64).wk R,by omega,by omega,hk40⟩,(ha.mm R)⟩
 refine JT λh=>Jx R<|Je3 R<|Ju<|Ja1<|Jw<|Jw ?_
 cases h
 obtain rfl:=Option.some.inj hk40
 have h:=yL hK32
 refine Ja1<|Jq2<|Jw<|Ja2 (l:=[.tmp 4]) V150 (Jp2 R R) R ?_
 cases h
 exact⟨K63,R,(hE.stp (T7 S3 S7 S13 S27 S39 S49 S64) R R)⟩
 rintro _ w34 ⟨K35,rfl,S36,rfl⟩
 have h:=yI hK32
 refine Jp<|Je3 R<|Ju<|Ja2 (l:=[.tmp 4]) V150 (Jp2 R R) R ?_
 cases h
 exact⟨K35,R,(hE.stp (T5 S3 S7 S13 S27 S36) R R)⟩
 refine JT λh=>Jx R<|Je3 R<|Ju<|Jw<|Ja2 (l:=[.tmp 4]) V150 (Jp2 R R) R ?_
 cases h
 exact⟨K26,R,(hE.stp (T4 S3 S7 S13 S27) R R)⟩
end Go.Proofs.YtpcjbkgbnoocaaaGreat
