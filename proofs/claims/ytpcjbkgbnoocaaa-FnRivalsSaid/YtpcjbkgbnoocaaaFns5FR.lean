/- The walks, part 5. By program. -/
import Derived.Test.YtpcjbkgbnoocaaaFns4FR
set_option linter.unusedVariables false
set_option linter.unusedSimpArgs false
open Go.IntKind renaming wrap → sh
open Sum renaming inr → vq
open Int renaming toNat → vu
namespace Go.Proofs.Ytpcjbkgbnoocaaa
open Go Go.Wk Go.Proofs
set_option maxRecDepth 100000
set_option maxHeartbeats 1000000
variable {w:World}{κ:Col}
theorem mr {ae af}{p0:l1Cur}{p1:Sig}{b0}(g0_0:Rd (Rp.int .u8) κ w 0 ae af p0.b) (gb0:Bc κ w 2 b0 56 [.slice ae p0.b.length af,vi p0.i,vi p0.h]){r:Clause×Int×Int}(h:iD p0 p1=some r):Ret Try.prog 50 [.pointer (some ⟨b0,0,none⟩),.agg #[vi p1.In,vi p1.Out]] w (λv w'=>∃(κ':Col) (ra0:Option Addr) (ru0:Nat) (ra1:Option Addr) (ru1:Nat),v= .agg #[vi r.1.Kind,.slice ra0 r.1.A.length ru0,.slice ra1 r.1.B.length ru1]/\Ent κ w κ' w'/\Oc E6 2 κ' w' 3 ra0 ru0 r.1.A/\Oc E6 2 κ' w' 4 ra1 ru1 r.1.B/\Bc κ' w' 2 b0 56 [.slice ae p0.b.length af,vi r.2.1,vi r.2.2]):=by
 unfold iD at h
 refine Jk3 κ F50 R N50 R λhE=>Je [1,1] R<|Jf1 (κ:=κ) 3 R R R R R R R λb3 w1 K2 S3 f4=>Tv<|Jg1 (κ:=K2) 4 R R R R R X92 R λb4 w5 K6 S7 f8=>Tv<|Jd<|Je [1,1,1,2] R<|Jl tv R R R R (Jd2 (cs:=[vi p1.In,vi p1.Out]) I25 Z25 R R R<|haE (f4.stp S7 R R).cells)<|Ob h λx8 hx8 h=>Jh R R R C54 (dH (κ:=Mk K6) (p0:=p1) hx8) ?_
 rintro _ w10 ⟨k11,rfl,e12⟩
 obtain⟨K13,S14,m15⟩:=Ji e12 5 R
 refine Tv<|Ob h λx9 hx9 h=>Jh R R R C35 (gC (κ:=Mk K13) hx9) ?_
 rintro _ w17 ⟨k18,rfl,e19⟩
 obtain⟨K20,S21,m22⟩:=Ji e19 7 R
 refine Tv<|Jb 1 R<|Jg3 [2,1,2,2,2,1,2,1,1] 1 R<|Ob h λx11 hx11 h=>?_
 have f24:=g0_0.stp (T4 S3 S7 S14 S21) R R
 refine Jh R R R C29 (bU (κ:=λb=>mp [(2,2)] 0<|K20 b) (p0:=p0) (Jl2 f24 (mp [(2,2)] 0) R R) ((gb0.stp (T4 S3 S7 S14 S21) R R).map (mp [(2,2)] 0) R R) hx11) ?_
 rintro _ w26 ⟨k27,rfl,e28,f29⟩
 obtain⟨K30,S31,m32⟩:=Ji e28 9 R
 refine Tv<|Jn 3 R<|Ob h λx15 hx15 h=>?_
 have f35:=f24.stp S31 R R
 refine Jh R R R C69 (kx (κ:=λb=>mp [(11,2)] 0<|K30 b) (p0:=(⟨p0.b,x11.2.1,x11.2.2⟩:l1Cur)) (Jl2 f35 (mp [(11,2)] 0) R R) ((f29.mx m32 R (R:9+2=11)).map (mp [(11,2)] 0) R R) hx15) ?_
 rintro _ w36 ⟨k37,ab,aa,rfl,e38,f39,f40⟩
 obtain⟨K41,S42,m43⟩:=Ji e38 12 R
 refine Tv<|?_
 have f46:=f40.mx m43 R (R:12+2=14)
 refine Jf R (bF (parts:=[(0,.tmp 12),(1,.tmp 15)]) (cells:=[vi (IntKind.i64.wrap (1+x11.1)),.slice ab x15.1.length aa,.slice none 0 0]) R R (by kernel_rfl))<|Jg1 (κ:=K41) 16 R R R R R X92 R λb6 w47 K48 S49 f50=>Tv<|Jj1 (κ:=K48) 16 (vc:=[vi (IntKind.i64.wrap (1+x11.1)),.slice ab x15.1.length aa,.slice none 0 0]) R R R R R R R Z92 R R f50 R λw51 S52 f53=>Tv<|Jd<|Jq<|Je [2,1,1] R<|Jd3 R U92 R Z2<|Jb3 R I2 (f53.ld 0 R R)<|Ob h λx19 hx19 h=>Jh R R R C70 (mi (κ:=Mk K48) hx19) ?_
 rintro _ w54 ⟨k55,rfl,e56⟩
 obtain⟨K57,S58,m59⟩:=Ji e56 17 R
 refine Tv<|Jd<|Ob h λq1 h hK61=>Jx1 (λL w'=>∃κ' ad ac,L=[(0,.pointer (some ⟨b0,0,none⟩)),(4,.pointer (some ⟨b4,0,none⟩)),(6,.pointer (some ⟨b6,0,none⟩))]/\Stp [14,16,21,22] K57 w54 κ' w'/\Oc E6 2 κ' w' 19 ad ac q1.2.2/\Bc κ' w' 14 b0 56 [.slice ae p0.b.length af,vi q1.1,vi q1.2.1]/\Bc κ' w' 16 b6 92 [vi (IntKind.i64.wrap (1+x11.1)),.slice ab x15.1.length aa,.slice ad q1.2.2.length ac]) ?_ ?_
 revert h
 cases ht68:x19
 refine JF λh=>Jy R<|Js ?_
 cases h
 exact Jw1 _ ⟨K57,none,0,R,Jj3,Ow.nil,(f46.stp (T3 S49 S52 S58) R R),(f53.stp S58 R R)⟩<|KM R
 refine JT λh=>Jx R<|Jh3 [2,2,1,2,1] 2 R<|Ob h λx22 hx22 h=>Jh R R R C69 (kx (κ:=λb=>mp [(14,2)] 0<|K57 b) (p0:=(⟨p0.b,x15.2.1,x15.2.2⟩:l1Cur)) (Jl2 (f35.stp (T4 S42 S49 S52 S58) R R) (mp [(14,2)] 0) R R) ((f46.stp (T3 S49 S52 S58) R R).map (mp [(14,2)] 0) R R) hx22) ?_
 rintro _ w71 ⟨k72,ah,ai,rfl,e73,f74,f75⟩
 obtain⟨K76,S77,m78⟩:=Ji e73 19 R
 refine Tv<|Jd3 R U92 R Z26<|Ji1 (κ:=K76) 16 (off:=2) (vc:=[.slice ah x22.1.length ai]) (cs':=[vi (IntKind.i64.wrap (1+x11.1)),.slice ab x15.1.length aa,.slice ah x22.1.length ai]) R R R R R R R Z26 R R (f53.stp (S58.tr S77) R R) R R λw83 S84 f85=>Tv<|Jo ?_
 cases h
 exact Jw1 _ ⟨(λb=>ren [(22,19),(21,14)]<|K76 b),ah,ai,R,(Jy2 ((S77.tr S84).wk R) [(22,19),(21,14)] R),(((f74.mx (bE _) m78 R (R:19+3=22)).stp S84 R R).map (ren [(22,19),(21,14)]) R R),(((f75.mx m78 R (R:19+2=21)).stp S84 R R).map (ren [(22,19),(21,14)]) R R),(f85.map (ren [(22,19),(21,14)]) R R)⟩<|KM R
 rintro _ w62 ⟨K63,ad,ac,rfl,S64,f65,f66,f67⟩
 have h:=hK61
 refine Jp<|Je [1,1] R<|Jl tv R R R R (Jd2 (cs:=[vi (IntKind.i64.wrap (1+x11.1)),.slice ab x15.1.length aa,.slice ad q1.2.2.length ac]) I92 Z92 R R R<|haE f67.cells)<|Jj1 (κ:=K63) 4 (vc:=[vi (IntKind.i64.wrap (1+x11.1)),.slice ab x15.1.length aa,.slice ad q1.2.2.length ac]) R R R R R R R Z92 R R (f8.stp (T8 S14 S21 S31 S42 S49 S52 S58 S64) R R) R λw91 S92 f93=>Tv<|Jd<|Ju<|Ja2 (l:=[.cell 4 92]) V50 (bH R f93 I92 Z92 R R) R ?_
 cases h
 exact⟨(λb=>ren [(15,3),(19,4),(14,2)]<|K63 b),ab,aa,ad,ac,R,((hE.stp (T11 S3 S7 S14 S21 S31 S42 S49 S52 S58 S64 S92) R R).map (ren [(15,3),(19,4),(14,2)]) R R),(((f39.mx (bE _) m43 R (R:12+3=15)).stp (T5 S49 S52 S58 S64 S92) R R).map (ren [(15,3),(19,4),(14,2)]) R R),((f65.stp S92 R R).map (ren [(15,3),(19,4),(14,2)]) R R),((f66.stp S92 R R).map (ren [(15,3),(19,4),(14,2)]) R R)⟩
theorem n8 {p0:Sig}{a1 u1}{p1:(List Clause)}(g1:Rd Clause.rp κ w 0 a1 u1 p1){r:Bool}(h:eF p0 p1=some r):Ret Try.prog 53 [.agg #[vi p0.In,vi p0.Out],.slice a1 p1.length u1] w (Pvb κ w r):=by
 unfold eF at h
 refine Jk3 κ F53 R N53 R λhE=>Je [1,2] R<|Jf1 (κ:=κ) 2 R R R R R R R λb2 w1 K2 S3 f4=>Tv<|Jb 1 R<|Jq<|Je [1,1,2,2,2,2,2,2] R<|Jl tv R R R R (Jd2 (cs:=[vi p0.In,vi p0.Out]) I25 Z25 R R R<|haE f4.cells)<|Ob h λx7 hx7 h=>Jh R R R C23 (gB (κ:=Mk K2) (p0:=p0) hx7) ?_
 rintro _ w5 ⟨k6,rfl,e7⟩
 obtain⟨K8,S9,m10⟩:=Ji e7 3 R
 refine Tv<|Jn 2 R<|Ob h λp13 h hK12=>Ju1 [(4,2),(5,2),(6,2),(7,2)] [] (λL w'=>L=[(1,.slice a1 p1.length u1),(2,.pointer (some ⟨b2,0,none⟩)),(13,.bool p13)]/\∃κ',Stp [] K8 w5 κ' w') tv ?_ ?_
 revert h
 cases ht13:(!x7)
 refine JF λh=>Jn 1 R<|Jn3 R U62 R R<|Jn 2 R ?_
 cases h
 exact Jv1 _ tv ⟨R,_,Jj3⟩<|KM R
 refine JT λh=>Jn 4 R ?_
 cases h
 exact Jv1 _ tv ⟨R,_,Jj3⟩<|KM R
 rintro _ w14 _ ⟨rfl,K15,S16⟩
 have h:=hK12
 refine Jd ?_
 revert h
 cases ht17:p13
 refine JF λh=>Jy R<|Js<|Jp<|Jq<|Je3 R ?_
 have hN19:(p1.length:Int)<=9223372036854775807:=g1.len_le
 refine Ob h λq2 hq21 hK20=>?_
 clear h
 refine Jx1 (λL w'=>∃κ',L=[]/\Stp [] K15 w14 κ' w'/\q2=vq ()) ?_ ?_
 refine Jv<|Jy1 (λk L w'=>∃κ' v5,L=[(1,.slice a1 p1.length u1),(2,.pointer (some ⟨b2,0,none⟩)),(5,vi v5)]/\Stp [] K15 w14 κ' w'/\0<=v5/\vu ((p1.length:Int)-v5)=k/\cntM (ez p0 p1) k v5 ()=some q2) ⟨_,_,⟨K15,0,R,Jj3,(by decide),(by simp),hq21⟩,(KM R)⟩ ?_
 rintro k _ w25 ⟨K26,v5,rfl,S27,hj19,hJ19,h⟩
 rcases k with _ | k
 have hk28:=h;obtain⟨o19,h⟩:=cc (vq (Sum.inl ()):Bool⊕((Unit)⊕(Unit)))
 have hc19:decide (v5<(p1.length:Int))=false:=Jo2 (by omega)
 refine Jq<|Jg3 [2,2,2,2] 2 R<|Jn3 R U62 R R<|Jb 1 R<|Jw2 R hc19<|Jc1<|Jt<|Jt ?_
 cases h
 have h:=hk28
 refine Jb1 ?_
 cases h
 exact Jw1 _ ⟨K26,R,S27.wk R,R⟩ KN
 obtain⟨o19,h,hk28⟩:=BI h;unfold ez at h
 have hc19:decide (v5<(p1.length:Int))=true:=Jn2 (by omega)
 refine Jq<|Jg3 [2,2,2,2] 2 R<|Jn3 R U62 R R<|Jb 1 R<|Jv2 R hc19<|Js<|Jp<|Jq<|Jv<|Jq<|Js1 (κ:=K26) [0,2] none [(1,2),(2,2),(3,2),(0,0),(4,0),(5,1),(6,2)] [] (by kernel_rfl) (by kernel_rfl) λw30 S29=>Jn 2 R<|Ob h λx23 hx23 h=>Jc3 R g1 hx23 U62 Z92<|Jg R (Jd2 (cs:=[vi p0.In,vi p0.Out]) I25 Z25 R R R<|haC (f4.stp (T4 S9 S16 S27 S29) R R).cells R) ?_
 obtain⟨cse33,hre33,hle33⟩:=((g1.stp (T5 S3 S9 S16 S27 S29) R R)).gSt hx23
 obtain⟨ae33_0,ue33_0,ae33_1,ue33_1,rfl,fe33_0,fe33_1⟩:=Clause.un hre33
 refine Jg R (Jd2 (cs:=[vi x23.Kind,.slice ae33_0 x23.A.length ue33_0,.slice ae33_1 x23.B.length ue33_1]) I92 Z92 R R R<|haC hle33 R)<|Ob h λx25 hx25 h=>Jh R R R C71 (lI (κ:=Mk K26) (p0:=p0) (p1:=x23) (Ji3 fe33_0) (Ji3 fe33_1) hx25) ?_
 rintro _ w34 ⟨k35,rfl,e36⟩
 obtain⟨K37,S38,m39⟩:=Ji e36 5 R
 refine⟨(S38.cl R),Jn 1 R<|Jt1<|Jd ?_⟩
 revert h
 cases ht41:(!x25)
 refine JF λh=>Jy R<|Js<|Jz<|Jp<|Jf3 R ?_
 have hw19:sh .i64 (v5+1)=v5+1:=wr1 hj19 (Jm2 hc19) hN19
 rw[hw19]
 have hc19:=Jm2 hc19
 cases h
 exact Jz1 λa ha=>⟨k,_,Ja3 _,⟨K37,v5+1,R,(T3 S27 S29 S38).wk R,by omega,by omega,hk28⟩,(ha.mm R)⟩
 refine JT λh=>Jx R<|Je3 R<|Ju<|Ja1<|Jw<|Jw ?_
 cases h
 obtain rfl:=Option.some.inj hk28
 have h:=yL hK20
 refine Ja1<|Jq2<|Jw<|Ja2 (l:=[.tmp 4]) V53 (Jp2 R R) R ?_
 cases h
 exact⟨K37,R,(hE.stp (T6 S3 S9 S16 S27 S29 S38) R R)⟩
 rintro _ w22 ⟨K23,rfl,S24,rfl⟩
 have h:=yI hK20
 refine Jp<|Je3 R<|Ju<|Ja2 (l:=[.tmp 4]) V53 (Jp2 R R) R ?_
 cases h
 exact⟨K23,R,(hE.stp (T4 S3 S9 S16 S24) R R)⟩
 refine JT λh=>Jx R<|Je3 R<|Ju<|Jw<|Ja2 (l:=[.tmp 4]) V53 (Jp2 R R) R ?_
 cases h
 exact⟨K15,R,(hE.stp (T3 S3 S9 S16) R R)⟩
theorem kV {p0:Sig}{ai ah al aj}{p1:Clause}(g1_1:Rd (Rp.int .i64) κ w 0 ai ah p1.A) (g1_2:Rd (Rp.int .i64) κ w 0 al aj p1.B){r:Det}(h:gY p0 p1=some r):Ret Try.prog 56 [.agg #[vi p0.In,vi p0.Out],.agg #[vi p1.Kind,.slice ai p1.A.length ah,.slice al p1.B.length aj]] w (λv w'=>∃(κ':Col) (ra0:Option Addr) (ru0:Nat) (ra1:Option Addr) (ru1:Nat),v= .agg #[.slice ra0 r.Next.length ru0,.slice ra1 r.Pairs.length ru1]/\Ent κ w κ' w'/\Oc (Ep.own E6 2) 26 κ' w' 2 ra0 ru0 r.Next/\Oc Pair.ep102 102 κ' w' 3 ra1 ru1 r.Pairs):=by
 unfold gY at h
 refine Jk3 κ F56 R N56 R λhE=>Je [1,1,1] R<|Jf1 (κ:=κ) 2 R R R R R R R λb2 w1 K2 S3 f4=>Tv<|Jf1 (κ:=K2) 3 R R R R R R R λb3 w5 K6 S7 f8=>Tv<|Jg1 (κ:=K6) 4 R R R R R X71 R λb4 w9 K10 S11 f12=>Tv<|Jd<|Jq<|Je [1,1,1,2] R ?_
 have f13:=f4.stp (S7.tr S11) R R
 refine Jl tv R R R R (Jd2 (cs:=[vi p0.In,vi p0.Out]) I25 Z25 R R R<|haE f13.cells) ?_
 have f14:=f8.stp S11 R R
 refine Jl tv R R R R (Jd2 (cs:=[vi p1.Kind,.slice ai p1.A.length ah,.slice al p1.B.length aj]) I92 Z92 R R R<|haE f14.cells)<|Ob h λx11 hx11 h=>?_
 have f15:=g1_1.stp (T3 S3 S7 S11) R R
 have f16:=g1_2.stp (T3 S3 S7 S11) R R
 refine Jh R R R C71 (lI (κ:=Mk K10) (p0:=p0) (p1:=p1) (Ji3 f15) (Ji3 f16) hx11) ?_
 rintro _ w17 ⟨k18,rfl,e19⟩
 obtain⟨K20,S21,m22⟩:=Ji e19 5 R
 refine Tv<|Jb 1 R ?_
 revert h
 cases ht24:(!x11)
 refine JF λh=>Jy R<|Js<|Jp<|Je [2,1,1,1,2,1,1] R<|Jd3 R U92 R Z2 ?_
 have f30:=f14.stp S21 R R
 refine Jb3 R I2 (f30.ld 0 R R)<|Ob h λx16 hx16 h=>Jh R R R C73 (pW (κ:=Mk K20) hx16) ?_
 rintro _ w31 ⟨k32,ap,aq,au,ar,rfl,e33,f34,f35⟩
 obtain⟨K36,S37,m38⟩:=Ji e33 7 R
 refine Tv<|Jn1 (κ:=K36) (E:=Pair.ep102) 11 [9,10] (parts:=[(0,.tmp 16)]) (cells:=[.slice ap x16.Ask.length aq,.slice au x16.Give.length ar]) (xs:=([x16]:List Pair)) R R R R R R Y69 dZ R R R R R R R R R R ⟨[.slice ap x16.Ask.length aq,.slice au x16.Give.length ar],[],Zl K36 w31 [9,10],Zl K36 w31 [],R,Zl.sp (l1:=[9,10]) (l2:=[]) R,Zl.sr (l1:=[9,10]) (l2:=[]),⟨[.slice ap x16.Ask.length aq],[.slice au x16.Give.length ar],Zl K36 w31 [9],Zl K36 w31 [10],R,Zl.sp (l1:=[9]) (l2:=[10]) R,Zl.sr (l1:=[9]) (l2:=[10]),⟨_,_,R,(f34.mx (bE _) m38 R (R:7+2=9))⟩,⟨_,_,R,(f35.mx (bE _) m38 R (R:7+3=10))⟩⟩,R⟩ λaa ab w42 K43 S44 f45=>Tv<|Jf R (bF (parts:=[(1,.tmp 17)]) (cells:=[.slice none 0 0,.slice aa ([x16]:List Pair).length ab]) R R (by kernel_rfl))<|Jg1 (κ:=K43) 12 R R R R R X71 R λb5 w46 K47 S48 f49=>Tv<|Jj1 (κ:=K47) 12 (vc:=[.slice none 0 0,.slice aa ([x16]:List Pair).length ab]) R R R R R R R Z71 R R f49 R λw50 S51 f52=>Tv<|Jd<|Jq<|Je3 R<|Ob h λq2 hq55 hK54=>?_
 clear h
 refine Jx1 (λL w'=>∃κ',∃s3:Int×(List<|List Int),∃ad ac,L=[(4,.pointer (some ⟨b4,0,none⟩)),(5,.pointer (some ⟨b5,0,none⟩))]/\Stp [12,13,16,17] K47 w50 κ' w'/\Oc (Ep.own E6 2) 26 κ' w' 13 ad ac s3.2/\Bc κ' w' 12 b5 71 [.slice ad s3.2.length ac,.slice aa ([x16]:List Pair).length ab]/\q2=vq s3) ?_ ?_
 refine Jv<|Jy1 (λk L w'=>∃κ',∃s1:Int×(List<|List Int),∃ao am,L=[(2,.pointer (some ⟨b2,0,none⟩)),(3,.pointer (some ⟨b3,0,none⟩)),(4,.pointer (some ⟨b4,0,none⟩)),(5,.pointer (some ⟨b5,0,none⟩)),(6,vi s1.1)]/\Stp [12,13,16,17] K47 w50 κ' w'/\Oc (Ep.own E6 2) 26 κ' w' 13 ao am s1.2/\Bc κ' w' 12 b5 71 [.slice ao s1.2.length am,.slice aa ([x16]:List Pair).length ab]/\bP (eA p0 p1) k s1=some q2) ⟨_,_,⟨K47,((0:Int),(([]:List (List Int)):(List<|List Int))),none,0,R,Jj3,Ow.nil,f52,hq55⟩,(KM R)⟩ ?_
 rintro k _ w61 ⟨K62,s1,ao,am,rfl,S63,f64,f65,h⟩
 rcases k with _ | k
 cases h
 obtain⟨o53,h,hk66⟩:=BI h;unfold eA at h
 refine Jq<|Jg3 [2,2,1,1,2] 1 R<|Jd3 R U92 R Z2 ?_
 have f67:=f30.stp (T5 S37 S44 S48 S51 S63) R R
 refine Jb3 R I2 (f67.ld 0 R R)<|Ob h λx22 hx22 h=>Jh R R R C74 (nE (κ:=Mk K62) hx22) ?_
 rintro _ w68 ⟨k69,rfl,e70⟩
 obtain⟨K71,S72,m73⟩:=Ji e70 14 R
 refine Tv<|Jb 1 R ?_
 revert h
 cases ht75:decide (s1.1<x22)
 refine JF λh=>Jy R<|Jc1<|Jt<|Jt ?_
 cases h
 have h:=hk66
 refine Jb1 ?_
 cases h
 exact Jw1 _ ⟨K71,(s1.1,s1.2),ao,am,R,(S63.tr S72).wk R,(f64.stp S72 R R),(f65.stp S72 R R),R⟩<|KM R
 refine JT λh=>Jx R<|Js<|Jp<|Jq<|Jv<|Je [1,2] R<|Jo1 (κ:=K71) (E:=E6) 16 R R R R R Y26 a8 R λax aA w76 K77 S78 f79=>Tv<|Jb 1 R<|Jq<|Je3 R<|Ob h λq5 hq82 hK81=>?_
 clear h
 refine Jx1 (λL w'=>∃κ',∃s6:(List Int)×Int,∃af ae,L=[(2,.pointer (some ⟨b2,0,none⟩)),(3,.pointer (some ⟨b3,0,none⟩)),(4,.pointer (some ⟨b4,0,none⟩)),(5,.pointer (some ⟨b5,0,none⟩)),(6,vi s1.1),(7,.slice af s6.1.length ae)]/\Stp [16] K77 w76 κ' w'/\Oc E6 2 κ' w' 16 af ae s6.1/\q5=vq s6) ?_ ?_
 refine Jv<|Jy1 (λk L w'=>∃κ',∃s4:(List Int)×Int,∃an ak,L=[(2,.pointer (some ⟨b2,0,none⟩)),(3,.pointer (some ⟨b3,0,none⟩)),(4,.pointer (some ⟨b4,0,none⟩)),(5,.pointer (some ⟨b5,0,none⟩)),(6,vi s1.1),(7,.slice an s4.1.length ak),(8,vi s4.2)]/\Stp [16] K77 w76 κ' w'/\Oc E6 2 κ' w' 16 an ak s4.1/\bP (eB p0 p1 s1) k s4=some q5) ⟨_,_,⟨K77,((([]:List Int):(List Int)),(0:Int)),ax,aA,R,Jj3,f79,hq82⟩,(KM R)⟩ ?_
 rintro k _ w87 ⟨K88,s4,an,ak,rfl,S89,f90,h⟩
 rcases k with _ | k
 cases h
 obtain⟨o80,h,hk91⟩:=BI h;unfold eB at h
 refine Jq<|Jg3 [2,1,1,2] 1 R<|Jl tv R R R R (Jd2 (cs:=[vi p0.In,vi p0.Out]) I25 Z25 R R R<|haE (f13.stp (T9 S21 S37 S44 S48 S51 S63 S72 S78 S89) R R).cells)<|Ob h λx29 hx29 h=>Jh R R R C54 (dH (κ:=Mk K88) (p0:=p0) hx29) ?_
 rintro _ w93 ⟨k94,rfl,e95⟩
 obtain⟨K96,S97,m98⟩:=Ji e95 17 R
 refine Tv<|Jb 1 R ?_
 revert h
 cases ht100:decide (s4.2<x29)
 refine JF λh=>Jy R<|Jc1<|Jt<|Jt ?_
 cases h
 have h:=hk91
 refine Jb1 ?_
 cases h
 exact Jw1 _ ⟨K96,(s4.1,s4.2),an,ak,R,(S89.tr S97).wk R,(f90.stp S97 R R),R⟩<|KM R
 have S001:=(T10 S21 S37 S44 S48 S51 S63 S72 S78 S89 S97)
 refine JT λh=>Jx R<|Js<|Jp<|Jq<|Jv<|Jh3 [2,1,2,2,1,1,1,2] 1 R<|Jl tv R R R R (Jd2 (cs:=[vi p1.Kind,.slice ai p1.A.length ah,.slice al p1.B.length aj]) I92 Z92 R R R<|haE (f67.stp (T4 S72 S78 S89 S97) R R).cells)<|Jn 2 R<|Ob h λx37 hx37 h=>Jh R R R C75 (oV (κ:=Mk K96) (p0:=p1) (Ji3<|f15.stp S001 R R) (Ji3<|f16.stp S001 R R) hx37) ?_
 rintro _ w104 ⟨k105,rfl,e106⟩
 obtain⟨K107,S108,m109⟩:=Ji e106 19 R
 refine Tv<|Jn1 (κ:=K107) (E:=E6) 21 [] (parts:=[(0,.tmp 37)]) (cells:=[vi x37]) (xs:=([x37]:List Int)) R R R R R R Y26 a8 R R R R R R R R R R ⟨[vi x37],[],Zl K107 w104 [],Zl K107 w104 [],R,Zl.sp (l1:=[]) (l2:=[]) R,Zl.sr (l1:=[]) (l2:=[]),R,R⟩ λaD aE w111 K112 S113 f114=>Tv<|Ob h λx39 hx39 h=>Jm1 (κ:=K112) (E:=E6) 16 [] R R R R R R R R R Y26 a8 R R R R (f90.stp (T3 S97 S108 S113) R R) (Sl.srcP (cb _) f114.rdc) bJ hx39 R λaz ay w116 K117 S118 f119=>Tv<|Jc 1 R<|Jz<|Jp<|Jf3 R ?_
 cases h
 exact Jz1 λa ha=>⟨k,_,Ja3 _,⟨K117,(x39,((IntKind.i64.wrap<|s4.2+1):Int)),az,ay,R,(T5 S89 S97 S108 S113 S118).wk R,f119,hk91⟩,(ha.mm R)⟩
 rintro _ w83 ⟨K84,s6,af,ae,rfl,S85,f86,rfl⟩
 have h:=yI hK81
 refine Jp<|Ja [2,1,2,1,1,2,1] R<|Jd3 R U71 R Z27 ?_
 have f121:=f65.stp (T3 S72 S78 S85) R R
 refine Jb3 R I27 (f121.ld 0 R R)<|Jn 1 R<|Jn1 (κ:=K84) (E:=(Ep.own E6 2)) 17 [16] (parts:=[(0,.tmp 42)]) (cells:=[.slice af s6.1.length ae]) (xs:=([s6.1]:List (List Int))) R R R R R R Y27 bZ R R R R R R R R R R ⟨[.slice af s6.1.length ae],[],Zl K84 w83 [16],Zl K84 w83 [],R,Zl.sp (l1:=[16]) (l2:=[]) R,Zl.sr (l1:=[16]) (l2:=[]),⟨_,_,R,f86⟩,R⟩ λaB aC w122 K123 S124 f125=>Tv<|Ob h λx44 hx44 h=>Jm1 (κ:=K123) (E:=(Ep.own E6 2)) 13 [17] R R R R R R R R R Y27 bZ R R R R (f64.stp (T4 S72 S78 S85 S124) R R) f125.src (fk R) hx44 R λaw av w127 K128 S129 f130=>Tv<|Jd3 R U71 R Z27<|Ji1 (κ:=K128) 12 (off:=0) (vc:=[.slice aw x44.length av]) (cs':=[.slice aw x44.length av,.slice aa ([x16]:List Pair).length ab]) R R R R R R R Z27 R R (f121.stp (S124.tr S129) R R) R R λw132 S133 f134=>Tv<|Jo<|Jz<|Jp<|Jf3 R ?_
 cases h
 exact Jz1 λa ha=>⟨k,_,Ja3 _,⟨K128,(((IntKind.i64.wrap<|s1.1+1):Int),x44),aw,av,R,(T7 S63 S72 S78 S85 S124 S129 S133).wk R,(f130.stp S133 R R),f134,hk66⟩,(ha.mm R)⟩
 rintro _ w56 ⟨K57,s3,ad,ac,rfl,S58,f59,f60,rfl⟩
 have h:=yI hK54
 refine Jp<|Je [1,1] R<|Jl tv R R R R (Jd2 (cs:=[.slice ad s3.2.length ac,.slice aa ([x16]:List Pair).length ab]) I71 Z71 R R R<|haE f60.cells)<|Jj1 (κ:=K57) 4 (vc:=[.slice ad s3.2.length ac,.slice aa ([x16]:List Pair).length ab]) R R R R R R R Z71 R R (f12.stp (T6 S21 S37 S44 S48 S51 S58) R R) R λw139 S140 f141=>Tv<|Jd<|Ju<|Ja2 (l:=[.cell 4 71]) V56 (bH R f141 I71 Z71 R R) R ?_
 cases h
 exact⟨(λb=>ren [(13,2),(11,3)]<|K57 b),ad,ac,aa,ab,R,((hE.stp (T10 S3 S7 S11 S21 S37 S44 S48 S51 S58 S140) R R).map (ren [(13,2),(11,3)]) R R),((f59.stp S140 R R).map (ren [(13,2),(11,3)]) R R),((f45.stp (T4 S48 S51 S58 S140) R R).map (ren [(13,2),(11,3)]) R R)⟩
 refine JT λh=>Jx R<|Je [2,1] R<|Jf R (bF (parts:=[]) (cells:=[.slice none 0 0,.slice none 0 0]) R R (by kernel_rfl))<|Jj1 (κ:=K20) 4 (vc:=[.slice none 0 0,.slice none 0 0]) R R R R R R R Z71 R R (f12.stp S21 R R) R λw26 S27 f28=>Tv<|Jd<|Ju<|Jw<|Ja2 (l:=[.cell 4 71]) V56 (bH R f28 I71 Z71 R R) R ?_
 cases h
 exact⟨K20,none,0,none,0,R,(hE.stp (T5 S3 S7 S11 S21 S27) R R),Ow.nil,Ow.nil⟩
theorem mv {a0 u0}{p0:(List Pair)}{p1:Int}(g0:Rd Pair.rp κ w 0 a0 u0 p0){r:Bool}(h:iB p0 p1=some r):Ret Try.prog 61 [.slice a0 p0.length u0,vi p1] w (Pvb κ w r):=by
 unfold iB at h
 refine Jk3 κ F61 R N61 R λhE=>Je3 R<|Jq<|Jg3 [2,1,2,2,2,2,2,2] 1 R<|Ob h λx7 hx7 h=>Jh R R R C24 (cF (κ:=Mk κ) hx7) ?_
 rintro _ w1 ⟨k2,rfl,e3⟩
 obtain⟨K4,S5,m6⟩:=Ji e3 2 R
 refine Tv<|Jn 2 R<|Ob h λp13 h hK8=>Ju1 [(4,2),(5,2),(6,2),(7,2)] [] (λL w'=>L=[(0,.slice a0 p0.length u0),(1,vi p1),(13,.bool p13)]/\∃κ',Stp [] K4 w1 κ' w') tv ?_ ?_
 revert h
 cases ht9:(!x7)
 refine JF λh=>Jn 1 R<|Jn3 R U69 R R<|Jn 2 R ?_
 cases h
 exact Jv1 _ tv ⟨R,_,Jj3⟩<|KM R
 refine JT λh=>Jn 4 R ?_
 cases h
 exact Jv1 _ tv ⟨R,_,Jj3⟩<|KM R
 rintro _ w10 _ ⟨rfl,K11,S12⟩
 have h:=hK8
 refine Jd ?_
 revert h
 cases ht13:p13
 refine JF λh=>Jy R<|Js<|Jp<|Jq<|Je3 R ?_
 have hN15:(p0.length:Int)<=9223372036854775807:=g0.len_le
 refine Ob h λq2 hq17 hK16=>?_
 clear h
 refine Jx1 (λL w'=>∃κ',L=[]/\Stp [] K11 w10 κ' w'/\q2=vq ()) ?_ ?_
 refine Jv<|Jy1 (λk L w'=>∃κ' v5,L=[(0,.slice a0 p0.length u0),(1,vi p1),(5,vi v5)]/\Stp [] K11 w10 κ' w'/\0<=v5/\vu ((p0.length:Int)-v5)=k/\cntM (fO p0 p1) k v5 ()=some q2) ⟨_,_,⟨K11,0,R,Jj3,(by decide),(by simp),hq17⟩,(KM R)⟩ ?_
 rintro k _ w21 ⟨K22,v5,rfl,S23,hj15,hJ15,h⟩
 rcases k with _ | k
 have hk24:=h;obtain⟨o15,h⟩:=cc (vq (Sum.inl ()):Bool⊕((Unit)⊕(Unit)))
 have hc15:decide (v5<(p0.length:Int))=false:=Jo2 (by omega)
 refine Jq<|Jg3 [2,2,2,2] 2 R<|Jn3 R U69 R R<|Jb 1 R<|Jw2 R hc15<|Jc1<|Jt<|Jt ?_
 cases h
 have h:=hk24
 refine Jb1 ?_
 cases h
 exact Jw1 _ ⟨K22,R,S23.wk R,R⟩ KN
 obtain⟨o15,h,hk24⟩:=BI h;unfold fO at h
 have hc15:decide (v5<(p0.length:Int))=true:=Jn2 (by omega)
 refine Jq<|Jg3 [2,2,2,2] 2 R<|Jn3 R U69 R R<|Jb 1 R<|Jv2 R hc15<|Js<|Jp<|Jq<|Jv<|Jg3 [2,2,2,2,1,2,1,2,2,2,2,2,2,1,2,1,2,2] 2 R<|Ob h λx22 hx22 h=>Jc3 R g0 hx22 U69 Z102<|Jd3 R U102 R Z26 ?_
 have f25:=g0.stp (T3 S5 S12 S23) R R
 obtain⟨cse26,hre26,hle26⟩:=(f25).gSt hx22
 obtain⟨ae26_0,ue26_0,ae26_1,ue26_1,rfl,fe26_0,fe26_1⟩:=Pair.un hre26
 refine Jb3 R I26 (λw' hw'=>hle26 w' hw' 0 _ R)<|Jn 1 R<|Ob h λx26 hx26 h=>Jh R R R C78 (nY (κ:=Mk K22) (Ji3 fe26_0) hx26) ?_
 rintro _ w27 ⟨k28,rfl,e29⟩
 obtain⟨K30,S31,m32⟩:=Ji e29 4 R
 refine Tv<|Jn 2 R<|Ob h λp37 h hK34=>Ju1 [(9,2),(10,2),(11,2),(12,2),(13,1),(14,2),(15,1),(16,2),(17,2)] [] (λL w'=>L=[(0,.slice a0 p0.length u0),(1,vi p1),(5,vi v5),(37,.bool p37)]/\∃κ',Stp [] K30 w27 κ' w') tv ?_ ?_
 revert h
 cases ht35:(!x26)
 refine JF λh=>Jn 2 R<|Ob h λx31 hx31 h=>Jc3 R f25 hx31 U69 Z102<|Jd3 R U102 R Z26 ?_
 obtain⟨cse37,hre37,hle37⟩:=((f25.stp S31 R R)).gSt hx31
 obtain⟨ae37_0,ue37_0,ae37_1,ue37_1,rfl,fe37_0,fe37_1⟩:=Pair.un hre37
 refine Jb3 R I26 (λw' hw'=>hle37 w' hw' 1 _ R)<|Jn 1 R<|Ob h λx35 hx35 h=>Jh R R R C78 (nY (κ:=Mk K30) (Ji3 fe37_1) hx35) ?_
 rintro _ w38 ⟨k39,rfl,e40⟩
 obtain⟨K41,S42,m43⟩:=Ji e40 6 R
 refine Tv<|Jn 2 R ?_
 cases h
 exact Jv1 _ tv ⟨R,_,S42.wk R⟩<|KM R
 refine JT λh=>Jn 4 R<|Jd1 R R R R<|Jn 1 R<|Jd1 R R R R<|Jn 2 R ?_
 cases h
 exact Jv1 _ tv ⟨R,_,Jj3⟩<|KM R
 rintro _ w45 _ ⟨rfl,K46,S47⟩
 have h:=hK34
 refine Jd ?_
 revert h
 cases ht48:p37
 refine JF λh=>Jy R<|Js<|Jz<|Jp<|Jf3 R ?_
 have hw15:sh .i64 (v5+1)=v5+1:=wr1 hj15 (Jm2 hc15) hN15
 rw[hw15]
 have hc15:=Jm2 hc15
 cases h
 exact Jz1 λa ha=>⟨k,_,Ja3 _,⟨K46,v5+1,R,(T3 S23 S31 S47).wk R,by omega,by omega,hk24⟩,(ha.mm R)⟩
 refine JT λh=>Jx R<|Je3 R<|Ju<|Ja1<|Jw<|Jw ?_
 cases h
 obtain rfl:=Option.some.inj hk24
 have h:=yL hK16
 refine Ja1<|Jq2<|Jw<|Ja2 (l:=[.tmp 4]) V61 (Jp2 R R) R ?_
 cases h
 exact⟨K46,R,(hE.stp (T5 S5 S12 S23 S31 S47) R R)⟩
 rintro _ w18 ⟨K19,rfl,S20,rfl⟩
 have h:=yI hK16
 refine Jp<|Je3 R<|Ju<|Ja2 (l:=[.tmp 4]) V61 (Jp2 R R) R ?_
 cases h
 exact⟨K19,R,(hE.stp (T3 S5 S12 S20) R R)⟩
 refine JT λh=>Jx R<|Je3 R<|Ju<|Jw<|Ja2 (l:=[.tmp 4]) V61 (Jp2 R R) R ?_
 cases h
 exact⟨K11,R,(hE.stp (S5.tr S12) R R)⟩
theorem lG {ac ab ad aa af ae}{p0:Parity}(g0_0_0:Rd (Rp.int .i64) κ w 0 ac ab p0.Arena.Owner) (g0_0_1:Rd (Rp.sl (Rp.int .i64)) κ w 0 ad aa p0.Arena.Next) (g0_1:Rd (Rp.int .i64) κ w 0 af ae p0.Prio){r:Bool}(h:gz p0=some r):Ret Try.prog 66 [.agg #[.slice ac p0.Arena.Owner.length ab,.slice ad p0.Arena.Next.length aa,.slice af p0.Prio.length ae]] w (Pvb κ w r):=by
 unfold gz at h
 refine Jk3 κ F66 R N66 R λhE=>Je [1,2] R<|Jf1 (κ:=κ) 2 R R R R R R R λb1 w1 K2 S3 f4=>Tv<|Jb 1 R<|Jq<|Je [2,1,1,2,2,2,1,2,2,2,1,2,2,2] R<|Jd3 R U79 R Z75<|Jl tv R R R R (Jd2 (cs:=[.slice ac p0.Arena.Owner.length ab,.slice ad p0.Arena.Next.length aa]) I75 Z75 R R R<|haE<|f4.lds 0 2 R)<|Ob h λx6 hx6 h=>Jh R R R C60 (mt (κ:=Mk K2) (p0:=p0.Arena) (Ji3<|g0_0_0.stp S3 R R) (Ji3<|g0_0_1.stp S3 R R) hx6) ?_
 rintro _ w7 ⟨k8,rfl,e9⟩
 obtain⟨K10,S11,m12⟩:=Ji e9 3 R
 refine Tv<|Jn 2 R<|Ob h λp17 h hK14=>Ju1 [(5,2),(6,1),(7,2),(8,2),(9,2),(10,1),(11,2),(12,2),(13,2)] [] (λL w'=>L=[(1,.pointer (some ⟨b1,0,none⟩)),(17,.bool p17)]/\∃κ',Stp [] K10 w7 κ' w') tv ?_ ?_
 revert h
 cases ht15:(!x6)
 refine JF λh=>Jd3 R U79 R Z26 ?_
 have f16:=f4.stp S11 R R
 refine Jb3 R I26 (f16.ld 2 R R)<|Jn3 R U26 R R<|Jd3 R U79 R Z75<|Jd3 R U75 R Z26<|Jb3 R I26 (f16.ld 0 R R)<|Jn3 R U26 R R<|Jn 2 R ?_
 cases h
 exact Jv1 _ tv ⟨R,_,Jj3⟩<|KM R
 refine JT λh=>Jn 1 R<|Jd1 R R R R<|Jn 3 R<|Jd1 R R R R<|Jn 3 R ?_
 cases h
 exact Jv1 _ tv ⟨R,_,Jj3⟩<|KM R
 rintro _ w17 _ ⟨rfl,K18,S19⟩
 have h:=hK14
 refine Jd ?_
 revert h
 cases ht20:p17
 refine JF λh=>Jy R<|Js<|Jp<|Jq<|Je3 R ?_
 have hN22:(p0.Prio.length:Int)<=9223372036854775807:=g0_1.len_le
 refine Ob h λq2 hq24 hK23=>?_
 clear h
 refine Jx1 (λL w'=>∃κ',L=[]/\Stp [] K18 w17 κ' w'/\q2=vq ()) ?_ ?_
 refine Jv<|Jy1 (λk L w'=>∃κ' v3,L=[(1,.pointer (some ⟨b1,0,none⟩)),(3,vi v3)]/\Stp [] K18 w17 κ' w'/\0<=v3/\vu ((p0.Prio.length:Int)-v3)=k/\cntM (fg p0) k v3 ()=some q2) ⟨_,_,⟨K18,0,R,Jj3,(by decide),(by simp),hq24⟩,(KM R)⟩ ?_
 rintro k _ w28 ⟨K29,v3,rfl,S30,hj22,hJ22,h⟩
 rcases k with _ | k
 have hk31:=h;obtain⟨o22,h⟩:=cc (vq (Sum.inl ()):Bool⊕((Unit)⊕(Unit)))
 have hc22:decide (v3<(p0.Prio.length:Int))=false:=Jo2 (by omega)
 refine Jq<|Jg3 [2,2,1,2,2] 1 R<|Jd3 R U79 R Z26<|Jb3 R I26 ((f4.stp (T3 S11 S19 S30) R R).ld 2 R R)<|Jn3 R U26 R R<|Jb 1 R<|Jw2 R hc22<|Jc1<|Jt<|Jt ?_
 cases h
 have h:=hk31
 refine Jb1 ?_
 cases h
 exact Jw1 _ ⟨K29,R,S30.wk R,R⟩ KN
 obtain⟨o22,h,hk31⟩:=BI h;unfold fg at h
 have hc22:decide (v3<(p0.Prio.length:Int))=true:=Jn2 (by omega)
 refine Jq<|Jg3 [2,2,1,2,2] 1 R<|Jd3 R U79 R Z26 ?_
 have f33:=f4.stp (T3 S11 S19 S30) R R
 refine Jb3 R I26 (f33.ld 2 R R)<|Jn3 R U26 R R<|Jb 1 R<|Jv2 R hc22<|Js<|Jp<|Jq<|Jv<|Je [2,1,2,2,1,1,2] R<|Jd3 R U79 R Z26<|Jb3 R I26 (f33.ld 2 R R)<|Jn 1 R<|Ob h λx28 hx28 h=>Jc3 R g0_1 hx28 U26 Z2<|Jb3 R I2 ((g0_1.stp (T4 S3 S11 S19 S30) R R).gInt hx28)<|Ob h λx30 hx30 h=>Jh R R R C24 (cF (κ:=Mk K29) hx30) ?_
 rintro _ w35 ⟨k36,rfl,e37⟩
 obtain⟨K38,S39,m40⟩:=Ji e37 5 R
 refine Tv<|Jb 1 R ?_
 revert h
 cases ht42:(!x30)
 refine JF λh=>Jy R<|Js<|Jz<|Jp<|Jf3 R ?_
 have hw22:sh .i64 (v3+1)=v3+1:=wr1 hj22 (Jm2 hc22) hN22
 rw[hw22]
 have hc22:=Jm2 hc22
 cases h
 exact Jz1 λa ha=>⟨k,_,Ja3 _,⟨K38,v3+1,R,(S30.tr S39).wk R,by omega,by omega,hk31⟩,(ha.mm R)⟩
 refine JT λh=>Jx R<|Je3 R<|Ju<|Ja1<|Jw<|Jw ?_
 cases h
 obtain rfl:=Option.some.inj hk31
 have h:=yL hK23
 refine Ja1<|Jq2<|Jw<|Ja2 (l:=[.tmp 2]) V66 (Jp2 R R) R ?_
 cases h
 exact⟨K38,R,(hE.stp (T5 S3 S11 S19 S30 S39) R R)⟩
 rintro _ w25 ⟨K26,rfl,S27,rfl⟩
 have h:=yI hK23
 refine Jp<|Je3 R<|Ju<|Ja2 (l:=[.tmp 2]) V66 (Jp2 R R) R ?_
 cases h
 exact⟨K26,R,(hE.stp (T4 S3 S11 S19 S27) R R)⟩
 refine JT λh=>Jx R<|Je3 R<|Ju<|Jw<|Ja2 (l:=[.tmp 2]) V66 (Jp2 R R) R ?_
 cases h
 exact⟨K18,R,(hE.stp (T3 S3 S11 S19) R R)⟩
theorem lQ {af ak ah ae ai aj}{p0:Parity}(g0_0_0:Rd (Rp.int .i64) κ w 0 af ak p0.Arena.Owner) (g0_0_1:Rd (Rp.sl (Rp.int .i64)) κ w 0 ah ae p0.Arena.Next) (g0_1:Rd (Rp.int .i64) κ w 0 ai aj p0.Prio){r:(List Int)}(h:ga p0=some r):Ret Try.prog 82 [.agg #[.slice af p0.Arena.Owner.length ak,.slice ah p0.Arena.Next.length ae,.slice ai p0.Prio.length aj]] w (Pvs E6 2 κ w r):=by
 unfold ga at h
 refine Jk3 κ F82 R N82 R λhE=>Je [1,2] R<|Jf1 (κ:=κ) 2 R R R R R R R λb1 w1 K2 S3 f4=>Tv<|Jb 1 R<|Jq<|Js1 (κ:=K2) [2] none [(2,2),(0,0),(3,0),(4,2),(1,1),(5,1),(6,1),(7,2)] [] (by kernel_rfl) (by kernel_rfl) λw6 S5=>Jd3 R U79 R Z26 ?_
 have f7:=f4.stp S5 R R
 refine Jg R (Jd2 (cs:=[.slice af p0.Arena.Owner.length ak,.slice ah p0.Arena.Next.length ae,.slice ai p0.Prio.length aj]) I79 Z79 R R R<|haC f7.cells R)<|Jg R (Jc2 I26 R R<|hvC (f7.ld 2 R R) R)<|Jn3 R U26 R R<|Ob h λx7 hx7 h=>Jh R R R C83 (oM (κ:=λb=>mp [] 1<|K2 b) (p0:=p0) (Jl2 (g0_0_0.stp (S3.tr S5) R R) (mp [] 1) R R) (Jl2 (g0_0_1.stp (S3.tr S5) R R) (mp [] 1) R R) (Jl2 (g0_1.stp (S3.tr S5) R R) (mp [] 1) R R) hx7) ?_
 rintro _ w11 ⟨k12,av,aG,ay,aB,aF,aC,aD,ar,ax,aw,rfl,e13,f14,f15,f16,f17,f18⟩
 obtain⟨K19,S20,m21,z22⟩:=Jj e13 3 R
 refine⟨(S20.cl R),Ob h λx11 hx11 h=>Jh R R R C94 (qR (κ:=Mk K19) hx11) ?_⟩
 rintro _ w28 ⟨k29,aE,az,rfl,e30,f31⟩
 obtain⟨K32,S33,m34⟩:=Ji e30 10 R
 refine⟨((S20.tr S33).cl R),Ob h λx12 hx12 h=>Jh R R R C93 (nP _ (κ:=Mk K32) (p0:=x7) (Ji3 ((f14.mx z22).stp S33 R R)) (Ji3 ((f15.mx z22).stp S33 R R)) (Ji3 ((f16.mx z22).stp S33 R R)) (Ji3 ((f17.mx (dB (bE _) _) m21 R (R:3+5=8)).stp S33 R R).rdc) (Ji3 ((f18.mx (bE _) m21 R (R:3+6=9)).stp S33 R R).rdc) (Ji3 (f31.mx fF m34 R (R:10+2=12)).rdc) hx12) ?_⟩
 rintro _ w42 ⟨k43,am,ao,rfl,e44,f45⟩
 obtain⟨K46,S47,m48⟩:=Ji e44 13 R
 refine⟨((T3 S20 S33 S47).cl R),?_⟩
 have f50:=f45.mx fF m48 R (R:13+2=15)
 refine Jn 1 R<|Jt1<|Jd<|Je [1,2] R<|Jo1 (κ:=K46) (E:=E6) 16 R R R R R Y26 a8 R λal an w51 K52 S53 f54=>Tv<|Jb 1 R<|Jq<|Je3 R ?_
 have hN55:(x12.length:Int)<=9223372036854775807:=f50.len_le
 refine Ob h λq2 hq57 hK56=>?_
 clear h
 refine Jx1 (λL w'=>∃κ',∃s3:(List Int),∃ab aa,L=[(4,.slice ab s3.length aa)]/\Stp [16] K52 w51 κ' w'/\Oc E6 2 κ' w' 16 ab aa s3/\q2=vq s3) ?_ ?_
 refine Jv<|Jy1 (λk L w'=>∃κ' v5,∃s1:(List Int),∃ad ac,L=[(3,.slice am x12.length ao),(4,.slice ad s1.length ac),(5,vi v5)]/\Stp [16] K52 w51 κ' w'/\Oc E6 2 κ' w' 16 ad ac s1/\0<=v5/\vu ((x12.length:Int)-v5)=k/\cntM (iY x12) k v5 s1=some q2) ⟨_,_,⟨K52,0,(([]:List Int):(List Int)),al,an,R,Jj3,f54,(by decide),(by simp),hq57⟩,(KM R)⟩ ?_
 rintro k _ w62 ⟨K63,v5,s1,ad,ac,rfl,S64,f65,hj55,hJ55,h⟩
 rcases k with _ | k
 have hk66:=h;obtain⟨o55,h⟩:=cc (vq (Sum.inl s1):(List Int)⊕(((List Int))⊕((List Int))))
 have hc55:decide (v5<(x12.length:Int))=false:=Jo2 (by omega)
 refine Jq<|Jg3 [2,2,2,2] 2 R<|Jn3 R U123 R R<|Jb 1 R<|Jw2 R hc55<|Jc1<|Jt<|Jt ?_
 cases h
 have h:=hk66
 refine Jb1 ?_
 cases h
 exact Jw1 _ ⟨K63,s1,ad,ac,R,S64.wk R,f65,R⟩<|KM R
 obtain⟨o55,h,hk66⟩:=BI h;unfold iY at h
 have hc55:decide (v5<(x12.length:Int))=true:=Jn2 (by omega)
 refine Jq<|Jg3 [2,2,2,2] 2 R<|Jn3 R U123 R R<|Jb 1 R<|Jv2 R hc55<|Js<|Jp<|Jq<|Jv<|Jh3 [2,2,2,2,1,1,2,1,1,2] 3 R<|Ob h λx23 hx23 h=>Jc3 R f50.rdc hx23 U123 Z4<|Jb3 R I4 ((f50.stp (S53.tr S64) R R).rdc.gBool hx23)<|Ob h λx25 hx25 h=>Jh R R R C88 (kB (κ:=Mk K63) hx25) ?_
 rintro _ w68 ⟨k69,rfl,e70⟩
 obtain⟨K71,S72,m73⟩:=Ji e70 17 R
 refine Tv<|Jn 1 R<|Jn1 (κ:=K71) (E:=E6) 19 [] (parts:=[(0,.tmp 26)]) (cells:=[vi<|IntKind.i64.wrap (1-x25)]) (xs:=([(IntKind.i64.wrap (1-x25))]:List Int)) R R R R R R Y26 a8 R R R R R R R R R R ⟨[vi<|IntKind.i64.wrap (1-x25)],[],Zl K71 w68 [],Zl K71 w68 [],R,Zl.sp (l1:=[]) (l2:=[]) R,Zl.sr (l1:=[]) (l2:=[]),R,R⟩ λaA au w75 K76 S77 f78=>Tv<|Ob h λx28 hx28 h=>Jm1 (κ:=K76) (E:=E6) 16 [] R R R R R R R R R Y26 a8 R R R R (f65.stp (S72.tr S77) R R) (Sl.srcP (cb _) f78.rdc) bJ hx28 R λaq ap w80 K81 S82 f83=>Tv<|Jc 1 R<|Jz<|Jp<|Jf3 R ?_
 have hw55:sh .i64 (v5+1)=v5+1:=wr1 hj55 (Jm2 hc55) hN55
 rw[hw55]
 have hc55:=Jm2 hc55
 cases h
 exact Jz1 λa ha=>⟨k,_,Ja3 _,⟨K81,v5+1,x28,aq,ap,R,(T4 S64 S72 S77 S82).wk R,f83,by omega,by omega,hk66⟩,(ha.mm R)⟩
 rintro _ w58 ⟨K59,s3,ab,aa,rfl,S60,f61,rfl⟩
 have h:=yI hK56
 refine Jp<|Je3 R<|Ju<|Ja2 (l:=[.tmp 2]) V82 (Jp2 R R) R ?_
 cases h
 exact⟨(λb=>ren [(16,2)]<|K59 b),ab,aa,R,((hE.stp (T7 S3 S5 S20 S33 S47 S53 S60) R R).map (ren [(16,2)]) R R),(f61.map (ren [(16,2)]) R R)⟩
theorem px {ae ak aj ab ad aa af ai ac ah}{p0:l7Game}{a1 u1}{p1:(List Bool)}{p2:Int}(g0_0:Rd (Rp.int .i64) κ w 0 ae ak p0.owner) (g0_1:Rd (Rp.int .i64) κ w 0 aj ab p0.prio) (g0_2:Rd (Rp.sl (Rp.int .i64)) κ w 0 ad aa p0.next) (g0_3:Rd (Rp.sl (Rp.int .i64)) κ w 0 af ai p0.prev) (g0_4:Rd (Rp.int .i64) κ w 0 ac ah p0.pick) (g1:Rd Rp.bool κ w 0 a1 u1 p1){r:Bool}(h:jH p0 p1 p2=some r):Ret Try.prog 95 [.agg #[.slice ae p0.owner.length ak,.slice aj p0.prio.length ab,.slice ad p0.next.length aa,.slice af p0.prev.length ai,.slice ac p0.pick.length ah],.slice a1 p1.length u1,vi p2] w (Pvb κ w r):=by
 unfold jH at h
 refine Jk3 κ F95 R N95 R λhE=>Je [1,2] R<|Jf1 (κ:=κ) 2 R R R R R R R λb3 w1 K2 S3 f4=>Tv<|Jb 1 R<|Je [1,2,1,2] R<|Jl tv R R R R (Jd2 (cs:=[.slice ae p0.owner.length ak,.slice aj p0.prio.length ab,.slice ad p0.next.length aa,.slice af p0.prev.length ai,.slice ac p0.pick.length ah]) I121 Z121 R R R<|haE f4.cells)<|Jn 1 R<|Ob h λx11 hx11 h=>?_
 have f10:=g1.stp S3 R R
 refine Jh R R R C93 (nP _ (κ:=Mk K2) (p0:=p0) (Ji3<|g0_0.stp S3 R R) (Ji3<|g0_1.stp S3 R R) (Ji3<|g0_2.stp S3 R R) (Ji3<|g0_3.stp S3 R R) (Ji3<|g0_4.stp S3 R R) (Ji3 f10) hx11) ?_
 rintro _ w11 ⟨k12,am,al,rfl,e13,f14⟩
 obtain⟨K15,S16,m17⟩:=Ji e13 3 R
 refine Tv<|?_
 have f19:=f14.mx fF m17 R (R:3+2=5)
 refine Jb 1 R<|Jq<|Je3 R ?_
 have hN20:(p1.length:Int)<=9223372036854775807:=f10.len_le
 refine Ob h λq2 hq22 hK21=>?_
 clear h
 refine Jx1 (λL w'=>∃κ',L=[]/\Stp [] K15 w11 κ' w'/\q2=vq ()) ?_ ?_
 refine Jv<|Jy1 (λk L w'=>∃κ' v8,L=[(1,.slice a1 p1.length u1),(2,vi p2),(7,.slice am x11.length al),(8,vi v8)]/\Stp [] K15 w11 κ' w'/\0<=v8/\vu ((p1.length:Int)-v8)=k/\cntM (gi p1 p2 x11) k v8 ()=some q2) ⟨_,_,⟨K15,0,R,Jj3,(by decide),(by simp),hq22⟩,(KM R)⟩ ?_
 rintro k _ w26 ⟨K27,v8,rfl,S28,hj20,hJ20,h⟩
 rcases k with _ | k
 have hk29:=h;obtain⟨o20,h⟩:=cc (vq (Sum.inl ()):Bool⊕((Unit)⊕(Unit)))
 have hc20:decide (v8<(p1.length:Int))=false:=Jo2 (by omega)
 refine Jq<|Jg3 [2,2,2,2] 2 R<|Jn3 R U123 R R<|Jb 1 R<|Jw2 R hc20<|Jc1<|Jt<|Jt ?_
 cases h
 have h:=hk29
 refine Jb1 ?_
 cases h
 exact Jw1 _ ⟨K27,R,S28.wk R,R⟩ KN
 obtain⟨o20,h,hk29⟩:=BI h;unfold gi at h
 have hc20:decide (v8<(p1.length:Int))=true:=Jn2 (by omega)
 refine Jq<|Jg3 [2,2,2,2] 2 R<|Jn3 R U123 R R<|Jb 1 R<|Jv2 R hc20<|Js<|Jp<|Jq<|Jv<|Jg3 [2,2,2,1,2,2,2,2,1,2,2,2,2] 2 R<|Ob h λx20 hx20 h=>Jc3 R f10 hx20 U123 Z4<|Jb3 R I4 ((f10.stp (S16.tr S28) R R).gBool hx20)<|Jn 1 R<|Ob h λp30 h hK31=>Ju1 [(5,2),(6,2),(7,2),(8,1),(9,2),(10,2),(11,2),(12,2)] [] (λL w'=>L=[(1,.slice a1 p1.length u1),(2,vi p2),(7,.slice am x11.length al),(8,vi v8),(30,.bool p30)]/\∃κ',Stp [] K27 w26 κ' w') tv ?_ ?_
 revert h
 cases ht32:x20
 refine JF λh=>Jn 3 R<|Jd1 R R R R<|Jn 4 R ?_
 cases h
 exact Jv1 _ tv ⟨R,_,Jj3⟩<|KM R
 refine JT λh=>Jn 2 R<|Ob h λx25 hx25 h=>Jc3 R f19.rdc hx25 U123 Z4<|Jb3 R I4 ((f19.stp S28 R R).rdc.gBool hx25)<|Jn 2 R<|Jf R (pM R R U4 R)<|Jn 1 R ?_
 cases h
 exact Jv1 _ tv ⟨R,_,Jj3⟩<|KM R
 rintro _ w34 _ ⟨rfl,K35,S36⟩
 have h:=hK31
 refine Jd ?_
 revert h
 cases ht37:p30
 refine JF λh=>Jy R<|Js<|Jz<|Jp<|Jf3 R ?_
 have hw20:sh .i64 (v8+1)=v8+1:=wr1 hj20 (Jm2 hc20) hN20
 rw[hw20]
 have hc20:=Jm2 hc20
 cases h
 exact Jz1 λa ha=>⟨k,_,Ja3 _,⟨K35,v8+1,R,(S28.tr S36).wk R,by omega,by omega,hk29⟩,(ha.mm R)⟩
 refine JT λh=>Jx R<|Je3 R<|Ju<|Ja1<|Jw<|Jw ?_
 cases h
 obtain rfl:=Option.some.inj hk29
 have h:=yL hK21
 refine Ja1<|Jq2<|Jw<|Ja2 (l:=[.tmp 6]) V95 (Jp2 R R) R ?_
 cases h
 exact⟨K35,R,(hE.stp (T4 S3 S16 S28 S36) R R)⟩
 rintro _ w23 ⟨K24,rfl,S25,rfl⟩
 have h:=yI hK21
 refine Jp<|Je3 R<|Ju<|Ja2 (l:=[.tmp 6]) V95 (Jp2 R R) R ?_
 cases h
 exact⟨K24,R,(hE.stp (T3 S3 S16 S25) R R)⟩
theorem pd {ab ae}{p0:l1Cur}{p1:Int}{b0}(g0_0:Rd (Rp.int .u8) κ w 0 ab ae p0.b) (gb0:Bc κ w 2 b0 56 [.slice ab p0.b.length ae,vi p0.i,vi p0.h]){r:Word×Int×Int}(h:jO p0 p1=some r):Ret Try.prog 17 [.pointer (some ⟨b0,0,none⟩),vi p1] w (λv w'=>∃(κ':Col) (ra0:Option Addr) (ru0:Nat) (ra1:Option Addr) (ru1:Nat),v= .agg #[.slice ra0 r.1.Stem.length ru0,.slice ra1 r.1.Loop.length ru1]/\Ent κ w κ' w'/\Oc E6 2 κ' w' 3 ra0 ru0 r.1.Stem/\Oc E6 2 κ' w' 4 ra1 ru1 r.1.Loop/\Bc κ' w' 2 b0 56 [.slice ab p0.b.length ae,vi r.2.1,vi r.2.2]):=by
 unfold jO at h
 refine Jk3 κ F17 R N17 R λhE=>Je [1] R<|Jg1 (κ:=κ) 3 R R R R R X45 R λb4 w1 K2 S3 f4=>Tv<|Jd<|Jg3 [2,1,2] 1 R<|Ob h λx7 hx7 h=>Jh R R R C35 (gC (κ:=Mk K2) hx7) ?_
 rintro _ w5 ⟨k6,rfl,e7⟩
 obtain⟨K8,S9,m10⟩:=Ji e7 4 R
 refine Tv<|Jb 1 R<|Jg3 [2,2,1,2,2,1,2,1,1] 2 R<|Ob h λx10 hx10 h=>?_
 have f12:=g0_0.stp (S3.tr S9) R R
 refine Jh R R R C36 (jG (κ:=λb=>mp [(2,2)] 0<|K8 b) (p0:=p0) (Jl2 f12 (mp [(2,2)] 0) R R) ((gb0.stp (S3.tr S9) R R).map (mp [(2,2)] 0) R R) hx10) ?_
 rintro _ w14 ⟨k15,ac,aa,rfl,e16,f17,f18⟩
 obtain⟨K19,S20,m21⟩:=Ji e16 6 R
 refine Tv<|?_
 have f23:=f17.mx (bE _) m21 R (R:6+3=9)
 refine Jn 2 R<|Ob h λx13 hx13 h=>?_
 have f25:=f12.stp S20 R R
 refine Jh R R R C36 (jG (κ:=λb=>mp [(8,2)] 0<|K19 b) (p0:=(⟨p0.b,x10.2.1,x10.2.2⟩:l1Cur)) (Jl2 f25 (mp [(8,2)] 0) R R) ((f18.mx m21 R (R:6+2=8)).map (mp [(8,2)] 0) R R) hx13) ?_
 rintro _ w26 ⟨k27,ad,af,rfl,e28,f29,f30⟩
 obtain⟨K31,S32,m33⟩:=Ji e28 10 R
 refine Tv<|?_
 have f35:=f29.mx (bE _) m33 R (R:10+3=13)
 refine Jf R (bF (parts:=[(0,.tmp 10),(1,.tmp 13)]) (cells:=[.slice ac x10.1.length aa,.slice ad x13.1.length af]) R R (by kernel_rfl))<|Jg1 (κ:=K31) 14 R R R R R X45 R λb5 w37 K38 S39 f40=>Tv<|Jj1 (κ:=K38) 14 (vc:=[.slice ac x10.1.length aa,.slice ad x13.1.length af]) R R R R R R R Z45 R R f40 R λw41 S42 f43=>Tv<|Jd<|Jq<|Jg3 [2,1] 1 R<|Ob h λx16 hx16 h=>?_
 have f44:=f25.stp (T3 S32 S39 S42) R R
 refine Jh R R R C28 (cR (κ:=λb=>mp [(12,2)] 0<|K38 b) (p0:=(⟨p0.b,x13.2.1,x13.2.2⟩:l1Cur)) (Jl2 f44 (mp [(12,2)] 0) R R) (((f30.mx m33 R (R:10+2=12)).stp (S39.tr S42) R R).map (mp [(12,2)] 0) R R) hx16) ?_
 rintro _ w46 ⟨k47,rfl,e48,f49⟩
 obtain⟨K50,S51,m52⟩:=Ji e48 15 R
 refine Tv<|?_
 have f54:=f49.mx m52 R (R:15+2=17)
 refine Jd<|Ob h λq1 h hK55=>Jx1 (λL w'=>∃κ' ak ai aj ah,L=[(0,.pointer (some ⟨b0,0,none⟩)),(4,.pointer (some ⟨b4,0,none⟩)),(5,.pointer (some ⟨b5,0,none⟩))]/\Stp [9,13,14,17,20,21,23,24] K50 w46 κ' w'/\Oc E6 2 κ' w' 9 ak ai q1.2.2.1/\Oc E6 2 κ' w' 13 aj ah q1.2.2.2/\Bc κ' w' 17 b0 56 [.slice ab p0.b.length ae,vi q1.1,vi q1.2.1]/\Bc κ' w' 14 b5 45 [.slice ak q1.2.2.1.length ai,.slice aj q1.2.2.2.length ah]) ?_ ?_
 revert h
 cases ht63:x16.1
 refine JF λh=>Jy R<|Js ?_
 cases h
 exact Jw1 _ ⟨K50,ac,aa,ad,af,R,Jj3,(f23.stp (T4 S32 S39 S42 S51) R R),(f35.stp (T3 S39 S42 S51) R R),f54,(f43.stp S51 R R)⟩<|KM R
 refine JT λh=>Jx R<|Jg3 [2,1] 1 R<|Ob h λx18 hx18 h=>?_
 have f64:=f44.stp S51 R R
 refine Jh R R R C29 (bU (κ:=λb=>mp [(17,2)] 0<|K50 b) (p0:=(⟨p0.b,x16.2.1,x16.2.2⟩:l1Cur)) (Jl2 f64 (mp [(17,2)] 0) R R) (f54.map (mp [(17,2)] 0) R R) hx18) ?_
 rintro _ w65 ⟨k66,rfl,e67,f68⟩
 obtain⟨K69,S70,m71⟩:=Ji e67 18 R
 refine Tv<|?_
 have f73:=f68.mx m71 R (R:18+2=20)
 refine Jd<|Jv<|Je3 R<|Ob h λq2 h hK74=>Jx1 (λL w'=>∃κ' aw av ax am,L=[(0,.pointer (some ⟨b0,0,none⟩)),(4,.pointer (some ⟨b4,0,none⟩)),(5,.pointer (some ⟨b5,0,none⟩))]/\Stp [9,13,14,20,21,23,24] K69 w65 κ' w'/\Oc E6 2 κ' w' 9 aw av q2.2.2.1/\Oc E6 2 κ' w' 13 ax am q2.2.2.2/\Bc κ' w' 20 b0 56 [.slice ab p0.b.length ae,vi q2.1,vi q2.2.1]/\Bc κ' w' 14 b5 45 [.slice aw q2.2.2.1.length av,.slice ax q2.2.2.2.length am]) ?_ ?_
 revert h
 cases ht82:(x18.1==0)
 refine JF λh=>Jy R<|Je3 R<|Ob h λq3 h hK94=>Jx1 (λL w'=>∃κ' ap al ao aq,L=[(0,.pointer (some ⟨b0,0,none⟩)),(4,.pointer (some ⟨b4,0,none⟩)),(5,.pointer (some ⟨b5,0,none⟩))]/\Stp [9,13,14,20,23,24] K69 w65 κ' w'/\Oc E6 2 κ' w' 9 ap al q3.2.2.1/\Oc E6 2 κ' w' 13 ao aq q3.2.2.2/\Bc κ' w' 20 b0 56 [.slice ab p0.b.length ae,vi q3.1,vi q3.2.1]/\Bc κ' w' 14 b5 45 [.slice ap q3.2.2.1.length al,.slice ao q3.2.2.2.length aq]) ?_ ?_
 revert h
 cases ht102:(x18.1==1)
 refine JF λh=>Jy R<|Je3 R<|Ob h λq4 h hK133=>Jx1 (λL w'=>∃κ' aA an au ar,L=[(0,.pointer (some ⟨b0,0,none⟩)),(4,.pointer (some ⟨b4,0,none⟩)),(5,.pointer (some ⟨b5,0,none⟩))]/\Stp [13,14,20,23,24] K69 w65 κ' w'/\Oc E6 2 κ' w' 9 aA an q4.2.2.1/\Oc E6 2 κ' w' 13 au ar q4.2.2.2/\Bc κ' w' 20 b0 56 [.slice ab p0.b.length ae,vi q4.1,vi q4.2.1]/\Bc κ' w' 14 b5 45 [.slice aA q4.2.2.1.length an,.slice au q4.2.2.2.length ar]) ?_ ?_
 revert h
 cases ht141:(x18.1==2)
 refine JF λh=>Jy R<|Je3 R<|Ob h λq5 h hK172=>Jx1 (λL w'=>∃κ' ay az,L=[(0,.pointer (some ⟨b0,0,none⟩)),(4,.pointer (some ⟨b4,0,none⟩)),(5,.pointer (some ⟨b5,0,none⟩))]/\Stp [14,20,23,24] K69 w65 κ' w'/\Oc E6 2 κ' w' 9 ay az q5.2.2/\Bc κ' w' 20 b0 56 [.slice ab p0.b.length ae,vi q5.1,vi q5.2.1]/\Bc κ' w' 14 b5 45 [.slice ay q5.2.2.length az,.slice ad x13.1.length af]) ?_ ?_
 revert h
 cases ht179:(x18.1==3)
 refine JF λh=>Jy R<|Js ?_
 cases h
 exact Jw1 _ ⟨K69,ac,aa,R,Jj3,(f23.stp (T5 S32 S39 S42 S51 S70) R R),f73,(f43.stp (S51.tr S70) R R)⟩<|KM R
 refine JT λh=>Jx R<|Jh3 [2,1,2,1,2,1] 1 R<|Ob h λx45 hx45 h=>Jh R R R C29 (bU (κ:=λb=>mp [(20,2)] 0<|K69 b) (p0:=(⟨p0.b,x18.2.1,x18.2.2⟩:l1Cur)) (Jl2 (f64.stp S70 R R) (mp [(20,2)] 0) R R) (f73.map (mp [(20,2)] 0) R R) hx45) ?_
 rintro _ w181 ⟨k182,rfl,e183,f184⟩
 obtain⟨K185,S186,m187⟩:=Ji e183 21 R
 refine Tv<|Jn 1 R<|Ob h λx47 hx47 h=>Jl1 (κ:=K185) (E:=E6) (z:=(0:Int)) 24 R R R R R R R Y26 a8 R R R R R (λ_ _ _=>R) (Ju2 hx47) λaI aB w190 K191 S192 f193=>Tv<|Jd3 R U45 R Z26<|Ji1 (κ:=K191) 14 (off:=0) (vc:=[.slice aI x47.length aB]) (cs':=[.slice aI x47.length aB,.slice ad x13.1.length af]) R R R R R R R Z26 R R (f43.stp (T4 S51 S70 S186 S192) R R) R R λw195 S196 f197=>Tv<|Jo ?_
 cases h
 exact Jw1 _ ⟨(λb=>ren [(24,9),(23,20)]<|K191 b),aI,aB,R,(Jy2 ((T3 S186 S192 S196).wk R) [(24,9),(23,20)] R),((f193.stp S196 R R).map (ren [(24,9),(23,20)]) R R),(((f184.mx m187 R (R:21+2=23)).stp (S192.tr S196) R R).map (ren [(24,9),(23,20)]) R R),(f197.map (ren [(24,9),(23,20)]) R R)⟩<|KM R
 rintro _ w173 ⟨K174,ay,az,rfl,S175,f176,f177,f178⟩
 have h:=hK172
 cases h
 exact Jw1 _ ⟨K174,ay,az,ad,af,R,S175.wk R,f176,(f35.stp (T5 S39 S42 S51 S70 S175) R R),f177,f178⟩<|KM R
 refine JT λh=>Jx R<|Js1 (κ:=K69) [14] (some 7) [(0,2),(2,2),(1,0),(3,1),(4,1),(5,1),(6,2)] [(7,1)] (by kernel_rfl) (by kernel_rfl) λw143 S142=>Jd3 R U45 R Z26<|Jn 1 R ?_
 have f144:=f43.stp (T3 S51 S70 S142) R R
 refine Jg R (Jc2 I26 R R<|hvC (f144.ld 1 R R) R)<|Ob h λx38 hx38 h=>Jh R R R C38 (nG (κ:=λb=>mp [(20,2)] 0<|K69 b) (p0:=(⟨p0.b,x18.2.1,x18.2.2⟩:l1Cur)) (Jl2 (f64.stp (S70.tr S142) R R) (mp [(20,2)] 0) R R) ((f73.stp S142 R R).map (mp [(20,2)] 0) R R) hx38) ?_
 rintro _ w147 ⟨k148,rfl,e149,f150⟩
 obtain⟨K151,S152,m153⟩:=Ji e149 21 R
 refine⟨(S152.cl R),Jn1 (κ:=K151) (E:=E6) 24 [] (parts:=[(0,.tmp 38)]) (cells:=[vi x38.1]) (xs:=([x38.1]:List Int)) R R R R R R Y26 a8 R R R R R R R R R R ⟨[vi x38.1],[],Zl K151 w147 [],Zl K151 w147 [],R,Zl.sp (l1:=[]) (l2:=[]) R,Zl.sr (l1:=[]) (l2:=[]),R,R⟩ λaM aL w156 K157 S158 f159=>⟨((S152.tr S158).cl R),Ob h λx40 hx40 h=>Jm1 (κ:=K157) (E:=E6) 13 [] R R R R R R R R R Y26 a8 R R R R (f35.stp (T7 S39 S42 S51 S70 S142 S152 S158) R R) (Sl.srcP (cb _) f159.rdc) bJ hx40 R λaC aG w161 K162 S163 f164=>⟨((T3 S152 S158 S163).cl R),Jd3 R U45 R Z26<|Jt1<|Ji1 (κ:=K162) 14 (off:=1) (vc:=[.slice aC x40.length aG]) (cs':=[.slice ac x10.1.length aa,.slice aC x40.length aG]) R R R R R R R Z26 R R (f144.stp (T3 S152 S158 S163) R R) R R λw166 S167 f168=>Tv<|Jo ?_⟩⟩⟩
 cases h
 exact Jw1 _ ⟨(λb=>ren [(23,20)]<|K162 b),ac,aa,aC,aG,R,(Jy2 ((T5 S142 S152 S158 S163 S167).wk R) [(23,20)] R),((f23.stp (T10 S32 S39 S42 S51 S70 S142 S152 S158 S163 S167) R R).map (ren [(23,20)]) R R),((f164.stp S167 R R).map (ren [(23,20)]) R R),(((f150.mx m153 R (R:21+2=23)).stp (T3 S158 S163 S167) R R).map (ren [(23,20)]) R R),(f168.map (ren [(23,20)]) R R)⟩<|KM R
 rintro _ w134 ⟨K135,aA,an,au,ar,rfl,S136,f137,f138,f139,f140⟩
 have h:=hK133
 cases h
 exact Jw1 _ ⟨K135,aA,an,au,ar,R,S136.wk R,f137,f138,f139,f140⟩<|KM R
 refine JT λh=>Jx R<|Js1 (κ:=K69) [14] (some 8) [(0,2),(2,2),(3,2),(1,0),(4,1),(5,1),(6,1),(7,2)] [(8,1)] (by kernel_rfl) (by kernel_rfl) λw104 S103=>Jd3 R U45 R Z26<|Jn 2 R ?_
 have f105:=f43.stp (T3 S51 S70 S103) R R
 refine Jg R (Jc2 I26 R R<|hvC (f105.ld 0 R R) R)<|Ob h λx29 hx29 h=>Jh R R R C37 (lN (κ:=λb=>mp [(20,2)] 0<|K69 b) (p0:=(⟨p0.b,x18.2.1,x18.2.2⟩:l1Cur)) (Jl2 (f64.stp (S70.tr S103) R R) (mp [(20,2)] 0) R R) ((f73.stp S103 R R).map (mp [(20,2)] 0) R R) hx29) ?_
 rintro _ w108 ⟨k109,rfl,e110,f111⟩
 obtain⟨K112,S113,m114⟩:=Ji e110 21 R
 refine⟨(S113.cl R),Jn1 (κ:=K112) (E:=E6) 24 [] (parts:=[(0,.tmp 29)]) (cells:=[vi x29.1]) (xs:=([x29.1]:List Int)) R R R R R R Y26 a8 R R R R R R R R R R ⟨[vi x29.1],[],Zl K112 w108 [],Zl K112 w108 [],R,Zl.sp (l1:=[]) (l2:=[]) R,Zl.sr (l1:=[]) (l2:=[]),R,R⟩ λaJ aK w117 K118 S119 f120=>⟨((S113.tr S119).cl R),Ob h λx31 hx31 h=>Jm1 (κ:=K118) (E:=E6) 9 [] R R R R R R R R R Y26 a8 R R R R (f23.stp (T8 S32 S39 S42 S51 S70 S103 S113 S119) R R) (Sl.srcP (cb _) f120.rdc) bJ hx31 R λaE aF w122 K123 S124 f125=>⟨((T3 S113 S119 S124).cl R),Jd3 R U45 R Z26<|Jt1<|Ji1 (κ:=K123) 14 (off:=0) (vc:=[.slice aE x31.length aF]) (cs':=[.slice aE x31.length aF,.slice ad x13.1.length af]) R R R R R R R Z26 R R (f105.stp (T3 S113 S119 S124) R R) R R λw127 S128 f129=>Tv<|Jo ?_⟩⟩⟩
 cases h
 exact Jw1 _ ⟨(λb=>ren [(23,20)]<|K123 b),aE,aF,ad,af,R,(Jy2 ((T5 S103 S113 S119 S124 S128).wk R) [(23,20)] R),((f125.stp S128 R R).map (ren [(23,20)]) R R),((f35.stp (T9 S39 S42 S51 S70 S103 S113 S119 S124 S128) R R).map (ren [(23,20)]) R R),(((f111.mx m114 R (R:21+2=23)).stp (T3 S119 S124 S128) R R).map (ren [(23,20)]) R R),(f129.map (ren [(23,20)]) R R)⟩<|KM R
 rintro _ w95 ⟨K96,ap,al,ao,aq,rfl,S97,f98,f99,f100,f101⟩
 have h:=hK94
 cases h
 exact Jw1 _ ⟨K96,ap,al,ao,aq,R,S97.wk R,f98,f99,f100,f101⟩<|KM R
 refine JT λh=>Jx R<|Ja [1,2,1] R<|Jo1 (κ:=K69) (E:=E6) 21 R R R R R Y26 a8 R λaD aH w83 K84 S85 f86=>Tv<|Jd3 R U45 R Z26<|Ji1 (κ:=K84) 14 (off:=1) (vc:=[.slice aD ([]:List Int).length aH]) (cs':=[.slice ac x10.1.length aa,.slice aD ([]:List Int).length aH]) R R R R R R R Z26 R R (f43.stp (T3 S51 S70 S85) R R) R R λw88 S89 f90=>Tv<|Jo ?_
 cases h
 exact Jw1 _ ⟨(λb=>ren [(21,13)]<|K84 b),ac,aa,aD,aH,R,(Jy2 ((S85.tr S89).wk R) [(21,13)] R),((f23.stp (T7 S32 S39 S42 S51 S70 S85 S89) R R).map (ren [(21,13)]) R R),((f86.stp S89 R R).map (ren [(21,13)]) R R),((f73.stp (S85.tr S89) R R).map (ren [(21,13)]) R R),(f90.map (ren [(21,13)]) R R)⟩<|KM R
 rintro _ w75 ⟨K76,aw,av,ax,am,rfl,S77,f78,f79,f80,f81⟩
 have h:=hK74
 refine Jz ?_
 cases h
 exact Jw1 _ ⟨(λb=>ren [(20,17)]<|K76 b),aw,av,ax,am,R,(Jy2 ((S70.tr S77).wk R) [(20,17)] R),(f78.map (ren [(20,17)]) R R),(f79.map (ren [(20,17)]) R R),(f80.map (ren [(20,17)]) R R),(f81.map (ren [(20,17)]) R R)⟩<|KM R
 rintro _ w56 ⟨K57,ak,ai,aj,ah,rfl,S58,f59,f60,f61,f62⟩
 have h:=hK55
 refine Jp<|Je [1,1] R<|Jl tv R R R R (Jd2 (cs:=[.slice ak q1.2.2.1.length ai,.slice aj q1.2.2.2.length ah]) I45 Z45 R R R<|haE f62.cells)<|Jj1 (κ:=K57) 3 (vc:=[.slice ak q1.2.2.1.length ai,.slice aj q1.2.2.2.length ah]) R R R R R R R Z45 R R (f4.stp (T7 S9 S20 S32 S39 S42 S51 S58) R R) R λw207 S208 f209=>Tv<|Jd<|Ju<|Ja2 (l:=[.cell 4 45]) V17 (bH R f209 I45 Z45 R R) R ?_
 cases h
 exact⟨(λb=>ren [(9,3),(13,4),(17,2)]<|K57 b),ak,ai,aj,ah,R,((hE.stp (T9 S3 S9 S20 S32 S39 S42 S51 S58 S208) R R).map (ren [(9,3),(13,4),(17,2)]) R R),((f59.stp S208 R R).map (ren [(9,3),(13,4),(17,2)]) R R),((f60.stp S208 R R).map (ren [(9,3),(13,4),(17,2)]) R R),((f61.stp S208 R R).map (ren [(9,3),(13,4),(17,2)]) R R)⟩
theorem iq {p0:Sig}{ac ad aa ab}{p1:Rival}(g1_0:Rd (Rp.int .i64) κ w 0 ac ad p1.In) (g1_1:Rd (Rp.sl (Rp.int .i64)) κ w 0 aa ab p1.Next){r:Bool}(h:fq p0 p1=some r):Ret Try.prog 19 [.agg #[vi p0.In,vi p0.Out],.agg #[.slice ac p1.In.length ad,.slice aa p1.Next.length ab]] w (Pvb κ w r):=by
 unfold fq at h
 refine Jk3 κ F19 R N19 R λhE=>Je [1,1,2] R<|Jf1 (κ:=κ) 2 R R R R R R R λb2 w1 K2 S3 f4=>Tv<|Jf1 (κ:=K2) 3 R R R R R R R λb3 w5 K6 S7 f8=>Tv<|Jb 1 R<|Je [2,1,2,2] R<|Jd3 R U29 R Z26<|Jb3 R I26 (f8.ld 0 R R)<|Jn3 R U26 R R<|Jb 1 R<|Jq<|Jq<|Js1 (κ:=K6) [2,3] none [(0,2),(1,2),(2,2),(3,2),(4,2),(5,2),(6,2),(7,2),(10,2),(8,0),(9,2),(11,0),(12,2),(13,2),(14,2),(15,2),(16,2),(17,0),(18,0),(19,1),(20,1),(21,2),(22,2)] [] (by kernel_rfl) (by kernel_rfl) λw10 S9=>Jn 3 R<|Ob h λp16 h hK11=>Ju1 [(3,2),(4,2),(5,2)] [(6,2),(7,2),(10,2),(8,0),(9,2),(11,0),(12,2),(13,2),(14,2),(15,2),(16,2),(17,0),(18,0),(19,1),(20,1),(21,2),(22,2)] (λL w'=>L=[(2,.pointer (some ⟨b2,0,none⟩)),(3,.pointer (some ⟨b3,0,none⟩)),(5,vi (p1.In.length:Int)),(16,.bool p16)]/\∃κ',Stp [] K6 w10 κ' w') (Cl.refl _ _ _) ?_ ?_
 revert h
 cases ht12:decide ((p1.In.length:Int)<1)
 refine JF λh=>Jn 3 R ?_
 cases h
 exact Jv1 _ (Cl.refl _ _ _) ⟨R,_,Jj3⟩<|KM R
 refine JT λh=>Jn 3 R ?_
 cases h
 exact Jv1 _ (Cl.refl _ _ _) ⟨R,_,Jj3⟩<|KM R
 rintro _ w13 _ ⟨rfl,K14,S15⟩
 have h:=hK11
 refine Jn 1 R<|Ob h λp25 h hK16=>Ju1 [(7,2),(10,2),(8,0),(9,2),(11,0),(12,2),(13,2),(14,2)] [(15,2),(16,2),(17,0),(18,0),(19,1),(20,1),(21,2),(22,2)] (λL w'=>L=[(2,.pointer (some ⟨b2,0,none⟩)),(3,.pointer (some ⟨b3,0,none⟩)),(5,vi (p1.In.length:Int)),(25,.bool p25)]/\∃κ',Stp [] K14 w13 κ' w') (S15.cl R) ?_ ?_
 revert h
 cases ht17:p16
 refine JF λh=>Jd3 R U29 R Z27<|Jd3 R U29 R Z26 ?_
 have f18:=f8.stp S9 R R
 refine Jg R (Jc2 I27 R R<|hvC (f18.ld 1 R R) R)<|Jn3 R U27 R R<|Jg R (Jc2 I26 R R<|hvC (f18.ld 0 R R) R)<|Jn3 R U26 R R<|Jn 2 R ?_
 cases h
 exact Jv1 _ (S15.cl R) ⟨R,_,Jj3⟩<|KM R
 refine JT λh=>Jn 2 R<|Je1 R R R R<|Jn 1 R<|Je1 R R R R<|Jn 3 R ?_
 cases h
 exact Jv1 _ (S15.cl R) ⟨R,_,Jj3⟩<|KM R
 rintro _ w19 _ ⟨rfl,K20,S21⟩
 have h:=hK16
 refine Jn 1 R<|Ob h λp33 h hK22=>Ju1 [(16,2),(17,0),(18,0),(19,1),(20,1),(21,2),(22,2)] [] (λL w'=>L=[(2,.pointer (some ⟨b2,0,none⟩)),(3,.pointer (some ⟨b3,0,none⟩)),(5,vi (p1.In.length:Int)),(33,.bool p33)]/\∃κ',Stp [] K20 w19 κ' w') ((S15.tr S21).cl R) ?_ ?_
 revert h
 cases ht23:p25
 refine JF λh=>Jd3 R U29 R Z26<|Jg R (Jc2 I26 R R<|hvC ((f8.stp S9 R R).ld 0 R R) R)<|Jg R (Jd2 (cs:=[vi p0.In,vi p0.Out]) I25 Z25 R R R<|haC (f4.stp (S7.tr S9) R R).cells R)<|Ob h λx30 hx30 h=>Jh R R R C39 (ox (κ:=Mk K20) (p0:=p0) hx30) ?_
 rintro _ w26 ⟨k27,rfl,e28⟩
 obtain⟨K29,S30,m31⟩:=Ji e28 4 R
 refine⟨((T3 S15 S21 S30).cl R),Ob h λx31 hx31 h=>Jh R R R C20 (ik (κ:=Mk K29) (Ji3<|g1_0.stp (T6 S3 S7 S9 S15 S21 S30) R R) hx31) ?_⟩
 rintro _ w34 ⟨k35,rfl,e36⟩
 obtain⟨K37,S38,m39⟩:=Ji e36 6 R
 refine⟨((T4 S15 S21 S30 S38).cl R),Jn 2 R ?_⟩
 cases h
 exact Jv1 _ ((T4 S15 S21 S30 S38).cl R) ⟨R,_,(S30.tr S38).wk R⟩<|KM R
 refine JT λh=>Jn 1 R<|Je1 R R R R<|Je1 R R R R<|Jd1 R R R R<|Jd1 R R R R<|Jn 2 R ?_
 cases h
 exact Jv1 _ ((S15.tr S21).cl R) ⟨R,_,Jj3⟩<|KM R
 rintro _ w41 _ ⟨rfl,K42,S43⟩
 have h:=hK22
 refine Jt1<|Jd ?_
 revert h
 cases ht44:p33
 refine JF λh=>Jy R<|Js<|Jp<|Jq<|Je [2,1,2,2] R<|Jd3 R U29 R Z27<|Jb3 R I27 ((f8.stp (T4 S9 S15 S21 S43) R R).ld 1 R R)<|Jn3 R U27 R R<|Jb 1 R ?_
 have hN47:(p1.Next.length:Int)<=9223372036854775807:=g1_1.len_le
 refine Ob h λq2 hq49 hK48=>?_
 clear h
 refine Jx1 (λL w'=>∃κ',L=[]/\Stp [] K42 w41 κ' w'/\q2=vq ()) ?_ ?_
 refine Jv<|Jy1 (λk L w'=>∃κ' v37,L=[(2,.pointer (some ⟨b2,0,none⟩)),(5,vi (p1.In.length:Int)),(35,.slice aa p1.Next.length ab),(36,vi (p1.Next.length:Int)),(37,vi v37)]/\Stp [] K42 w41 κ' w'/\0<=v37/\vu ((p1.Next.length:Int)-v37)=k/\cntM (fU p0 p1) k v37 ()=some q2) ⟨_,_,⟨K42,0,R,Jj3,(by decide),(by simp),hq49⟩,(KM R)⟩ ?_
 rintro k _ w53 ⟨K54,v37,rfl,S55,hj47,hJ47,h⟩
 rcases k with _ | k
 have hk56:=h;obtain⟨o47,h⟩:=cc (vq (Sum.inl ()):Bool⊕((Unit)⊕(Unit)))
 have hc47:decide (v37<(p1.Next.length:Int))=false:=Jo2 (by omega)
 refine Je3 R<|Jq<|Jw2 R hc47<|Jc1<|Jt<|Jt ?_
 cases h
 have h:=hk56
 refine Jb1 ?_
 cases h
 exact Jw1 _ ⟨K54,R,S55.wk R,R⟩ KN
 obtain⟨o47,h,hk56⟩:=BI h;unfold fU at h
 have hc47:decide (v37<(p1.Next.length:Int))=true:=Jn2 (by omega)
 refine Je3 R<|Jq<|Jv2 R hc47<|Js<|Jp<|Jq<|Jv<|Je [2,1,2] R<|Ob h λx39 hx39 h=>Jc3 R g1_1 hx39 U27 Z26 ?_
 obtain⟨ax39,ux39,f58,hl59⟩:=(g1_1.stp (T7 S3 S7 S9 S15 S21 S43 S55) R R).gSl hx39
 refine Jb3 R I26 hl59<|Jb 1 R<|Jg3 [2,2,2,1,2,2,2,2,2,1,2,2] 1 R<|Jn3 R U26 R R<|Jd3 R U25 R Z2<|Jb3 R I2 ((f4.stp (T6 S7 S9 S15 S21 S43 S55) R R).ld 1 R R)<|Ob h λ_z45 hz45 h=>Jf R (re R R R<|tf hz45)<|Jn 2 R<|Ob h λp52 h hK61=>Ju1 [(7,2),(8,2),(9,1),(10,2),(11,2)] [] (λL w'=>L=[(2,.pointer (some ⟨b2,0,none⟩)),(5,vi (p1.In.length:Int)),(35,.slice aa p1.Next.length ab),(36,vi (p1.Next.length:Int)),(37,vi v37),(52,.bool p52)]/\∃κ',Stp [] K54 w53 κ' w') tv ?_ ?_
 revert h
 cases ht62:((x39.length:Int) !=(IntKind.i64.wrap (1 * 2 ^ (min (vu p0.Out) (IntKind.bits IntKind.i64)))))
 refine JF λh=>Jn 2 R<|Ob h λx50 hx50 h=>Jh R R R C20 (ik (κ:=Mk K54) (Ji3 f58) hx50) ?_
 rintro _ w63 ⟨k64,rfl,e65⟩
 obtain⟨K66,S67,m68⟩:=Ji e65 4 R
 refine Tv<|Jn 2 R ?_
 cases h
 exact Jv1 _ tv ⟨R,_,S67.wk R⟩<|KM R
 refine JT λh=>Jn 2 R<|Jd1 R R R R<|Jn 2 R ?_
 cases h
 exact Jv1 _ tv ⟨R,_,Jj3⟩<|KM R
 rintro _ w70 _ ⟨rfl,K71,S72⟩
 have h:=hK61
 refine Jd ?_
 revert h
 cases ht73:p52
 refine JF λh=>Jy R<|Js<|Jz<|Jp<|Jf3 R ?_
 have hw47:sh .i64 (v37+1)=v37+1:=wr1 hj47 (Jm2 hc47) hN47
 rw[hw47]
 have hc47:=Jm2 hc47
 cases h
 exact Jz1 λa ha=>⟨k,_,Ja3 _,⟨K71,v37+1,R,(S55.tr S72).wk R,by omega,by omega,hk56⟩,(ha.mm R)⟩
 refine JT λh=>Jx R<|Je3 R<|Ju<|Ja1<|Jw<|Jw ?_
 cases h
 obtain rfl:=Option.some.inj hk56
 have h:=yL hK48
 refine Ja1<|Jq2<|Jw<|Ja2 (l:=[.tmp 4]) V19 (Jp2 R R) R ?_
 cases h
 exact⟨K71,R,(hE.stp (T8 S3 S7 S9 S15 S21 S43 S55 S72) R R)⟩
 rintro _ w50 ⟨K51,rfl,S52,rfl⟩
 have h:=yI hK48
 refine Jp<|Je3 R<|Ju<|Ja2 (l:=[.tmp 4]) V19 (Jp2 R R) R ?_
 cases h
 exact⟨K51,R,(hE.stp (T7 S3 S7 S9 S15 S21 S43 S52) R R)⟩
 refine JT λh=>Jx R<|Je3 R<|Ju<|Jw<|Ja2 (l:=[.tmp 4]) V19 (Jp2 R R) R ?_
 cases h
 exact⟨K42,R,(hE.stp (T6 S3 S7 S9 S15 S21 S43) R R)⟩
end Go.Proofs.Ytpcjbkgbnoocaaa
