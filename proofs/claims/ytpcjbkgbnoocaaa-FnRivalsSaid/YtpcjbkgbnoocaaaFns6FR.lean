/- The walks, part 6. By program. -/
import Derived.Test.YtpcjbkgbnoocaaaFns5FR
set_option linter.unusedVariables false
set_option linter.unusedSimpArgs false
open Go.IntKind renaming wrap → sh
open Sum renaming inr → vq
namespace Go.Proofs.Ytpcjbkgbnoocaaa
open Go Go.Wk Go.Proofs
set_option maxRecDepth 100000
set_option maxHeartbeats 1000000
variable {w:World}{κ:Col}
theorem nq {ac af}{p0:l1Cur}{p1:Sig}{b0}(g0_0:Rd (Rp.int .u8) κ w 0 ac af p0.b) (gb0:Bc κ w 2 b0 56 [.slice ac p0.b.length af,vi p0.i,vi p0.h]){r:Clause×Int×Int}(h:gc p0 p1=some r):Ret Try.prog 51 [.pointer (some ⟨b0,0,none⟩),.agg #[vi p1.In,vi p1.Out]] w (λv w'=>∃(κ':Col) (ra0:Option Addr) (ru0:Nat) (ra1:Option Addr) (ru1:Nat),v= .agg #[vi r.1.Kind,.slice ra0 r.1.A.length ru0,.slice ra1 r.1.B.length ru1]/\Ent κ w κ' w'/\Oc E6 2 κ' w' 3 ra0 ru0 r.1.A/\Oc E6 2 κ' w' 4 ra1 ru1 r.1.B/\Bc κ' w' 2 b0 56 [.slice ac p0.b.length af,vi r.2.1,vi r.2.2]):=by
 unfold gc at h
 refine Jk3 κ F51 R N51 R λhE=>Je [1,1] R<|Jf1 (κ:=κ) 3 R R R R R R R λb3 w1 K2 S3 f4=>Tv<|Jg1 (κ:=K2) 4 R R R R R X92 R λb4 w5 K6 S7 f8=>Tv<|Jd<|Jg3 [2,1,1,1,1] 1 R<|Jl tv R R R R (Jd2 (cs:=[vi p1.In,vi p1.Out]) I25 Z25 R R R<|haE (f4.stp S7 R R).cells)<|Ob h λx8 hx8 h=>?_
 have f10:=g0_0.stp (S3.tr S7) R R
 refine Jh R R R C50 (mr (κ:=λb=>mp [(2,2)] 0<|K6 b) (p1:=p1) (p0:=p0) (Jl2 f10 (mp [(2,2)] 0) R R) ((gb0.stp (S3.tr S7) R R).map (mp [(2,2)] 0) R R) hx8) ?_
 rintro _ w12 ⟨k13,ae,ab,ad,aa,rfl,e14,f15,f16,f17⟩
 obtain⟨K18,S19,m20⟩:=Ji e14 5 R
 refine Tv<|?_
 have f22:=f15.mx (bE _) m20 R (R:5+3=8)
 have f23:=f16.mx (bE _) m20 R (R:5+4=9)
 refine Jg1 (κ:=K18) 10 R R R R R X92 R λb5 w25 K26 S27 f28=>Tv<|Jj1 (κ:=K26) 10 (vc:=[vi x8.1.Kind,.slice ae x8.1.A.length ab,.slice ad x8.1.B.length aa]) R R R R R R R Z92 R R f28 R λw29 S30 f31=>Tv<|Jd<|Jq<|Jg3 [2,1] 1 R<|Ob h λx10 hx10 h=>?_
 have f32:=f10.stp (T3 S19 S27 S30) R R
 refine Jh R R R C28 (cR (κ:=λb=>mp [(7,2)] 0<|K26 b) (p0:=(⟨p0.b,x8.2.1,x8.2.2⟩:l1Cur)) (Jl2 f32 (mp [(7,2)] 0) R R) (((f17.mx m20 R (R:5+2=7)).stp (S27.tr S30) R R).map (mp [(7,2)] 0) R R) hx10) ?_
 rintro _ w34 ⟨k35,rfl,e36,f37⟩
 obtain⟨K38,S39,m40⟩:=Ji e36 11 R
 refine Tv<|?_
 have f42:=f37.mx m40 R (R:11+2=13)
 refine Jd<|Ob h λq1 h hK43=>Jx1 (λL w'=>∃κ' ak ai aj ah,L=[(0,.pointer (some ⟨b0,0,none⟩)),(4,.pointer (some ⟨b4,0,none⟩)),(5,.pointer (some ⟨b5,0,none⟩))]/\Stp [8,9,10,13,16,19] K38 w34 κ' w'/\Oc E6 2 κ' w' 8 ak ai q1.2.2.2.1/\Oc E6 2 κ' w' 9 aj ah q1.2.2.2.2/\Bc κ' w' 13 b0 56 [.slice ac p0.b.length af,vi q1.1,vi q1.2.1]/\Bc κ' w' 10 b5 92 [vi q1.2.2.1,.slice ak q1.2.2.2.1.length ai,.slice aj q1.2.2.2.2.length ah]) ?_ ?_
 revert h
 cases ht51:x10.1
 refine JF λh=>Jy R<|Js ?_
 cases h
 exact Jw1 _ ⟨K38,ae,ab,ad,aa,R,Jj3,(f22.stp (T3 S27 S30 S39) R R),(f23.stp (T3 S27 S30 S39) R R),f42,(f31.stp S39 R R)⟩<|KM R
 refine JT λh=>Jx R<|Jg3 [2,1] 1 R<|Ob h λx12 hx12 h=>?_
 have f52:=f32.stp S39 R R
 refine Jh R R R C29 (bU (κ:=λb=>mp [(13,2)] 0<|K38 b) (p0:=(⟨p0.b,x10.2.1,x10.2.2⟩:l1Cur)) (Jl2 f52 (mp [(13,2)] 0) R R) (f42.map (mp [(13,2)] 0) R R) hx12) ?_
 rintro _ w53 ⟨k54,rfl,e55,f56⟩
 obtain⟨K57,S58,m59⟩:=Ji e55 14 R
 refine Tv<|?_
 have f61:=f56.mx m59 R (R:14+2=16)
 refine Jd<|Jv<|Je3 R<|Ob h λq2 h hK62=>Jx1 (λL w'=>∃κ' au ar av am,L=[(0,.pointer (some ⟨b0,0,none⟩)),(4,.pointer (some ⟨b4,0,none⟩)),(5,.pointer (some ⟨b5,0,none⟩))]/\Stp [8,9,10,16,19] K57 w53 κ' w'/\Oc E6 2 κ' w' 8 au ar q2.2.2.2.1/\Oc E6 2 κ' w' 9 av am q2.2.2.2.2/\Bc κ' w' 16 b0 56 [.slice ac p0.b.length af,vi q2.1,vi q2.2.1]/\Bc κ' w' 10 b5 92 [vi q2.2.2.1,.slice au q2.2.2.2.1.length ar,.slice av q2.2.2.2.2.length am]) ?_ ?_
 revert h
 cases ht70:(x12.1==0)
 refine JF λh=>Jy R<|Je3 R<|Ob h λq3 h hK88=>Jx1 (λL w'=>∃κ' ap al ao aq,L=[(0,.pointer (some ⟨b0,0,none⟩)),(4,.pointer (some ⟨b4,0,none⟩)),(5,.pointer (some ⟨b5,0,none⟩))]/\Stp [8,9,10,16,19] K57 w53 κ' w'/\Oc E6 2 κ' w' 8 ap al q3.2.2.1/\Oc E6 2 κ' w' 9 ao aq q3.2.2.2/\Bc κ' w' 16 b0 56 [.slice ac p0.b.length af,vi q3.1,vi q3.2.1]/\Bc κ' w' 10 b5 92 [vi x8.1.Kind,.slice ap q3.2.2.1.length al,.slice ao q3.2.2.2.length aq]) ?_ ?_
 revert h
 cases ht96:(x12.1==1)
 refine JF λh=>Jy R<|Je3 R<|Ob h λq4 h hK127=>Jx1 (λL w'=>∃κ' aw an,L=[(0,.pointer (some ⟨b0,0,none⟩)),(4,.pointer (some ⟨b4,0,none⟩)),(5,.pointer (some ⟨b5,0,none⟩))]/\Stp [9,10,16,19] K57 w53 κ' w'/\Oc E6 2 κ' w' 9 aw an q4.2.2/\Bc κ' w' 16 b0 56 [.slice ac p0.b.length af,vi q4.1,vi q4.2.1]/\Bc κ' w' 10 b5 92 [vi x8.1.Kind,.slice ae x8.1.A.length ab,.slice aw q4.2.2.length an]) ?_ ?_
 revert h
 cases ht134:(x12.1==2)
 refine JF λh=>Jy R<|Js ?_
 cases h
 exact Jw1 _ ⟨K57,ad,aa,R,Jj3,(f23.stp (T4 S27 S30 S39 S58) R R),f61,(f31.stp (S39.tr S58) R R)⟩<|KM R
 refine JT λh=>Jx R<|Js1 (κ:=K57) [10] (some 7) [(0,2),(2,2),(1,0),(3,1),(4,1),(5,1),(6,2)] [(7,1)] (by kernel_rfl) (by kernel_rfl) λw136 S135=>Jd3 R U92 R Z26<|Jn 1 R ?_
 have f137:=f31.stp (T3 S39 S58 S135) R R
 refine Jg R (Jc2 I26 R R<|hvC (f137.ld 2 R R) R)<|Ob h λx32 hx32 h=>Jh R R R C37 (lN (κ:=λb=>mp [(16,2)] 0<|K57 b) (p0:=(⟨p0.b,x12.2.1,x12.2.2⟩:l1Cur)) (Jl2 (f52.stp (S58.tr S135) R R) (mp [(16,2)] 0) R R) ((f61.stp S135 R R).map (mp [(16,2)] 0) R R) hx32) ?_
 rintro _ w140 ⟨k141,rfl,e142,f143⟩
 obtain⟨K144,S145,m146⟩:=Ji e142 17 R
 refine⟨(S145.cl R),Jn1 (κ:=K144) (E:=E6) 20 [] (parts:=[(0,.tmp 32)]) (cells:=[vi x32.1]) (xs:=([x32.1]:List Int)) R R R R R R Y26 a8 R R R R R R R R R R ⟨[vi x32.1],[],Zl K144 w140 [],Zl K144 w140 [],R,Zl.sp (l1:=[]) (l2:=[]) R,Zl.sr (l1:=[]) (l2:=[]),R,R⟩ λaE aC w149 K150 S151 f152=>⟨((S145.tr S151).cl R),Ob h λx34 hx34 h=>Jm1 (κ:=K150) (E:=E6) 9 [] R R R R R R R R R Y26 a8 R R R R (f23.stp (T7 S27 S30 S39 S58 S135 S145 S151) R R) (Sl.srcP (cb _) f152.rdc) bJ hx34 R λay ax w154 K155 S156 f157=>⟨((T3 S145 S151 S156).cl R),Jd3 R U92 R Z26<|Jt1<|Ji1 (κ:=K155) 10 (off:=2) (vc:=[.slice ay x34.length ax]) (cs':=[vi x8.1.Kind,.slice ae x8.1.A.length ab,.slice ay x34.length ax]) R R R R R R R Z26 R R (f137.stp (T3 S145 S151 S156) R R) R R λw159 S160 f161=>Tv<|Jo ?_⟩⟩⟩
 cases h
 exact Jw1 _ ⟨(λb=>ren [(19,16)]<|K155 b),ay,ax,R,(Jy2 ((T5 S135 S145 S151 S156 S160).wk R) [(19,16)] R),((f157.stp S160 R R).map (ren [(19,16)]) R R),(((f143.mx m146 R (R:17+2=19)).stp (T3 S151 S156 S160) R R).map (ren [(19,16)]) R R),(f161.map (ren [(19,16)]) R R)⟩<|KM R
 rintro _ w128 ⟨K129,aw,an,rfl,S130,f131,f132,f133⟩
 have h:=hK127
 cases h
 exact Jw1 _ ⟨K129,ae,ab,aw,an,R,S130.wk R,(f22.stp (T5 S27 S30 S39 S58 S130) R R),f131,f132,f133⟩<|KM R
 refine JT λh=>Jx R<|Js1 (κ:=K57) [10] (some 7) [(0,2),(2,2),(1,0),(3,1),(4,1),(5,1),(6,2)] [(7,1)] (by kernel_rfl) (by kernel_rfl) λw98 S97=>Jd3 R U92 R Z26<|Jn 1 R ?_
 have f99:=f31.stp (T3 S39 S58 S97) R R
 refine Jg R (Jc2 I26 R R<|hvC (f99.ld 1 R R) R)<|Ob h λx23 hx23 h=>Jh R R R C37 (lN (κ:=λb=>mp [(16,2)] 0<|K57 b) (p0:=(⟨p0.b,x12.2.1,x12.2.2⟩:l1Cur)) (Jl2 (f52.stp (S58.tr S97) R R) (mp [(16,2)] 0) R R) ((f61.stp S97 R R).map (mp [(16,2)] 0) R R) hx23) ?_
 rintro _ w102 ⟨k103,rfl,e104,f105⟩
 obtain⟨K106,S107,m108⟩:=Ji e104 17 R
 refine⟨(S107.cl R),Jn1 (κ:=K106) (E:=E6) 20 [] (parts:=[(0,.tmp 23)]) (cells:=[vi x23.1]) (xs:=([x23.1]:List Int)) R R R R R R Y26 a8 R R R R R R R R R R ⟨[vi x23.1],[],Zl K106 w102 [],Zl K106 w102 [],R,Zl.sp (l1:=[]) (l2:=[]) R,Zl.sr (l1:=[]) (l2:=[]),R,R⟩ λaD aB w111 K112 S113 f114=>⟨((S107.tr S113).cl R),Ob h λx25 hx25 h=>Jm1 (κ:=K112) (E:=E6) 8 [] R R R R R R R R R Y26 a8 R R R R (f22.stp (T7 S27 S30 S39 S58 S97 S107 S113) R R) (Sl.srcP (cb _) f114.rdc) bJ hx25 R λaA az w116 K117 S118 f119=>⟨((T3 S107 S113 S118).cl R),Jd3 R U92 R Z26<|Jt1<|Ji1 (κ:=K117) 10 (off:=1) (vc:=[.slice aA x25.length az]) (cs':=[vi x8.1.Kind,.slice aA x25.length az,.slice ad x8.1.B.length aa]) R R R R R R R Z26 R R (f99.stp (T3 S107 S113 S118) R R) R R λw121 S122 f123=>Tv<|Jo ?_⟩⟩⟩
 cases h
 exact Jw1 _ ⟨(λb=>ren [(19,16)]<|K117 b),aA,az,ad,aa,R,(Jy2 ((T5 S97 S107 S113 S118 S122).wk R) [(19,16)] R),((f119.stp S122 R R).map (ren [(19,16)]) R R),((f23.stp (T9 S27 S30 S39 S58 S97 S107 S113 S118 S122) R R).map (ren [(19,16)]) R R),(((f105.mx m108 R (R:17+2=19)).stp (T3 S113 S118 S122) R R).map (ren [(19,16)]) R R),(f123.map (ren [(19,16)]) R R)⟩<|KM R
 rintro _ w89 ⟨K90,ap,al,ao,aq,rfl,S91,f92,f93,f94,f95⟩
 have h:=hK88
 cases h
 exact Jw1 _ ⟨K90,ap,al,ao,aq,R,S91.wk R,f92,f93,f94,f95⟩<|KM R
 refine JT λh=>Jx R<|Jh3 [2,1,2,1] 1 R<|Ob h λx16 hx16 h=>Jh R R R C30 (jl (κ:=λb=>mp [(16,2)] 0<|K57 b) (p0:=(⟨p0.b,x12.2.1,x12.2.2⟩:l1Cur)) (Jl2 (f52.stp S58 R R) (mp [(16,2)] 0) R R) (f61.map (mp [(16,2)] 0) R R) hx16) ?_
 rintro _ w72 ⟨k73,rfl,e74,f75⟩
 obtain⟨K76,S77,m78⟩:=Ji e74 17 R
 refine Tv<|Jd3 R U92 R Z2<|Ji1 (κ:=K76) 10 (off:=0) (vc:=[vi x16.1]) (cs':=[vi x16.1,.slice ae x8.1.A.length ab,.slice ad x8.1.B.length aa]) R R R R R R R Z2 R R (f31.stp (T3 S39 S58 S77) R R) R R λw82 S83 f84=>Tv<|Jo ?_
 cases h
 have S001:=(T6 S27 S30 S39 S58 S77 S83)
 exact Jw1 _ ⟨(λb=>ren [(19,16)]<|K76 b),ae,ab,ad,aa,R,(Jy2 ((S77.tr S83).wk R) [(19,16)] R),((f22.stp S001 R R).map (ren [(19,16)]) R R),((f23.stp S001 R R).map (ren [(19,16)]) R R),(((f75.mx m78 R (R:17+2=19)).stp S83 R R).map (ren [(19,16)]) R R),(f84.map (ren [(19,16)]) R R)⟩<|KM R
 rintro _ w63 ⟨K64,au,ar,av,am,rfl,S65,f66,f67,f68,f69⟩
 have h:=hK62
 refine Jz ?_
 cases h
 exact Jw1 _ ⟨(λb=>ren [(16,13)]<|K64 b),au,ar,av,am,R,(Jy2 ((S58.tr S65).wk R) [(16,13)] R),(f66.map (ren [(16,13)]) R R),(f67.map (ren [(16,13)]) R R),(f68.map (ren [(16,13)]) R R),(f69.map (ren [(16,13)]) R R)⟩<|KM R
 rintro _ w44 ⟨K45,ak,ai,aj,ah,rfl,S46,f47,f48,f49,f50⟩
 have h:=hK43
 refine Jp<|Je [1,1] R<|Jl tv R R R R (Jd2 (cs:=[vi q1.2.2.1,.slice ak q1.2.2.2.1.length ai,.slice aj q1.2.2.2.2.length ah]) I92 Z92 R R R<|haE f50.cells)<|Jj1 (κ:=K45) 4 (vc:=[vi q1.2.2.1,.slice ak q1.2.2.2.1.length ai,.slice aj q1.2.2.2.2.length ah]) R R R R R R R Z92 R R (f8.stp (T5 S19 S27 S30 S39 S46) R R) R λw171 S172 f173=>Tv<|Jd<|Ju<|Ja2 (l:=[.cell 4 92]) V51 (bH R f173 I92 Z92 R R) R ?_
 cases h
 exact⟨(λb=>ren [(8,3),(9,4),(13,2)]<|K45 b),ak,ai,aj,ah,R,((hE.stp (T8 S3 S7 S19 S27 S30 S39 S46 S172) R R).map (ren [(8,3),(9,4),(13,2)]) R R),((f47.stp S172 R R).map (ren [(8,3),(9,4),(13,2)]) R R),((f48.stp S172 R R).map (ren [(8,3),(9,4),(13,2)]) R R),((f49.stp S172 R R).map (ren [(8,3),(9,4),(13,2)]) R R)⟩
theorem lP {p0:Sig}{aa ad ab ac}{p1:Det}(g1_0:Rd (Rp.sl (Rp.int .i64)) κ w 0 aa ad p1.Next) (g1_1:Rd Pair.rp κ w 0 ab ac p1.Pairs){r:Bool}(h:ir p0 p1=some r):Ret Try.prog 57 [.agg #[vi p0.In,vi p0.Out],.agg #[.slice aa p1.Next.length ad,.slice ab p1.Pairs.length ac]] w (Pvb κ w r):=by
 unfold ir at h
 refine Jk3 κ F57 R N57 R λhE=>Je [1,1,2] R<|Jf1 (κ:=κ) 2 R R R R R R R λb2 w1 K2 S3 f4=>Tv<|Jf1 (κ:=K2) 3 R R R R R R R λb3 w5 K6 S7 f8=>Tv<|Jb 1 R<|Je [2,1,2,2] R<|Jd3 R U71 R Z27<|Jb3 R I27 (f8.ld 0 R R)<|Jn3 R U27 R R<|Jb 1 R<|Jq<|Je [1,1,2,2,2,1,2,2] R ?_
 have f9:=f4.stp S7 R R
 refine Jl tv R R R R (Jd2 (cs:=[vi p0.In,vi p0.Out]) I25 Z25 R R R<|haE f9.cells)<|Ob h λx11 hx11 h=>Jh R R R C23 (gB (κ:=Mk K6) (p0:=p0) hx11) ?_
 rintro _ w10 ⟨k11,rfl,e12⟩
 obtain⟨K13,S14,m15⟩:=Ji e12 4 R
 refine Tv<|Jn 2 R<|Ob h λp17 h hK17=>Ju1 [(4,2),(5,1),(6,2),(7,2)] [] (λL w'=>L=[(2,.pointer (some ⟨b2,0,none⟩)),(3,.pointer (some ⟨b3,0,none⟩)),(5,vi (p1.Next.length:Int)),(17,.bool p17)]/\∃κ',Stp [] K13 w10 κ' w') tv ?_ ?_
 revert h
 cases ht18:(!x11)
 refine JF λh=>Jn 1 R<|Ob h λx15 hx15 h=>Jh R R R C24 (cF (κ:=Mk K13) hx15) ?_
 rintro _ w19 ⟨k20,rfl,e21⟩
 obtain⟨K22,S23,m24⟩:=Ji e21 6 R
 refine Tv<|Jn 2 R ?_
 cases h
 exact Jv1 _ tv ⟨R,_,S23.wk R⟩<|KM R
 refine JT λh=>Jn 1 R<|Jd1 R R R R<|Jn 2 R ?_
 cases h
 exact Jv1 _ tv ⟨R,_,Jj3⟩<|KM R
 rintro _ w26 _ ⟨rfl,K27,S28⟩
 have h:=hK17
 refine Jd ?_
 revert h
 cases ht29:p17
 refine JF λh=>Jy R<|Js<|Jp<|Jq<|Je3 R ?_
 have hN31:(p1.Next.length:Int)<=9223372036854775807:=g1_0.len_le
 refine Ob h λq2 hq33 hK32=>?_
 clear h
 refine Jx1 (λL w'=>∃κ',L=[(3,.pointer (some ⟨b3,0,none⟩)),(5,vi (p1.Next.length:Int))]/\Stp [] K27 w26 κ' w'/\q2=vq ()) ?_ ?_
 refine Jv<|Jy1 (λk L w'=>∃κ' v6,L=[(2,.pointer (some ⟨b2,0,none⟩)),(3,.pointer (some ⟨b3,0,none⟩)),(5,vi (p1.Next.length:Int)),(6,vi v6)]/\Stp [] K27 w26 κ' w'/\0<=v6/\Int.toNat ((p1.Next.length:Int)-v6)=k/\cntM (jb p0 p1) k v6 ()=some q2) ⟨_,_,⟨K27,0,R,Jj3,(by decide),(by simp),hq33⟩,(KM R)⟩ ?_
 rintro k _ w37 ⟨K38,v6,rfl,S39,hj31,hJ31,h⟩
 rcases k with _ | k
 have hk40:=h;obtain⟨o31,h⟩:=cc (vq (Sum.inl ()):Bool⊕((Unit)⊕(Unit)))
 have hc31:decide (v6<(p1.Next.length:Int))=false:=Jo2 (by omega)
 refine Jq<|Jg3 [2,2,1,2,2] 1 R<|Jd3 R U71 R Z27<|Jb3 R I27 ((f8.stp (T3 S14 S28 S39) R R).ld 0 R R)<|Jn3 R U27 R R<|Jb 1 R<|Jw2 R hc31<|Jc1<|Jt<|Jt ?_
 cases h
 have h:=hk40
 refine Jb1 ?_
 cases h
 exact Jw1 _ ⟨K38,R,S39.wk R,R⟩<|KM R
 obtain⟨o31,h,hk40⟩:=BI h;unfold jb at h
 have hc31:decide (v6<(p1.Next.length:Int))=true:=Jn2 (by omega)
 refine Jq<|Jg3 [2,2,1,2,2] 1 R<|Jd3 R U71 R Z27 ?_
 have f42:=f8.stp (T3 S14 S28 S39) R R
 refine Jb3 R I27 (f42.ld 0 R R)<|Jn3 R U27 R R<|Jb 1 R<|Jv2 R hc31<|Js<|Jp<|Jq<|Jv<|Jq<|Js1 (κ:=K38) [0,2,3] none [(0,2),(2,2),(1,0),(3,2),(4,0),(5,2),(6,0),(7,1),(8,2),(9,2),(10,2),(12,2),(15,2),(11,0),(13,2),(14,0),(16,1),(17,2),(18,2)] [] (by kernel_rfl) (by kernel_rfl) λw44 S43=>Jd3 R U71 R Z27<|Jn 1 R ?_
 have f45:=f42.stp S43 R R
 refine Jg R (Jc2 I27 R R<|hvC (f45.ld 0 R R) R)<|Ob h λx28 hx28 h=>Jc3 R g1_0 hx28 U27 Z26 ?_
 have f46:=g1_0.stp (T6 S3 S7 S14 S28 S39 S43) R R
 obtain⟨ax28,ux28,f47,hl48⟩:=f46.gSl hx28
 refine Jg R (Jc2 I26 R R<|hvC hl48 R)<|Jn3 R U26 R R<|Jg R (Jd2 (cs:=[vi p0.In,vi p0.Out]) I25 Z25 R R R<|haC (f9.stp (T4 S14 S28 S39 S43) R R).cells R)<|Ob h λx32 hx32 h=>Jh R R R C54 (dH (κ:=Mk K38) (p0:=p0) hx32) ?_
 rintro _ w50 ⟨k51,rfl,e52⟩
 obtain⟨K53,S54,m55⟩:=Ji e52 6 R
 refine⟨(S54.cl R),Jn 2 R<|Ob h λp43 h hK57=>Ju1 [(10,2),(12,2),(15,2),(11,0),(13,2),(14,0),(16,1),(17,2),(18,2)] [] (λL w'=>L=[(2,.pointer (some ⟨b2,0,none⟩)),(3,.pointer (some ⟨b3,0,none⟩)),(5,vi (p1.Next.length:Int)),(6,vi v6),(43,.bool p43)]/\∃κ',Stp [] K53 w50 κ' w') (S54.cl R) ?_ ?_⟩
 revert h
 cases ht58:((x28.length:Int) !=x32)
 refine JF λh=>Jd3 R U71 R Z27<|Jn 2 R<|Jg R (Jc2 I27 R R<|hvC (f45.ld 0 R R) R)<|Ob h λx38 hx38 h=>Jc3 R f46 hx38 U27 Z26 ?_
 obtain⟨ax38,ux38,f59,hl60⟩:=f46.gSl hx38
 refine Jg R (Jc2 I26 R R<|hvC hl60 R)<|Ob h λx41 hx41 h=>Jh R R R C21 (gP (κ:=Mk K53) (Ji3<|f59.stp S54 R R) hx41) ?_
 rintro _ w62 ⟨k63,rfl,e64⟩
 obtain⟨K65,S66,m67⟩:=Ji e64 8 R
 refine⟨((S54.tr S66).cl R),Jn 2 R ?_⟩
 cases h
 exact Jv1 _ ((S54.tr S66).cl R) ⟨R,_,S66.wk R⟩<|KM R
 refine JT λh=>Jn 3 R<|Je1 R R R R<|Jn 1 R<|Je1 R R R R<|Jd1 R R R R<|Jn 2 R ?_
 cases h
 exact Jv1 _ (S54.cl R) ⟨R,_,Jj3⟩<|KM R
 rintro _ w69 _ ⟨rfl,K70,S71⟩
 have h:=hK57
 refine Jt1<|Jd ?_
 revert h
 cases ht72:p43
 refine JF λh=>Jy R<|Js<|Jz<|Jp<|Jf3 R ?_
 have hw31:sh .i64 (v6+1)=v6+1:=wr1 hj31 (Jm2 hc31) hN31
 rw[hw31]
 have hc31:=Jm2 hc31
 cases h
 exact Jz1 λa ha=>⟨k,_,Ja3 _,⟨K70,v6+1,R,(T4 S39 S43 S54 S71).wk R,by omega,by omega,hk40⟩,(ha.mm R)⟩
 refine JT λh=>Jx R<|Je3 R<|Ju<|Ja1<|Jw<|Jw ?_
 cases h
 obtain rfl:=Option.some.inj hk40
 have h:=yL hK32
 refine Ja1<|Jq2<|Jw<|Ja2 (l:=[.tmp 4]) V57 (Jp2 R R) R ?_
 cases h
 exact⟨K70,R,(hE.stp (T8 S3 S7 S14 S28 S39 S43 S54 S71) R R)⟩
 rintro _ w34 ⟨K35,rfl,S36,rfl⟩
 have h:=yI hK32
 refine Jp<|Je [2,1,2,1,2] R<|Jd3 R U71 R Z69<|Jb3 R I69 ((f8.stp (T3 S14 S28 S36) R R).ld 1 R R)<|Jn 1 R<|Ob h λx47 hx47 h=>Jh R R R C61 (mv (κ:=Mk K35) (Ji3<|g1_1.stp (T5 S3 S7 S14 S28 S36) R R) hx47) ?_
 rintro _ w76 ⟨k77,rfl,e78⟩
 obtain⟨K79,S80,m81⟩:=Ji e78 6 R
 refine Tv<|Jb 1 R<|Ju<|Ja2 (l:=[.tmp 4]) V57 (Jp2 R R) R ?_
 cases h
 exact⟨K79,R,(hE.stp (T6 S3 S7 S14 S28 S36 S80) R R)⟩
 refine JT λh=>Jx R<|Je3 R<|Ju<|Jw<|Ja2 (l:=[.tmp 4]) V57 (Jp2 R R) R ?_
 cases h
 exact⟨K27,R,(hE.stp (T4 S3 S7 S14 S28) R R)⟩
theorem oe {aM aJ aN aK}{p0:Arena}{a1 u1}{p1:(List Pair)}{p2:Int}(g0_0:Rd (Rp.int .i64) κ w 0 aM aJ p0.Owner) (g0_1:Rd (Rp.sl (Rp.int .i64)) κ w 0 aN aK p0.Next) (g1:Rd Pair.rp κ w 0 a1 u1 p1){r:Parity×(List Place)×Bool}(h:dp p0 p1 p2=some r):Ret Try.prog 45 [.agg #[.slice aM p0.Owner.length aJ,.slice aN p0.Next.length aK],.slice a1 p1.length u1,vi p2] w (λv w'=>∃(κ':Col) (ra0:Option Addr) (ru0:Nat) (ra1:Option Addr) (ru1:Nat) (ra2:Option Addr) (ru2:Nat) (ra3:Option Addr) (ru3:Nat),v= .tuple #[.agg #[.slice ra0 r.1.Arena.Owner.length ru0,.slice ra1 r.1.Arena.Next.length ru1,.slice ra2 r.1.Prio.length ru2],.slice ra3 r.2.1.length ru3,.bool r.2.2]/\Ent κ w κ' w'/\Oc E6 2 κ' w' 2 ra0 ru0 r.1.Arena.Owner/\Oc (Ep.own E6 2) 26 κ' w' 3 ra1 ru1 r.1.Arena.Next/\Oc E6 2 κ' w' 4 ra2 ru2 r.1.Prio/\Oc (Ep.fz Place.rp) 87 κ' w' 5 ra3 ru3 r.2.1):=by
 unfold dp at h
 refine Jk3 κ F45 R N45 R λhE=>Je [1,1,2,2] R<|Jf1 (κ:=κ) 2 R R R R R R R λb3 w1 K2 S3 f4=>Tv<|Jg1 (κ:=K2) 3 R R R R R X79 R λb6 w5 K6 S7 f8=>Tv<|Jb 2 R<|Je [2,1,2,2] R<|Jd3 R U75 R Z26 ?_
 have f9:=f4.stp S7 R R
 refine Jb3 R I26 (f9.ld 0 R R)<|Jn3 R U26 R R<|Jb 1 R<|Jq<|Je [1,1,2,2,2,2,1,2,2,2,2,2,2,1,2,2] R<|Jl tv R R R R (Jd2 (cs:=[.slice aM p0.Owner.length aJ,.slice aN p0.Next.length aK]) I75 Z75 R R R<|haE f9.cells)<|Ob h λx25 hx25 h=>?_
 have f10:=g0_0.stp (S3.tr S7) R R
 have f11:=g0_1.stp (S3.tr S7) R R
 refine Jh R R R C60 (mt (κ:=Mk K6) (p0:=p0) (Ji3 f10) (Ji3 f11) hx25) ?_
 rintro _ w12 ⟨k13,rfl,e14⟩
 obtain⟨K15,S16,m17⟩:=Ji e14 4 R
 refine Tv<|Jn 2 R<|Ob h λp32 h hK19=>Ju1 [(4,2),(5,2),(6,1),(7,2),(8,2)] [(9,2),(10,2),(11,2),(12,2),(13,1),(14,2),(15,2)] (λL w'=>L=[(1,.slice a1 p1.length u1),(2,vi p2),(3,.pointer (some ⟨b3,0,none⟩)),(6,.pointer (some ⟨b6,0,none⟩)),(9,vi (p0.Owner.length:Int)),(32,.bool p32)]/\∃κ',Stp [] K15 w12 κ' w') tv ?_ ?_
 revert h
 cases ht20:(!x25)
 refine JF λh=>Jn 2 R<|Ob h λx30 hx30 h=>Jh R R R C61 (mv (κ:=Mk K15) (Ji3<|g1.stp (T3 S3 S7 S16) R R) hx30) ?_
 rintro _ w22 ⟨k23,rfl,e24⟩
 obtain⟨K25,S26,m27⟩:=Ji e24 6 R
 refine Tv<|Jn 2 R ?_
 cases h
 exact Jv1 _ tv ⟨R,_,S26.wk R⟩<|KM R
 refine JT λh=>Jn 2 R<|Jd1 R R R R<|Jn 2 R ?_
 cases h
 exact Jv1 _ tv ⟨R,_,Jj3⟩<|KM R
 rintro _ w29 _ ⟨rfl,K30,S31⟩
 have h:=hK19
 refine Jn 1 R<|Ob h λp39 h hK32=>Ju1 [(10,2),(11,2),(12,2),(13,1),(14,2),(15,2)] [] (λL w'=>L=[(1,.slice a1 p1.length u1),(2,vi p2),(3,.pointer (some ⟨b3,0,none⟩)),(6,.pointer (some ⟨b6,0,none⟩)),(39,.bool p39)]/\∃κ',Stp [] K30 w29 κ' w') tv ?_ ?_
 revert h
 cases ht33:p32
 refine JF λh=>Jn 3 R<|Ob h λx37 hx37 h=>Jh R R R C24 (cF (κ:=Mk K30) hx37) ?_
 rintro _ w34 ⟨k35,rfl,e36⟩
 obtain⟨K37,S38,m39⟩:=Ji e36 6 R
 refine Tv<|Jn 2 R ?_
 cases h
 exact Jv1 _ tv ⟨R,_,S38.wk R⟩<|KM R
 refine JT λh=>Jn 3 R<|Jd1 R R R R<|Jn 2 R ?_
 cases h
 exact Jv1 _ tv ⟨R,_,Jj3⟩<|KM R
 rintro _ w41 _ ⟨rfl,K42,S43⟩
 have h:=hK32
 refine Jd ?_
 revert h
 cases ht44:p39
 refine JF λh=>Jy R<|Js<|Jp<|Je [1,2] R<|Jo1 (κ:=K42) (E:=E6) 6 R R R R R Y26 a8 R λbe bc w55 K56 S57 f58=>Tv<|Jb 1 R<|Jq<|Je3 R ?_
 have hN59:(p1.length:Int)<=9223372036854775807:=g1.len_le
 refine Ob h λq2 hq61 hK60=>?_
 clear h
 refine Jx1 (λL w'=>∃κ',∃s3:(List Int),∃ad ac,L=[(1,.slice a1 p1.length u1),(2,vi p2),(3,.pointer (some ⟨b3,0,none⟩)),(6,.pointer (some ⟨b6,0,none⟩)),(10,.slice ad s3.length ac)]/\Stp [6] K56 w55 κ' w'/\Oc E6 2 κ' w' 6 ad ac s3/\q2=vq s3) ?_ ?_
 refine Jv<|Jy1 (λk L w'=>∃κ' v11,∃s1:(List Int),∃aA aD,L=[(1,.slice a1 p1.length u1),(2,vi p2),(3,.pointer (some ⟨b3,0,none⟩)),(6,.pointer (some ⟨b6,0,none⟩)),(10,.slice aA s1.length aD),(11,vi v11)]/\Stp [6] K56 w55 κ' w'/\Oc E6 2 κ' w' 6 aA aD s1/\0<=v11/\Int.toNat ((p1.length:Int)-v11)=k/\cntM di k v11 s1=some q2) ⟨_,_,⟨K56,0,(([]:List Int):(List Int)),be,bc,R,Jj3,f58,(by decide),(by simp),hq61⟩,(KM R)⟩ ?_
 rintro k _ w66 ⟨K67,v11,s1,aA,aD,rfl,S68,f69,hj59,hJ59,h⟩
 rcases k with _ | k
 have hk70:=h;obtain⟨o59,h⟩:=cc (vq (Sum.inl s1):(Parity×(List Place)×Bool)⊕(((List Int))⊕((List Int))))
 have hc59:decide (v11<(p1.length:Int))=false:=Jo2 (by omega)
 refine Jq<|Jg3 [2,2,2,2] 2 R<|Jn3 R U69 R R<|Jb 1 R<|Jw2 R hc59<|Jc1<|Jt<|Jt ?_
 cases h
 have h:=hk70
 refine Jb1 ?_
 cases h
 exact Jw1 _ ⟨K67,s1,aA,aD,R,S68.wk R,f69,R⟩<|KM R
 obtain⟨o59,h,hk70⟩:=BI h;unfold di at h
 have hc59:decide (v11<(p1.length:Int))=true:=Jn2 (by omega)
 refine Jq<|Jg3 [2,2,2,2] 2 R<|Jn3 R U69 R R<|Jb 1 R<|Jv2 R hc59<|Js<|Jp<|Jq<|Jv<|Jh3 [2,2,1,1,2] 2 R<|Jn1 (κ:=K67) (E:=E6) 7 [] (parts:=[(0,.tmp 50)]) (cells:=[vi v11]) (xs:=([v11]:List Int)) R R R R R R Y26 a8 R R R R R R R R R R ⟨[vi v11],[],Zl K67 w66 [],Zl K67 w66 [],R,Zl.sp (l1:=[]) (l2:=[]) R,Zl.sr (l1:=[]) (l2:=[]),R,R⟩ λbo bq w71 K72 S73 f74=>Tv<|Ob h λx52 hx52 h=>Jm1 (κ:=K72) (E:=E6) 6 [] R R R R R R R R R Y26 a8 R R R R (f69.stp S73 R R) (Sl.srcP (cb _) f74.rdc) bJ hx52 R λaX ba w76 K77 S78 f79=>Tv<|Jc 1 R<|Jz<|Jp<|Jf3 R ?_
 have hw59:sh .i64 (v11+1)=v11+1:=wr1 hj59 (Jm2 hc59) hN59
 rw[hw59]
 have hc59:=Jm2 hc59
 cases h
 exact Jz1 λa ha=>⟨k,_,Ja3 _,⟨K77,v11+1,x52,aX,ba,R,(T3 S68 S73 S78).wk R,f79,by omega,by omega,hk70⟩,(ha.mm R)⟩
 rintro _ w62 ⟨K63,s3,ad,ac,rfl,S64,f65,rfl⟩
 have h:=yI hK60
 refine Jp<|Jg3 [2,2,2,1,2] 2 R<|Jf R (bF (parts:=[(0,.tmp 53),(1,.tmp 54)]) (cells:=[vi p2,.slice ad s3.length ac]) R R (by kernel_rfl)) ?_
 obtain⟨K80,S81,z82⟩:=kz K63 w62 6
 refine Jn1 (κ:=K80) (E:=(Ep.fz Place.rp)) 7 [] (parts:=[(0,.tmp 55)]) (cells:=[vi p2,.slice ad s3.length ac]) (xs:=([(⟨p2,s3⟩:Place)]:List Place)) R R R R R R Y80 jP R R R R R R R R R R ⟨[vi p2,.slice ad s3.length ac],[],Zl K80 w62 [],Zl K80 w62 [],R,Zl.sp (l1:=[]) (l2:=[]) R,Zl.sr (l1:=[]) (l2:=[]),(Place.mk_rel (x:=(⟨p2,s3⟩:Place))<|Sl.z1<|Sl.st z82 f65.rdc),R⟩ λaY bd w84 K85 S86 f87=>Tv<|Jb 1 R<|Je [2,1,1] R<|Jf R (bF (parts:=[]) (cells:=[.slice none 0 0,.slice none 0 0,.slice none 0 0]) R R (by kernel_rfl))<|Jg1 (κ:=K85) 8 R R R R R X79 R λb13 w88 K89 S90 f91=>Tv<|Jj1 (κ:=K89) 8 (vc:=[.slice none 0 0,.slice none 0 0,.slice none 0 0]) R R R R R R R Z79 R R f91 R λw92 S93 f94=>Tv<|Jd<|Jq<|Je3 R<|Ob h λq5 hq97 hK96=>?_
 clear h
 refine Jx1 (λL w'=>∃κ',∃s6:(List Place)×Int×(List Int)×(List<|List Int)×(List Int),∃ax aH ae af ak aj ah ab,L=[(6,.pointer (some ⟨b6,0,none⟩)),(12,.slice ax s6.1.length aH),(13,.pointer (some ⟨b13,0,none⟩))]/\Stp [7,8,9,10,11,12,16,19,20,21] K89 w92 κ' w'/\Oc (Ep.fz Place.rp) 87 κ' w' 7 ax aH s6.1/\Oc E6 2 κ' w' 9 ae af s6.2.2.1/\Oc (Ep.own E6 2) 26 κ' w' 10 ak aj s6.2.2.2.1/\Oc E6 2 κ' w' 11 ah ab s6.2.2.2.2/\Bc κ' w' 8 b13 79 [.slice ae s6.2.2.1.length af,.slice ak s6.2.2.2.1.length aj,.slice ah s6.2.2.2.2.length ab]/\q5=vq s6) ?_ ?_
 refine Jv<|Jy1 (λk L w'=>∃κ',∃s4:(List Place)×Int×(List Int)×(List<|List Int)×(List Int),∃aw au ay aB av al aa ai,L=[(1,.slice a1 p1.length u1),(3,.pointer (some ⟨b3,0,none⟩)),(6,.pointer (some ⟨b6,0,none⟩)),(12,.slice aw s4.1.length au),(13,.pointer (some ⟨b13,0,none⟩)),(14,vi s4.2.1)]/\Stp [7,8,9,10,11,12,16,19,20,21] K89 w92 κ' w'/\Oc (Ep.fz Place.rp) 87 κ' w' 7 aw au s4.1/\Oc E6 2 κ' w' 9 ay aB s4.2.2.1/\Oc (Ep.own E6 2) 26 κ' w' 10 av al s4.2.2.2.1/\Oc E6 2 κ' w' 11 aa ai s4.2.2.2.2/\Bc κ' w' 8 b13 79 [.slice ay s4.2.2.1.length aB,.slice av s4.2.2.2.1.length al,.slice aa s4.2.2.2.2.length ai]/\bP (dt p0 p1) k s4=some q5) ⟨_,_,⟨K89,((([(⟨p2,s3⟩:Place)]:List Place):(List Place)),(0:Int),(([]:List Int):(List Int)),(([]:List (List Int)):(List<|List Int)),(([]:List Int):(List Int))),aY,bd,none,0,none,0,none,0,R,Jj3,(f87.stp (S90.tr S93) R R),Ow.nil,Ow.nil,Ow.nil,f94,hq97⟩,(KM R)⟩ ?_
 rintro k _ w106 ⟨K107,s4,aw,au,ay,aB,av,al,aa,ai,rfl,S108,f109,f110,f111,f112,f113,h⟩
 rcases k with _ | k
 cases h
 obtain⟨o95,h,hk115⟩:=BI h;unfold dt at h
 refine Jq<|Jg3 [2,2,2,2] 2 R<|Jn3 R U80 R R<|Jb 1 R ?_
 revert h
 cases ht116:decide (s4.2.1<(s4.1.length:Int))
 refine JF λh=>Jy R<|Jc1<|Jt<|Jt ?_
 cases h
 have h:=hk115
 refine Jb1 ?_
 cases h
 exact Jw1 _ ⟨K107,(s4.1,s4.2.1,s4.2.2.1,s4.2.2.2.1,s4.2.2.2.2),aw,au,ay,aB,av,al,aa,ai,R,S108.wk R,f109,f110,f111,f112,f113,R⟩<|KM R
 refine JT λh=>Jx R<|Js<|Jp<|Jq<|Jv<|Jg3 [2,2,2,1,1,1] 2 R<|Ob h λx66 hx66 h=>Jc3 R f109.rdc hx66 U80 Z87 ?_
 obtain⟨cse117,hre117,hle117⟩:=Ow.gZS f109 hx66
 obtain⟨ae117_0,ue117_0,rfl,fe117_0⟩:=Place.un hre117
 refine Jl tv R R R R (Jd2 (cs:=[vi x66.At,.slice ae117_0 x66.Record.length ue117_0]) I87 Z87 R R R<|haE hle117)<|Jg1 (κ:=K107) 12 R R R R R X87 R λb15 w118 K119 S120 f121=>Tv<|Jj1 (κ:=K119) 12 (vc:=[vi x66.At,.slice ae117_0 x66.Record.length ue117_0]) R R R R R R R Z87 R R f121 R λw122 S123 f124=>Tv<|Jd<|Jg3 [2,2,1,2,1,1,2] 1 R<|Jd3 R U87 R Z26<|Jb3 R I26 (f124.ld 1 R R)<|Jd3 R U87 R Z2<|Jb3 R I2 (f124.ld 0 R R)<|Ob h λx73 hx73 h=>?_
 have f125:=g1.stp (T14 S3 S7 S16 S31 S43 S57 S64 S81 S86 S90 S93 S108 S120 S123) R R
 have f126:=fe117_0.stp (S120.tr S123) R R
 refine Jh R R R C62 (pa (κ:=Mk K119) (Ji3 f125) (Ji3 f126) hx73) ?_
 rintro _ w127 ⟨k128,aT,aU,rfl,e129,f130⟩
 obtain⟨K131,S132,m133⟩:=Ji e129 13 R
 refine Tv<|Jb 1 R<|Je [1,2] R<|Jo1 (κ:=K131) (E:=E6) 16 R R R R R Y26 a8 R λbj aZ w136 K137 S138 f139=>Tv<|Jb 1 R<|Jq<|Je3 R<|Ob h λq8 hq142 hK141=>?_
 clear h
 refine Jx1 (λL w'=>∃κ',∃s9:(List Place)×(List Int)×Int,∃aE aG aO aR,L=[(1,.slice a1 p1.length u1),(3,.pointer (some ⟨b3,0,none⟩)),(6,.pointer (some ⟨b6,0,none⟩)),(12,.slice aE s9.1.length aG),(13,.pointer (some ⟨b13,0,none⟩)),(14,vi s4.2.1),(15,.pointer (some ⟨b15,0,none⟩)),(17,.slice aO s9.2.1.length aR)]/\Stp [7,16,19,20] K137 w136 κ' w'/\Oc (Ep.fz Place.rp) 87 κ' w' 7 aE aG s9.1/\Oc E6 2 κ' w' 16 aO aR s9.2.1/\q8=vq s9) ?_ ?_
 refine Jv<|Jy1 (λk L w'=>∃κ',∃s7:(List Place)×(List Int)×Int,∃am ap an ar,L=[(1,.slice a1 p1.length u1),(3,.pointer (some ⟨b3,0,none⟩)),(6,.pointer (some ⟨b6,0,none⟩)),(12,.slice am s7.1.length ap),(13,.pointer (some ⟨b13,0,none⟩)),(14,vi s4.2.1),(15,.pointer (some ⟨b15,0,none⟩)),(16,.slice aT x73.length aU),(17,.slice an s7.2.1.length ar),(18,vi s7.2.2)]/\Stp [7,16,19,20] K137 w136 κ' w'/\Oc (Ep.fz Place.rp) 87 κ' w' 7 am ap s7.1/\Oc E6 2 κ' w' 16 an ar s7.2.1/\bP (eg p0 x66 x73) k s7=some q8) ⟨_,_,⟨K137,(s4.1,(([]:List Int):(List Int)),(0:Int)),aw,au,bj,aZ,R,Jj3,(f109.stp (T4 S120 S123 S132 S138) R R),f139,hq142⟩,(KM R)⟩ ?_
 rintro k _ w148 ⟨K149,s7,am,ap,an,ar,rfl,S150,f151,f152,h⟩
 rcases k with _ | k
 cases h
 obtain⟨o140,h,hk154⟩:=BI h;unfold eg at h
 refine Jq<|Jg3 [2,2,1,2,1,2,1,2,2] 1 R<|Jd3 R U75 R Z27 ?_
 have f155:=f9.stp (T15 S16 S31 S43 S57 S64 S81 S86 S90 S93 S108 S120 S123 S132 S138 S150) R R
 refine Jb3 R I27 (f155.ld 1 R R)<|Jd3 R U87 R Z2 ?_
 have f156:=f124.stp (T3 S132 S138 S150) R R
 refine Jb3 R I2 (f156.ld 0 R R)<|Ob h λx80 hx80 h=>Jc3 R f11 hx80 U27 Z26 ?_
 have f157:=f11.stp (T15 S16 S31 S43 S57 S64 S81 S86 S90 S93 S108 S120 S123 S132 S138 S150) R R
 obtain⟨ax80,ux80,f158,hl159⟩:=f157.gSl hx80
 refine Jb3 R I26 hl159<|Jn3 R U26 R R<|Jb 1 R ?_
 revert h
 cases ht160:decide (s7.2.2<(x80.length:Int))
 refine JF λh=>Jy R<|Jc1<|Jt<|Jt ?_
 cases h
 have h:=hk154
 refine Jb1 ?_
 cases h
 exact Jw1 _ ⟨K149,(s7.1,s7.2.1,s7.2.2),am,ap,an,ar,R,S150.wk R,f151,f152,R⟩<|KM R
 refine JT λh=>Jx R<|Js<|Jp<|Jq<|Jv<|Je [2,1,2,1,2,1,2,2,1,2] R<|Jd3 R U75 R Z27<|Jb3 R I27 (f155.ld 1 R R)<|Jd3 R U87 R Z2<|Jb3 R I2 (f156.ld 0 R R)<|Ob h λx90 hx90 h=>Jc3 R f157 hx90 U27 Z26 ?_
 obtain⟨ax90,ux90,f161,hl162⟩:=f157.gSl hx90
 refine Jb3 R I26 hl162<|Jn 1 R<|Ob h λx93 hx93 h=>Jc3 R f161 hx93 U26 Z2<|Jb3 R I2 (f161.gInt hx93)<|Jb 1 R<|Jg3 [2,2,2,1,2] 3 R<|Ob h λx98 hx98 h=>?_
 have f163:=(f130.mx (bE _) m133 R (R:13+2=15)).stp (S138.tr S150) R R
 refine Jh R R R C63 (pS (κ:=Mk K149) (Ji3 f151.rdc) (Ji3 f163.rdc) hx98) ?_
 rintro _ w164 ⟨k165,rfl,e166⟩
 obtain⟨K167,S168,m169⟩:=Ji e166 17 R
 refine Tv<|Jb 1 R<|Jq<|Je3 R<|Ob h λq10 h hK171=>Jx1 (λL w'=>∃κ',∃z10:(List Place)×Int,∃aC az,L=[(1,.slice a1 p1.length u1),(3,.pointer (some ⟨b3,0,none⟩)),(6,.pointer (some ⟨b6,0,none⟩)),(12,.slice aC z10.1.length az),(13,.pointer (some ⟨b13,0,none⟩)),(14,vi s4.2.1),(15,.pointer (some ⟨b15,0,none⟩)),(16,.slice aT x73.length aU),(17,.slice an s7.2.1.length ar),(18,vi s7.2.2),(20,vi z10.2)]/\Stp [7,19,20] K167 w164 κ' w'/\Oc (Ep.fz Place.rp) 87 κ' w' 7 aC az z10.1/\q10=vq z10) ?_ ?_
 revert h
 cases ht176:decide (x98<0)
 refine JF λh=>Jy R<|Js ?_
 cases h
 exact Jw1 _ ⟨K167,(s7.1,x98),am,ap,R,Jj3,(f151.stp S168 R R),R⟩<|KM R
 refine JT λh=>Jx R<|Jg3 [2,2,2] 1 R<|Jn3 R U80 R R<|Jb 1 R<|Jq<|Je3 R ?_
 revert h
 cases ht177:decide (256<=(s7.1.length:Int))
 refine JF λh=>Jy R<|Js<|Jp<|Jh3 [2,2,1,2,1,2,1,1,2] 2 R<|Jo1 (κ:=K167) (E:=E6) 19 R R R R R Y26 a8 R λbp bx w188 K189 S190 f191=>Tv<|Jn 1 R<|Ob h λx111 hx111 h=>Jm1 (κ:=K189) (E:=E6) 19 [] R R R R R R R R R Y26 a8 R R R R f191 (Sl.srcP (cb _) (f163.stp (S168.tr S190) R R).rdc) bJ hx111 R λaP aS w193 K194 S195 f196=>Tv<|Jf R (bF (parts:=[(0,.tmp 108),(1,.tmp 111)]) (cells:=[vi x93,.slice aP x111.length aS]) R R (by kernel_rfl)) ?_
 obtain⟨K197,S198,z199⟩:=kz K194 w193 19
 refine Jn1 (κ:=K197) (E:=(Ep.fz Place.rp)) 20 [] (parts:=[(0,.tmp 112)]) (cells:=[vi x93,.slice aP x111.length aS]) (xs:=([(⟨x93,x111⟩:Place)]:List Place)) R R R R R R Y80 jP R R R R R R R R R R ⟨[vi x93,.slice aP x111.length aS],[],Zl K197 w193 [],Zl K197 w193 [],R,Zl.sp (l1:=[]) (l2:=[]) R,Zl.sr (l1:=[]) (l2:=[]),(Place.mk_rel (x:=(⟨x93,x111⟩:Place))<|Sl.z1<|Sl.st z199 f196.rdc),R⟩ λbw bz w201 K202 S203 f204=>Tv<|Ob h λx114 hx114 h=>Jm1 (κ:=K202) (E:=(Ep.fz Place.rp)) 7 [20] R R R R R R R R R Y80 jP R R R R (f151.stp (T5 S168 S190 S195 S198 S203) R R) f204.src (fk R) hx114 R λbf bg w206 K207 S208 f209=>Tv<|Jc 1 R ?_
 cases h
 exact Jw1 _ ⟨K207,(x114,((s7.1.length:Int):Int)),bf,bg,R,(T5 S190 S195 S198 S203 S208).wk R,f209,R⟩<|KM R
 refine JT λh=>Jx R<|Je [2,1,1,2,2] R<|Jf R (bF (parts:=[]) (cells:=[.slice none 0 0,.slice none 0 0,.slice none 0 0]) R R (by kernel_rfl))<|Jo1 (κ:=K167) (E:=(Ep.fz Place.rp)) 19 R R R R R Y80 jP R λbh bl w178 K179 S180 f181=>Tv<|Jj1 (κ:=K179) 3 (vc:=[.slice none 0 0,.slice none 0 0,.slice none 0 0]) R R R R R R R Z79 R R (f8.stp (S16.tr<|S31.tr<|S43.tr<|S57.tr<|S64.tr<|S81.tr<|S86.tr<|S90.tr<|S93.tr<|S108.tr<|S120.tr<|S123.tr<|S132.tr<|S138.tr<|S150.tr<|S168.tr S180) R R) R λw183 S184 f185=>Tv<|Jb 2 R<|Ju<|Jw<|Jq2 ?_
 cases h
 have h:=hK171
 dsimp only[aft]at h
 refine Jw<|Ja1<|Jw<|Jw ?_
 cases h
 obtain rfl:=Option.some.inj hk154
 have h:=yL hK141
 refine Ja1<|Jq2<|Jw<|Ja1<|Jw<|Jw ?_
 cases h
 obtain rfl:=Option.some.inj hk115
 have h:=yL hK96
 refine Ja1<|Jq2<|Jw<|Ja2 (l:=[.cell 6 79,.tmp 7,.tmp 8]) V45 (bH R f185 I79 Z79 R<|Jp2 R<|Jp2 R R) R ?_
 cases h
 exact⟨(λb=>ren [(19,5)]<|K179 b),none,0,none,0,none,0,bh,bl,R,((hE.stp (S3.tr<|S7.tr<|S16.tr<|S31.tr<|S43.tr<|S57.tr<|S64.tr<|S81.tr<|S86.tr<|S90.tr<|S93.tr<|S108.tr<|S120.tr<|S123.tr<|S132.tr<|S138.tr<|S150.tr<|S168.tr<|S180.tr S184) R R).map (ren [(19,5)]) R R),Ow.nil,Ow.nil,Ow.nil,((f181.stp S184 R R).map (ren [(19,5)]) R R)⟩
 rintro _ w172 ⟨K173,z10,aC,az,rfl,S174,f175,rfl⟩
 have h:=yI hK171
 refine Jp<|Jh3 [2,2,1,1,2] 2 R<|Jn1 (κ:=K173) (E:=E6) 19 [] (parts:=[(0,.tmp 116)]) (cells:=[vi z10.2]) (xs:=([z10.2]:List Int)) R R R R R R Y26 a8 R R R R R R R R R R ⟨[vi z10.2],[],Zl K173 w172 [],Zl K173 w172 [],R,Zl.sp (l1:=[]) (l2:=[]) R,Zl.sr (l1:=[]) (l2:=[]),R,R⟩ λbr bA w211 K212 S213 f214=>Tv<|Ob h λx118 hx118 h=>Jm1 (κ:=K212) (E:=E6) 16 [] R R R R R R R R R Y26 a8 R R R R (f152.stp (T3 S168 S174 S213) R R) (Sl.srcP (cb _) f214.rdc) bJ hx118 R λbk bb w216 K217 S218 f219=>Tv<|Jc 1 R<|Jz<|Jp<|Jf3 R ?_
 cases h
 exact Jz1 λa ha=>⟨k,_,Ja3 _,⟨K217,(z10.1,x118,((IntKind.i64.wrap<|s7.2.2+1):Int)),aC,az,bk,bb,R,(T5 S150 S168 S174 S213 S218).wk R,(f175.stp (S213.tr S218) R R),f219,hk154⟩,(ha.mm R)⟩
 rintro _ w143 ⟨K144,s9,aE,aG,aO,aR,rfl,S145,f146,f147,rfl⟩
 have h:=yI hK141
 refine Jp<|Jq<|Js1 (κ:=K144) [0,2,8,12] (some 13) [(0,2),(1,2),(3,2),(5,2),(2,0),(4,0),(6,0),(7,2),(8,0),(9,1),(10,1),(11,2),(12,2)] [(13,1)] (by kernel_rfl) (by kernel_rfl) λw222 S221=>Jd3 R U79 R Z75<|Jd3 R U75 R Z26<|Jd3 R U75 R Z26<|Jd3 R U87 R Z2 ?_
 have f223:=f113.stp (T6 S120 S123 S132 S138 S145 S221) R R
 refine Jg R (Jc2 I26 R R<|hvC (f223.ld 0 R R) R)<|Jg R (Jc2 I26 R R<|hvC ((f9.stp (T16 S16 S31 S43 S57 S64 S81 S86 S90 S93 S108 S120 S123 S132 S138 S145 S221) R R).ld 0 R R) R) ?_
 have f225:=f124.stp (T4 S132 S138 S145 S221) R R
 refine Jg R (Jc2 I2 R R<|hvC (f225.ld 0 R R) R)<|Ob h λx126 hx126 h=>Jc3 R f10 hx126 U26 Z2<|Jg R (Jc2 I2 R R<|hvC ((f10.stp (T16 S16 S31 S43 S57 S64 S81 S86 S90 S93 S108 S120 S123 S132 S138 S145 S221) R R).gInt hx126) R)<|Jn1 (κ:=K144) (E:=E6) 17 [] (parts:=[(0,.tmp 127)]) (cells:=[vi x126]) (xs:=([x126]:List Int)) R R R R R R Y26 a8 R R R R R R R R R R ⟨[vi x126],[],Zl K144 w222 [],Zl K144 w222 [],R,Zl.sp (l1:=[]) (l2:=[]) R,Zl.sr (l1:=[]) (l2:=[]),R,R⟩ λbB bv w227 K228 S229 f230=>⟨(S229.cl R),Ob h λx129 hx129 h=>Jm1 (κ:=K228) (E:=E6) 9 [] R R R R R R R R R Y26 a8 R R R R (f110.stp (T7 S120 S123 S132 S138 S145 S221 S229) R R) (Sl.srcP (cb _) f230.rdc) bJ hx129 R λaq ao w232 K233 S234 f235=>⟨((S229.tr S234).cl R),Jd3 R U79 R Z75<|Jd3 R U75 R Z26<|Jt1<|Ji1 (κ:=K233) 8 (off:=0) (vc:=[.slice aq x129.length ao]) (cs':=[.slice aq x129.length ao,.slice av s4.2.2.2.1.length al,.slice aa s4.2.2.2.2.length ai]) R R R R R R R Z26 R R (f223.stp (S229.tr S234) R R) R R λw237 S238 f239=>Tv<|Jd<|Jq<|Js1 (κ:=K233) [8] (some 9) [(0,2),(1,2),(3,2),(2,0),(4,1),(5,1),(6,1),(7,2),(8,2)] [(9,1)] (by kernel_rfl) (by kernel_rfl) λw241 S240=>Jd3 R U79 R Z75<|Jd3 R U75 R Z27<|Jn 1 R ?_⟩⟩
 have f242:=f239.stp S240 R R
 refine Jg R (Jc2 I27 R R<|hvC (f242.ld 1 R R) R)<|Ob h λx136 hx136 h=>Jh R R R C64 (nU (κ:=Mk K233) (Ji3 (f147.stp (T5 S221 S229 S234 S238 S240) R R).rdc) hx136) ?_
 rintro _ w244 ⟨k245,aV,aW,rfl,e246,f247⟩
 obtain⟨K248,S249,m250⟩:=Ji e246 18 R
 refine⟨(S249.cl R),Jn1 (κ:=K248) (E:=(Ep.own E6 2)) 21 [20] (parts:=[(0,.tmp 136)]) (cells:=[.slice aV x136.length aW]) (xs:=([x136]:List (List Int))) R R R R R R Y27 bZ R R R R R R R R R R ⟨[.slice aV x136.length aW],[],Zl K248 w244 [20],Zl K248 w244 [],R,Zl.sp (l1:=[20]) (l2:=[]) R,Zl.sr (l1:=[20]) (l2:=[]),⟨_,_,R,(f247.mx (bE _) m250 R (R:18+2=20))⟩,R⟩ λbn bs w253 K254 S255 f256=>⟨((S249.tr S255).cl R),Ob h λx138 hx138 h=>Jm1 (κ:=K254) (E:=(Ep.own E6 2)) 10 [21] R R R R R R R R R Y27 bZ R R R R (f111.stp (T12 S120 S123 S132 S138 S145 S221 S229 S234 S238 S240 S249 S255) R R) f256.src (fk R) hx138 R λaI aF w258 K259 S260 f261=>⟨((T3 S249 S255 S260).cl R),Jd3 R U79 R Z75<|Jd3 R U75 R Z27<|Jt1<|Ji1 (κ:=K259) 8 (off:=1) (vc:=[.slice aI x138.length aF]) (cs':=[.slice aq x129.length ao,.slice aI x138.length aF,.slice aa s4.2.2.2.2.length ai]) R R R R R R R Z27 R R (f242.stp (T3 S249 S255 S260) R R) R R λw263 S264 f265=>Tv<|Jd<|Js1 (κ:=K259) [8,12] (some 11) [(0,2),(2,2),(3,2),(5,2),(1,0),(4,0),(6,0),(7,1),(8,1),(9,1),(10,2)] [(11,1)] (by kernel_rfl) (by kernel_rfl) λw267 S266=>Jd3 R U79 R Z26<|Jn 1 R<|Jd3 R U87 R Z26<|Jd3 R U87 R Z2 ?_⟩⟩⟩
 have f268:=f265.stp S266 R R
 refine Jg R (Jc2 I26 R R<|hvC (f268.ld 2 R R) R) ?_
 have f269:=f225.stp (T9 S229 S234 S238 S240 S249 S255 S260 S264 S266) R R
 have S001:=(T13 S132 S138 S145 S221 S229 S234 S238 S240 S249 S255 S260 S264 S266)
 refine Jg R (Jc2 I26 R R<|hvC (f269.ld 1 R R) R)<|Jg R (Jc2 I2 R R<|hvC (f269.ld 0 R R) R)<|Ob h λx148 hx148 h=>Jh R R R C65 (oW (κ:=Mk K259) (Ji3<|f125.stp S001 R R) (Ji3<|f126.stp S001 R R) hx148) ?_
 rintro _ w272 ⟨k273,rfl,e274⟩
 obtain⟨K275,S276,m277⟩:=Ji e274 22 R
 refine⟨(S276.cl R),Jn1 (κ:=K275) (E:=E6) 24 [] (parts:=[(0,.tmp 148)]) (cells:=[vi x148]) (xs:=([x148]:List Int)) R R R R R R Y26 a8 R R R R R R R R R R ⟨[vi x148],[],Zl K275 w272 [],Zl K275 w272 [],R,Zl.sp (l1:=[]) (l2:=[]) R,Zl.sr (l1:=[]) (l2:=[]),R,R⟩ λbt bu w279 K280 S281 f282=>⟨((S276.tr S281).cl R),Ob h λx150 hx150 h=>Jm1 (κ:=K280) (E:=E6) 11 [] R R R R R R R R R Y26 a8 R R R R (f112.stp (S120.tr<|S123.tr<|S132.tr<|S138.tr<|S145.tr<|S221.tr<|S229.tr<|S234.tr<|S238.tr<|S240.tr<|S249.tr<|S255.tr<|S260.tr<|S264.tr<|S266.tr<|S276.tr S281) R R) (Sl.srcP (cb _) f282.rdc) bJ hx150 R λaL aQ w284 K285 S286 f287=>⟨((T3 S276 S281 S286).cl R),Jd3 R U79 R Z26<|Jt1<|Ji1 (κ:=K285) 8 (off:=2) (vc:=[.slice aL x150.length aQ]) (cs':=[.slice aq x129.length ao,.slice aI x138.length aF,.slice aL x150.length aQ]) R R R R R R R Z26 R R (f268.stp (T3 S276 S281 S286) R R) R R λw289 S290 f291=>Tv<|Jo<|Jz<|Jp<|Jf3 R ?_⟩⟩⟩
 cases h
 exact Jz1 λa ha=>⟨k,_,Ja3 _,⟨K285,(s9.1,((IntKind.i64.wrap<|s4.2.1+1):Int),x129,x138,x150),aE,aG,aq,ao,aI,aF,aL,aQ,R,(S108.tr<|S120.tr<|S123.tr<|S132.tr<|S138.tr<|S145.tr<|S221.tr<|S229.tr<|S234.tr<|S238.tr<|S240.tr<|S249.tr<|S255.tr<|S260.tr<|S264.tr<|S266.tr<|S276.tr<|S281.tr<|S286.tr S290).wk R,(f146.stp (T14 S221 S229 S234 S238 S240 S249 S255 S260 S264 S266 S276 S281 S286 S290) R R),(f235.stp (T11 S238 S240 S249 S255 S260 S264 S266 S276 S281 S286 S290) R R),(f261.stp (T6 S264 S266 S276 S281 S286 S290) R R),(f287.stp S290 R R),f291,hk115⟩,(ha.mm R)⟩
 rintro _ w98 ⟨K99,s6,ax,aH,ae,af,ak,aj,ah,ab,rfl,S100,f101,f102,f103,f104,f105,rfl⟩
 have h:=yI hK96
 refine Jp<|Je [1,2,1,2,2] R<|Jl tv R R R R (Jd2 (cs:=[.slice ae s6.2.2.1.length af,.slice ak s6.2.2.2.1.length aj,.slice ah s6.2.2.2.2.length ab]) I79 Z79 R R R<|haE f105.cells)<|Jn 1 R<|Jj1 (κ:=K99) 3 (vc:=[.slice ae s6.2.2.1.length af,.slice ak s6.2.2.2.1.length aj,.slice ah s6.2.2.2.2.length ab]) R R R R R R R Z79 R R (f8.stp (T10 S16 S31 S43 S57 S64 S81 S86 S90 S93 S100) R R) R λw297 S298 f299=>Tv<|Jb 2 R<|Ju<|Ja2 (l:=[.cell 6 79,.tmp 7,.tmp 8]) V45 (bH R f299 I79 Z79 R<|Jp2 R<|Jp2 R R) R ?_
 cases h
 exact⟨(λb=>ren [(9,2),(10,3),(11,4),(7,5)]<|K99 b),ae,af,ak,aj,ah,ab,ax,aH,R,((hE.stp (T13 S3 S7 S16 S31 S43 S57 S64 S81 S86 S90 S93 S100 S298) R R).map (ren [(9,2),(10,3),(11,4),(7,5)]) R R),((f102.stp S298 R R).map (ren [(9,2),(10,3),(11,4),(7,5)]) R R),((f103.stp S298 R R).map (ren [(9,2),(10,3),(11,4),(7,5)]) R R),((f104.stp S298 R R).map (ren [(9,2),(10,3),(11,4),(7,5)]) R R),((f101.stp S298 R R).map (ren [(9,2),(10,3),(11,4),(7,5)]) R R)⟩
 refine JT λh=>Jx R<|Je [2,1,1,2,2] R<|Jf R (bF (parts:=[]) (cells:=[.slice none 0 0,.slice none 0 0,.slice none 0 0]) R R (by kernel_rfl))<|Jo1 (κ:=K42) (E:=(Ep.fz Place.rp)) 6 R R R R R Y80 jP R λbm bi w45 K46 S47 f48=>Tv<|Jj1 (κ:=K46) 3 (vc:=[.slice none 0 0,.slice none 0 0,.slice none 0 0]) R R R R R R R Z79 R R (f8.stp (T4 S16 S31 S43 S47) R R) R λw50 S51 f52=>Tv<|Jb 2 R<|Ju<|Jw<|Ja2 (l:=[.cell 6 79,.tmp 7,.tmp 8]) V45 (bH R f52 I79 Z79 R<|Jp2 R<|Jp2 R R) R ?_
 cases h
 exact⟨(λb=>ren [(6,5)]<|K46 b),none,0,none,0,none,0,bm,bi,R,((hE.stp (T7 S3 S7 S16 S31 S43 S47 S51) R R).map (ren [(6,5)]) R R),Ow.nil,Ow.nil,Ow.nil,((f48.stp S51 R R).map (ren [(6,5)]) R R)⟩
theorem qh {ao ay au an aw ax}{p0:Parity}{a1 u1}{p1:(List Int)}(g0_0_0:Rd (Rp.int .i64) κ w 0 ao ay p0.Arena.Owner) (g0_0_1:Rd (Rp.sl (Rp.int .i64)) κ w 0 au an p0.Arena.Next) (g0_1:Rd (Rp.int .i64) κ w 0 aw ax p0.Prio) (g1:Rd (Rp.int .i64) κ w 0 a1 u1 p1){r:Parity×Bool}(h:kT p0 p1=some r):Ret Try.prog 91 [.agg #[.slice ao p0.Arena.Owner.length ay,.slice au p0.Arena.Next.length an,.slice aw p0.Prio.length ax],.slice a1 p1.length u1] w (λv w'=>∃(κ':Col) (ra0:Option Addr) (ru0:Nat) (ra1:Option Addr) (ru1:Nat) (ra2:Option Addr) (ru2:Nat),v= .tuple #[.agg #[.slice ra0 r.1.Arena.Owner.length ru0,.slice ra1 r.1.Arena.Next.length ru1,.slice ra2 r.1.Prio.length ru2],.bool r.2]/\Ent κ w κ' w'/\Oc E6 2 κ' w' 2 ra0 ru0 r.1.Arena.Owner/\Oc (Ep.own E6 2) 26 κ' w' 3 ra1 ru1 r.1.Arena.Next/\Oc E6 2 κ' w' 4 ra2 ru2 r.1.Prio):=by
 unfold kT at h
 refine Jk3 κ F91 R N91 R λhE=>Je [1,1,2] R<|Jf1 (κ:=κ) 2 R R R R R R R λb2 w1 K2 S3 f4=>Tv<|Jg1 (κ:=K2) 3 R R R R R X79 R λb4 w5 K6 S7 f8=>Tv<|Jb 1 R<|Jq<|Je [1,1,2,2,1,2,1,2,2] R ?_
 have f9:=f4.stp S7 R R
 refine Jl tv R R R R (Jd2 (cs:=[.slice ao p0.Arena.Owner.length ay,.slice au p0.Arena.Next.length an,.slice aw p0.Prio.length ax]) I79 Z79 R R R<|haE f9.cells)<|Ob h λx10 hx10 h=>?_
 have f10:=g0_0_0.stp (S3.tr S7) R R
 have f11:=g0_0_1.stp (S3.tr S7) R R
 have f12:=g0_1.stp (S3.tr S7) R R
 refine Jh R R R C66 (lG (κ:=Mk K6) (p0:=p0) (Ji3 f10) (Ji3 f11) (Ji3 f12) hx10) ?_
 rintro _ w13 ⟨k14,rfl,e15⟩
 obtain⟨K16,S17,m18⟩:=Ji e15 4 R
 refine Tv<|Jn 2 R<|Ob h λp17 h hK20=>Ju1 [(4,1),(5,2),(6,1),(7,2),(8,2)] [] (λL w'=>L=[(1,.slice a1 p1.length u1),(2,.pointer (some ⟨b2,0,none⟩)),(4,.pointer (some ⟨b4,0,none⟩)),(17,.bool p17)]/\∃κ',Stp [] K16 w13 κ' w') tv ?_ ?_
 revert h
 cases ht21:(!x10)
 refine JF λh=>Jl tv R R R R (Jd2 (cs:=[.slice ao p0.Arena.Owner.length ay,.slice au p0.Arena.Next.length an,.slice aw p0.Prio.length ax]) I79 Z79 R R R<|haE (f9.stp S17 R R).cells)<|Jn 1 R<|Ob h λx15 hx15 h=>Jh R R R C96 (pE (κ:=Mk K16) (p0:=p0) (Ji3<|f10.stp S17 R R) (Ji3<|f11.stp S17 R R) (Ji3<|f12.stp S17 R R) (Ji3<|g1.stp (T3 S3 S7 S17) R R) hx15) ?_
 rintro _ w27 ⟨k28,rfl,e29⟩
 obtain⟨K30,S31,m32⟩:=Ji e29 6 R
 refine Tv<|Jn 2 R ?_
 cases h
 exact Jv1 _ tv ⟨R,_,S31.wk R⟩<|KM R
 refine JT λh=>Jd1 R R R R<|Jn 1 R<|Jd1 R R R R<|Jn 2 R ?_
 cases h
 exact Jv1 _ tv ⟨R,_,Jj3⟩<|KM R
 rintro _ w34 _ ⟨rfl,K35,S36⟩
 have h:=hK20
 refine Jd ?_
 revert h
 cases ht37:p17
 refine JF λh=>Jy R<|Js<|Jp<|Jq<|Ob h λx22 hx22 h=>Ob h λx26 hx26 h=>Jx1 (λL w'=>∃κ' b6 ai af ar ap ae ah,L=[(1,.slice a1 p1.length u1),(2,.pointer (some ⟨b2,0,none⟩)),(4,.pointer (some ⟨b4,0,none⟩)),(6,.pointer (some ⟨b6,0,none⟩))]/\Stp [6,8,9,11,12] K35 w34 κ' w'/\Oc E6 2 κ' w' 6 ai af (((⟨(⟨x22,([]:List (List Int))⟩:Arena),x26⟩:Parity).Arena).Owner)/\Oc (Ep.own E6 2) 26 κ' w' 7 ar ap (((⟨(⟨x22,([]:List (List Int))⟩:Arena),x26⟩:Parity).Arena).Next)/\Oc E6 2 κ' w' 8 ae ah ((⟨(⟨x22,([]:List (List Int))⟩:Arena),x26⟩:Parity).Prio)/\Bc κ' w' 9 b6 79 [.slice ai (((⟨(⟨x22,([]:List (List Int))⟩:Arena),x26⟩:Parity).Arena).Owner).length af,.slice ar (((⟨(⟨x22,([]:List (List Int))⟩:Arena),x26⟩:Parity).Arena).Next).length ap,.slice ae ((⟨(⟨x22,([]:List (List Int))⟩:Arena),x26⟩:Parity).Prio).length ah]) ?_ ?_
 refine WC.rxt (κ:=K35) [2] none (by kernel_rfl) λw51 S52=>Jq1 (fuel:=6) [(0,2),(1,2),(5,2),(2,0),(6,0)] (by kernel_rfl) (by kernel_rfl) R<|Jd3 R U79 R Z75<|Jd3 R U75 R Z26<|Jd3 R U79 R Z26 ?_
 have f53:=f9.stp (T3 S17 S36 S52) R R
 refine Jg R (Jc2 I26 R R<|hvC (f53.ld 0 R R) R)<|Jg R (Jc2 I26 R R<|hvC (f53.ld 2 R R) R)<|Jp1<|WA.fork2 (fuel:=5) 3 9 (by kernel_rfl) R ?_ ?_
 refine Jh R R R C59 (df (κ:=Mk K35) (Ji3<|f10.stp (T3 S17 S36 S52) R R) hx22) ?_
 rintro _ w55 ⟨k56,ab,aa,rfl,e57,f58⟩
 obtain⟨K59,S60,m61⟩:=Ji e57 6 R
 refine⟨(S60.cl R),?_⟩
 have f63:=f58.mx (bE _) m61 R (R:6+2=8)
 refine Jp1<|Jq1 (fuel:=4) [(4,2)] (by kernel_rfl) (by kernel_rfl) R<|Jf R (bF (parts:=[(0,.tmp 22)]) (cells:=[.slice ab x22.length aa,.slice none 0 0]) R R (by kernel_rfl))<|Jp1<|WA.fork2 (fuel:=3) 7 9 (by kernel_rfl) R ?_ ?_
 refine Jh R R R C59 (df (κ:=Mk K59) (Ji3<|f12.stp (T4 S17 S36 S52 S60) R R) hx26) ?_
 rintro _ w65 ⟨k66,ad,ac,rfl,e67,f68⟩
 obtain⟨K69,S70,m71⟩:=Ji e67 9 R
 exact⟨((S60.tr S70).cl R),Jp1<|Jq1 (fuel:=0) [(8,2),(9,1),(10,1)] (by kernel_rfl) (by kernel_rfl) R<|Jf R (bF (parts:=[(0,.tmp 23),(1,.tmp 26)]) (cells:=[.slice ab x22.length aa,.slice none 0 0,.slice ad x26.length ac]) R R (by kernel_rfl))<|Jg1 (κ:=K69) 12 R R R R R X79 R λb6 w74 K75 S76 f77=>⟨((T3 S60 S70 S76).cl R),Jj1 (κ:=K75) 12 (vc:=[.slice ab x22.length aa,.slice none 0 0,.slice ad x26.length ac]) R R R R R R R Z79 R R f77 R λw78 S79 f80=>⟨((T4 S60 S70 S76 S79).cl R),Jp1<|Jr1 [] (by kernel_rfl) (by kernel_rfl) R<|Jo<|Jw1 _ ⟨(λb=>ren [(8,6),(11,8),(12,9)]<|K75 b),b6,ab,aa,none,0,ad,ac,R,(Jy2 ((T5 S52 S60 S70 S76 S79).wk R) [(8,6),(11,8),(12,9)] R),((f63.stp (T3 S70 S76 S79) R R).map (ren [(8,6),(11,8),(12,9)]) R R),Ow.nil,(((f68.mx (bE _) m71 R (R:9+2=11)).stp (S76.tr S79) R R).map (ren [(8,6),(11,8),(12,9)]) R R),(f80.map (ren [(8,6),(11,8),(12,9)]) R R)⟩<|KM R⟩⟩⟩
 refine Jg1 (κ:=K59) 9 R R R R R X79 R λb6 w83 K84 S85 f86=>⟨((S60.tr S85).cl R),Jp1<|Jq1 (fuel:=0) [(7,1),(8,2),(10,1)] (by kernel_rfl) (by kernel_rfl) R<|Jh R R R C59 (df (κ:=Mk K84) (Ji3<|f12.stp (T5 S17 S36 S52 S60 S85) R R) hx26) ?_⟩
 rintro _ w88 ⟨k89,ad,ac,rfl,e90,f91⟩
 obtain⟨K92,S93,m94⟩:=Ji e90 10 R
 exact⟨((T3 S60 S85 S93).cl R),Jf R (bF (parts:=[(0,.tmp 23),(1,.tmp 26)]) (cells:=[.slice ab x22.length aa,.slice none 0 0,.slice ad x26.length ac]) R R (by kernel_rfl))<|Jj1 (κ:=K92) 9 (vc:=[.slice ab x22.length aa,.slice none 0 0,.slice ad x26.length ac]) R R R R R R R Z79 R R (f86.stp S93 R R) R λw98 S99 f100=>⟨((T4 S60 S85 S93 S99).cl R),Jp1<|Jr1 [] (by kernel_rfl) (by kernel_rfl) R<|Jo<|Jw1 _ ⟨(λb=>ren [(8,6),(12,8)]<|K92 b),b6,ab,aa,none,0,ad,ac,R,(Jy2 ((T5 S52 S60 S85 S93 S99).wk R) [(8,6),(12,8)] R),((f63.stp (T3 S85 S93 S99) R R).map (ren [(8,6),(12,8)]) R R),Ow.nil,(((f91.mx (bE _) m94 R (R:10+2=12)).stp S99 R R).map (ren [(8,6),(12,8)]) R R),(f100.map (ren [(8,6),(12,8)]) R R)⟩<|KM R⟩⟩
 refine Jg1 (κ:=K35) 6 R R R R R X79 R λb6 w103 K104 S105 f106=>⟨(S105.cl R),Jp1<|Jq1 (fuel:=0) [(3,1),(4,2),(7,1),(8,2),(10,1)] (by kernel_rfl) (by kernel_rfl) R<|Jh R R R C59 (df (κ:=Mk K104) (Ji3<|f10.stp (T4 S17 S36 S52 S105) R R) hx22) ?_⟩
 rintro _ w108 ⟨k109,ab,aa,rfl,e110,f111⟩
 obtain⟨K112,S113,m114⟩:=Ji e110 7 R
 refine⟨((S105.tr S113).cl R),Jf R (bF (parts:=[(0,.tmp 22)]) (cells:=[.slice ab x22.length aa,.slice none 0 0]) R R (by kernel_rfl))<|Jh R R R C59 (df (κ:=Mk K112) (Ji3<|f12.stp (T5 S17 S36 S52 S105 S113) R R) hx26) ?_⟩
 rintro _ w118 ⟨k119,ad,ac,rfl,e120,f121⟩
 obtain⟨K122,S123,m124⟩:=Ji e120 10 R
 have S001:=(T3 S105 S113 S123)
 exact⟨(S001.cl R),Jf R (bF (parts:=[(0,.tmp 23),(1,.tmp 26)]) (cells:=[.slice ab x22.length aa,.slice none 0 0,.slice ad x26.length ac]) R R (by kernel_rfl))<|Jj1 (κ:=K122) 6 (vc:=[.slice ab x22.length aa,.slice none 0 0,.slice ad x26.length ac]) R R R R R R R Z79 R R (f106.stp (S113.tr S123) R R) R λw128 S129 f130=>⟨((S001.tr S129).cl R),Jp1<|Jr1 [] (by kernel_rfl) (by kernel_rfl) R<|Jo<|Jw1 _ ⟨(λb=>ren [(9,6),(12,8),(6,9)]<|K122 b),b6,ab,aa,none,0,ad,ac,R,(Jy2 ((T5 S52 S105 S113 S123 S129).wk R) [(9,6),(12,8),(6,9)] R),(((f111.mx (bE _) m114 R (R:7+2=9)).stp (S123.tr S129) R R).map (ren [(9,6),(12,8),(6,9)]) R R),Ow.nil,(((f121.mx (bE _) m124 R (R:10+2=12)).stp S129 R R).map (ren [(9,6),(12,8),(6,9)]) R R),(f130.map (ren [(9,6),(12,8),(6,9)]) R R)⟩<|KM R⟩⟩
 rintro _ w43 ⟨K44,b6,ai,af,ar,ap,ae,ah,rfl,S45,f47,f48,f49,f50⟩
 refine Jp<|Jq<|Je3 R ?_
 have hN133:(p1.length:Int)<=9223372036854775807:=g1.len_le
 refine Ob h λq2 hq135 hK134=>?_
 clear h
 refine Jx1 (λL w'=>∃κ',∃s3:(List<|List Int),∃ak aj,L=[(4,.pointer (some ⟨b4,0,none⟩)),(6,.pointer (some ⟨b6,0,none⟩))]/\Stp [7,9,12,13] K44 w43 κ' w'/\Oc (Ep.own E6 2) 26 κ' w' 7 ak aj s3/\Bc κ' w' 9 b6 79 [.slice ai (((⟨(⟨x22,([]:List (List Int))⟩:Arena),x26⟩:Parity).Arena).Owner).length af,.slice ak s3.length aj,.slice ae ((⟨(⟨x22,([]:List (List Int))⟩:Arena),x26⟩:Parity).Prio).length ah]/\q2=vq s3) ?_ ?_
 refine Jv<|Jy1 (λk L w'=>∃κ' v7,∃s1:(List<|List Int),∃av aq,L=[(1,.slice a1 p1.length u1),(2,.pointer (some ⟨b2,0,none⟩)),(4,.pointer (some ⟨b4,0,none⟩)),(6,.pointer (some ⟨b6,0,none⟩)),(7,vi v7)]/\Stp [7,9,12,13] K44 w43 κ' w'/\Oc (Ep.own E6 2) 26 κ' w' 7 av aq s1/\Bc κ' w' 9 b6 79 [.slice ai (((⟨(⟨x22,([]:List (List Int))⟩:Arena),x26⟩:Parity).Arena).Owner).length af,.slice av s1.length aq,.slice ae ((⟨(⟨x22,([]:List (List Int))⟩:Arena),x26⟩:Parity).Prio).length ah]/\0<=v7/\Int.toNat ((p1.length:Int)-v7)=k/\cntM (hH p0 p1) k v7 s1=some q2) ⟨_,_,⟨K44,0,(((⟨(⟨x22,([]:List (List Int))⟩:Arena),x26⟩:Parity).Arena).Next:(List<|List Int)),ar,ap,R,Jj3,f48,f50,(by decide),(by simp),hq135⟩,(KM R)⟩ ?_
 rintro k _ w141 ⟨K142,v7,s1,av,aq,rfl,S143,f144,f145,hj133,hJ133,h⟩
 rcases k with _ | k
 have hk146:=h;obtain⟨o133,h⟩:=cc (vq (Sum.inl s1):(Parity×Bool)⊕(((List (List Int)))⊕((List (List Int)))))
 have hc133:decide (v7<(p1.length:Int))=false:=Jo2 (by omega)
 refine Jq<|Jg3 [2,2,2,2] 2 R<|Jn3 R U26 R R<|Jb 1 R<|Jw2 R hc133<|Jc1<|Jt<|Jt ?_
 cases h
 have h:=hk146
 refine Jb1 ?_
 cases h
 exact Jw1 _ ⟨K142,s1,av,aq,R,S143.wk R,f144,f145,R⟩<|KM R
 obtain⟨o133,h,hk146⟩:=BI h;unfold hH at h
 have hc133:decide (v7<(p1.length:Int))=true:=Jn2 (by omega)
 refine Jq<|Jg3 [2,2,2,2] 2 R<|Jn3 R U26 R R<|Jb 1 R<|Jv2 R hc133<|Js<|Jp<|Jq<|Jv<|Je [2,2,1,2,2,1,1,2] R<|Jd3 R U79 R Z75<|Jd3 R U75 R Z27<|Jb3 R I27 ((f9.stp (T4 S17 S36 S45 S143) R R).ld 1 R R)<|Jn 1 R<|Ob h λx38 hx38 h=>Jc3 R f11 hx38 U27 Z26 ?_
 obtain⟨ax38,ux38,f149,hl150⟩:=(f11.stp (T4 S17 S36 S45 S143) R R).gSl hx38
 refine Jb3 R I26 hl150<|Ob h λx40 hx40 h=>Jh R R R C59 (df (κ:=Mk K142) (Ji3 f149) hx40) ?_
 rintro _ w151 ⟨k152,aD,aC,rfl,e153,f154⟩
 obtain⟨K155,S156,m157⟩:=Ji e153 10 R
 refine Tv<|Jb 1 R<|Jq<|Jg3 [2,2,2,1,2] 2 R<|Ob h λx43 hx43 h=>Jc3 R g1 hx43 U26 Z2 ?_
 have f160:=g1.stp (T7 S3 S7 S17 S36 S45 S143 S156) R R
 refine Jb3 R I2 (f160.gInt hx43)<|Jb 1 R<|Ob h λq4 h hK161=>Jx1 (λL w'=>∃κ' al am,L=[(1,.slice a1 p1.length u1),(2,.pointer (some ⟨b2,0,none⟩)),(4,.pointer (some ⟨b4,0,none⟩)),(6,.pointer (some ⟨b6,0,none⟩)),(7,vi v7),(8,.slice al q4.length am)]/\Stp [13] K155 w151 κ' w'/\Oc E6 2 κ' w' 12 al am q4) ?_ ?_
 revert h
 cases ht166:decide (0<=x43)
 refine JF λh=>Jy R<|Js ?_
 cases h
 exact Jw1 _ ⟨K155,aD,aC,R,Jj3,(f154.mx (bE _) m157 R (R:10+2=12))⟩<|KM R
 refine JT λh=>Jx R<|Jh3 [2,2,2,1,1,2] 2 R<|Ob h λx48 hx48 h=>Jc3 R f160 hx48 U26 Z2<|Jb3 R I2 (f160.gInt hx48)<|Jn1 (κ:=K155) (E:=E6) 13 [] (parts:=[(0,.tmp 49)]) (cells:=[vi x48]) (xs:=([x48]:List Int)) R R R R R R Y26 a8 R R R R R R R R R R ⟨[vi x48],[],Zl K155 w151 [],Zl K155 w151 [],R,Zl.sp (l1:=[]) (l2:=[]) R,Zl.sr (l1:=[]) (l2:=[]),R,R⟩ λaE aB w167 K168 S169 f170=>Tv<|Jc 1 R ?_
 cases h
 exact Jw1 _ ⟨(λb=>ren [(13,12)]<|K168 b),aE,aB,R,(Jy2 (S169.wk R) [(13,12)] R),(f170.map (ren [(13,12)]) R R)⟩<|KM R
 rintro _ w162 ⟨K163,al,am,rfl,S164,f165⟩
 have h:=hK161
 refine Jp<|Ja [2,2,1,2,1,1,2,2,1] R<|Jd3 R U79 R Z75<|Jd3 R U75 R Z27 ?_
 have f171:=f145.stp (S156.tr S164) R R
 refine Jb3 R I27 (f171.ld 1 R R)<|Jn 1 R<|Jn1 (κ:=K163) (E:=(Ep.own E6 2)) 13 [12] (parts:=[(0,.tmp 54)]) (cells:=[.slice al q4.length am]) (xs:=([q4]:List (List Int))) R R R R R R Y27 bZ R R R R R R R R R R ⟨[.slice al q4.length am],[],Zl K163 w162 [12],Zl K163 w162 [],R,Zl.sp (l1:=[12]) (l2:=[]) R,Zl.sr (l1:=[12]) (l2:=[]),⟨_,_,R,f165⟩,R⟩ λaG aF w172 K173 S174 f175=>Tv<|Ob h λx56 hx56 h=>Jm1 (κ:=K173) (E:=(Ep.own E6 2)) 7 [13] R R R R R R R R R Y27 bZ R R R R (f144.stp (T3 S156 S164 S174) R R) f175.src (fk R) hx56 R λaA az w177 K178 S179 f180=>Tv<|Jd3 R U79 R Z75<|Jd3 R U75 R Z27<|Ji1 (κ:=K178) 9 (off:=1) (vc:=[.slice aA x56.length az]) (cs':=[.slice ai (((⟨(⟨x22,([]:List (List Int))⟩:Arena),x26⟩:Parity).Arena).Owner).length af,.slice aA x56.length az,.slice ae ((⟨(⟨x22,([]:List (List Int))⟩:Arena),x26⟩:Parity).Prio).length ah]) R R R R R R R Z27 R R (f171.stp (S174.tr S179) R R) R R λw182 S183 f184=>Tv<|Jo<|Jz<|Jp<|Jf3 R ?_
 have hw133:sh .i64 (v7+1)=v7+1:=wr1 hj133 (Jm2 hc133) hN133
 rw[hw133]
 have hc133:=Jm2 hc133
 cases h
 exact Jz1 λa ha=>⟨k,_,Ja3 _,⟨K178,v7+1,x56,aA,az,R,(T6 S143 S156 S164 S174 S179 S183).wk R,(f180.stp S183 R R),f184,by omega,by omega,hk146⟩,(ha.mm R)⟩
 rintro _ w136 ⟨K137,s3,ak,aj,rfl,S138,f139,f140,rfl⟩
 have h:=yI hK134
 refine Jp<|Je [1,1,2] R<|Jl tv R R R R (Jd2 (cs:=[.slice ai (((⟨(⟨x22,([]:List (List Int))⟩:Arena),x26⟩:Parity).Arena).Owner).length af,.slice ak s3.length aj,.slice ae ((⟨(⟨x22,([]:List (List Int))⟩:Arena),x26⟩:Parity).Prio).length ah]) I79 Z79 R R R<|haE f140.cells)<|Jj1 (κ:=K137) 3 (vc:=[.slice ai (((⟨(⟨x22,([]:List (List Int))⟩:Arena),x26⟩:Parity).Arena).Owner).length af,.slice ak s3.length aj,.slice ae ((⟨(⟨x22,([]:List (List Int))⟩:Arena),x26⟩:Parity).Prio).length ah]) R R R R R R R Z79 R R (f8.stp (T4 S17 S36 S45 S138) R R) R λw187 S188 f189=>Tv<|Jb 1 R<|Ju<|Ja2 (l:=[.cell 4 79,.tmp 5]) V91 (bH R f189 I79 Z79 R<|Jp2 R R) R ?_
 cases h
 exact⟨(λb=>ren [(6,2),(7,3),(8,4)]<|K137 b),ai,af,ak,aj,ae,ah,R,((hE.stp (T7 S3 S7 S17 S36 S45 S138 S188) R R).map (ren [(6,2),(7,3),(8,4)]) R R),((f47.stp (S138.tr S188) R R).map (ren [(6,2),(7,3),(8,4)]) R R),((f139.stp S188 R R).map (ren [(6,2),(7,3),(8,4)]) R R),((f49.stp (S138.tr S188) R R).map (ren [(6,2),(7,3),(8,4)]) R R)⟩
 refine JT λh=>Jx R<|Je [2,1,2] R<|Jf R (bF (parts:=[]) (cells:=[.slice none 0 0,.slice none 0 0,.slice none 0 0]) R R (by kernel_rfl))<|Jj1 (κ:=K35) 3 (vc:=[.slice none 0 0,.slice none 0 0,.slice none 0 0]) R R R R R R R Z79 R R (f8.stp (S17.tr S36) R R) R λw39 S40 f41=>Tv<|Jb 1 R<|Ju<|Jw<|Ja2 (l:=[.cell 4 79,.tmp 5]) V91 (bH R f41 I79 Z79 R<|Jp2 R R) R ?_
 cases h
 exact⟨K35,none,0,none,0,none,0,R,(hE.stp (T5 S3 S7 S17 S36 S40) R R),Ow.nil,Ow.nil,Ow.nil⟩
theorem qC {af ak aj ad ae ac ah ai aa ab}{p0:l7Game}{a1 u1}{p1:(List Bool)}{p2:Int}(g0_0:Rd (Rp.int .i64) κ w 0 af ak p0.owner) (g0_1:Rd (Rp.int .i64) κ w 0 aj ad p0.prio) (g0_2:Rd (Rp.sl (Rp.int .i64)) κ w 0 ae ac p0.next) (g0_3:Rd (Rp.sl (Rp.int .i64)) κ w 0 ah ai p0.prev) (g0_4:Oc E6 2 κ w 2 aa ab p0.pick) (g1:Rd Rp.bool κ w 0 a1 u1 p1){r:Int×(List Int)}(h:kF p0 p1 p2=some r):Ret Try.prog 85 [.agg #[.slice af p0.owner.length ak,.slice aj p0.prio.length ad,.slice ae p0.next.length ac,.slice ah p0.prev.length ai,.slice aa p0.pick.length ab],.slice a1 p1.length u1,vi p2] w (λv w'=>∃(κ':Col),v=vi r.1/\Ent κ w κ' w'/\Oc E6 2 κ' w' 2 aa ab r.2/\p0.pick.length=r.2.length):=by
 unfold kF at h
 refine Jk3 κ F85 R N85 R λhE=>Je [1,2] R<|Jf1 (κ:=κ) 3 R R R R R R R λb3 w1 K2 S3 f4=>Tv<|Jb 1 R<|Jq<|Je3 R<|Ob h λq2 hq7 hK6=>?_
 clear h
 refine Jx1 (λL w'=>∃κ',∃s3:Int×(List Int),L=[]/\Stp [2] K2 w1 κ' w'/\Oc E6 2 κ' w' 2 aa ab s3.2/\p0.pick.length=s3.2.length/\q2=vq s3) ?_ ?_
 refine Jv<|Jy1 (λk L w'=>∃κ',∃s1:Int×(List Int),L=[(1,.slice a1 p1.length u1),(2,vi p2),(3,.pointer (some ⟨b3,0,none⟩)),(7,vi s1.1)]/\Stp [2] K2 w1 κ' w'/\Oc E6 2 κ' w' 2 aa ab s1.2/\p0.pick.length=s1.2.length/\bP (gX p0 p1 p2) k s1=some q2) ⟨_,_,⟨K2,((0:Int),p0.pick),R,Jj3,(g0_4.stp S3 R R),R,hq7⟩,(KM R)⟩ ?_
 rintro k _ w13 ⟨K14,s1,rfl,S15,f16,hn17,h⟩
 rcases k with _ | k
 cases h
 obtain⟨o5,h,hk19⟩:=BI h;unfold gX at h
 refine Jq<|Jg3 [2,2,1,2,2,1,2,2] 1 R<|Jd3 R U121 R Z27 ?_
 have f20:=f4.stp S15 R R
 refine Jb3 R I27 (f20.ld 2 R R)<|Jn 1 R<|Ob h λx13 hx13 h=>Jc3 R g0_2 hx13 U27 Z26 ?_
 have f21:=g0_2.stp (S3.tr S15) R R
 obtain⟨ax13,ux13,f22,hl23⟩:=f21.gSl hx13
 refine Jb3 R I26 hl23<|Jn3 R U26 R R<|Jb 1 R ?_
 revert h
 cases ht24:decide (s1.1<(x13.length:Int))
 refine JF λh=>Jy R<|Jc1<|Jt<|Jt ?_
 cases h
 have h:=hk19
 refine Jb1 ?_
 cases h
 exact Jw1 _ ⟨K14,(s1.1,s1.2),R,S15.wk R,f16,hn17,R⟩ KN
 refine JT λh=>Jx R<|Js<|Jp<|Jq<|Jv<|Je [2,1,2,2,1,2,2,1,2] R<|Jd3 R U121 R Z27<|Jb3 R I27 (f20.ld 2 R R)<|Jn 1 R<|Ob h λx22 hx22 h=>Jc3 R f21 hx22 U27 Z26 ?_
 obtain⟨ax22,ux22,f25,hl26⟩:=f21.gSl hx22
 refine Jb3 R I26 hl26<|Jn 1 R<|Ob h λx25 hx25 h=>Jc3 R f25 hx25 U26 Z2<|Jb3 R I2 (f25.gInt hx25)<|Jb 1 R<|Jq<|Jg3 [2,2,2,1,2] 2 R<|Ob h λx29 hx29 h=>Jc3 R g1 hx29 U123 Z4 ?_
 have f27:=g1.stp (S3.tr S15) R R
 refine Jb3 R I4 (f27.gBool hx29)<|Jb 1 R ?_
 revert h
 cases ht28:(!x29)
 refine JF λh=>Jy R<|Js<|Jp<|Je [2,1,2,2,2,1] R<|Jd3 R U121 R Z26<|Jb3 R I26 (f20.ld 4 R R)<|Jn 2 R<|Ob h λx36 hx36 h=>Jf R (Jf2 f16.rdc hx36 U26 Z2 R R hn17 R)<|Ob h λy265 hy265 h=>Jk1 (κ:=K14) (E:=E6) 2 [] R R R R R R R R Z2 R R R R f16 hy265 λw29 K30 S31 f32=>Tv<|?_
 have hn33:p0.pick.length=y265.length:=hn17.trans (Jt2 hy265).2.2.2.symm
 refine Jd<|Jq<|Js1 (κ:=K30) [0,3] none [(1,2),(2,2),(4,2),(0,0),(3,0),(5,2),(6,0),(7,1)] [] (by kernel_rfl) (by kernel_rfl) λw35 S34=>Jn 1 R<|Jd3 R U121 R Z26<|Jn 1 R ?_
 have f36:=f20.stp (S31.tr S34) R R
 refine Jg R (Jd2 (cs:=[.slice af p0.owner.length ak,.slice aj p0.prio.length ad,.slice ae p0.next.length ac,.slice ah p0.prev.length ai,.slice aa p0.pick.length ab]) I121 Z121 R R R<|haC f36.cells R)<|Jg R (Jc2 I26 R R<|hvC (f36.ld 0 R R) R)<|Ob h λx42 hx42 h=>Jc3 R g0_0 hx42 U26 Z2 ?_
 have f37:=g0_0.stp (T4 S3 S15 S31 S34) R R
 refine Jg R (Jc2 I2 R R<|hvC (f37.gInt hx42) R)<|Ob h λx44 hx44 h=>?_
 have f41:=f32.stp S34 R R
 have S001:=(T4 S3 S15 S31 S34)
 refine Jh R R R C95 (Ret.cast (by simp only[hn33,List.cons_append,List.nil_append])<|px (κ:=Mk K30) (p0:=(⟨p0.owner,p0.prio,p0.next,p0.prev,y265⟩:l7Game)) (Ji3 f37) (Ji3<|g0_1.stp S001 R R) (Ji3<|f21.stp (S31.tr S34) R R) (Ji3<|g0_3.stp S001 R R) (Ji3 f41.rdc) (Ji3<|f27.stp (S31.tr S34) R R) hx44) ?_
 rintro _ w43 ⟨k44,rfl,e45⟩
 obtain⟨K46,S47,m48⟩:=Ji e45 4 R
 refine⟨(S47.cl R),Jt1<|Jd ?_⟩
 revert h
 cases ht50:x44
 refine JF λh=>Jy R<|Js<|Jz<|Jp<|Jf3 R ?_
 cases h
 exact Jz1 λa ha=>⟨k,_,Ja3 _,⟨K46,(((IntKind.i64.wrap<|s1.1+1):Int),y265),R,(T4 S15 S31 S34 S47).wk R,(f41.stp S47 R R),hn33,hk19⟩,(ha.mm R)⟩
 refine JT λh=>Jx R<|Je3 R<|Ju<|Ja1<|Jw<|Jw ?_
 cases h
 obtain rfl:=Option.some.inj hk19
 have h:=yL hK6
 refine Ja1<|Jq2<|Jw<|Ja2 (l:=[.tmp 6]) V85 (Jp2 R R) R ?_
 cases h
 exact⟨K46,R,(hE.stp (T5 S3 S15 S31 S34 S47) R R),(f41.stp S47 R R),hn33⟩
 refine JT λh=>Jx R<|Jc1<|Jt<|Jb1<|Jp<|Jf3 R ?_
 cases h
 exact Jz1 λa ha=>⟨k,_,Ja3 _,⟨K14,(((IntKind.i64.wrap<|s1.1+1):Int),s1.2),R,S15.wk R,f16,hn17,hk19⟩,(ha.mm R)⟩
 rintro _ w8 ⟨K9,s3,rfl,S10,f11,hn12,rfl⟩
 have h:=yI hK6
 refine Jp<|Je3 R<|Ju<|Ja2 (l:=[.tmp 6]) V85 (Jp2 R R) R ?_
 cases h
 exact⟨K9,R,(hE.stp (S3.tr S10) R R),f11,hn12⟩
theorem kL {p0:Sig}{af ae ai ah}{p1:Rival}{a2 u2}{p2:(List Int)}(g1_0:Rd (Rp.int .i64) κ w 0 af ae p1.In) (g1_1:Rd (Rp.sl (Rp.int .i64)) κ w 0 ai ah p1.Next) (g2:Rd (Rp.int .i64) κ w 0 a2 u2 p2){r:(List Int)}(h:dP p0 p1 p2=some r):Ret Try.prog 6 [.agg #[vi p0.In,vi p0.Out],.agg #[.slice af p1.In.length ae,.slice ai p1.Next.length ah],.slice a2 p2.length u2] w (Pvs E6 2 κ w r):=by
 unfold dP at h
 refine Jk3 κ F6 R N6 R λhE=>Je [1,1,2] R<|Jf1 (κ:=κ) 2 R R R R R R R λb3 w1 K2 S3 f4=>Tv<|Jf1 (κ:=K2) 3 R R R R R R R λb4 w5 K6 S7 f8=>Tv<|Jb 1 R<|Jq<|Je [1,1,2,2,1,1,1,2,2,2,2,2,2,2,2,2,2,1,2,1,2,2] R ?_
 have f9:=f4.stp S7 R R
 refine Jl tv R R R R (Jd2 (cs:=[vi p0.In,vi p0.Out]) I25 Z25 R R R<|haE f9.cells)<|Ob h λx12 hx12 h=>Jh R R R C18 (lL (κ:=Mk K6) (p0:=p0) hx12) ?_
 rintro _ w10 ⟨k11,rfl,e12⟩
 obtain⟨K13,S14,m15⟩:=Ji e12 4 R
 refine Tv<|Jn 2 R<|Ob h λp19 h hK17=>Ju1 [(4,1),(5,1),(6,1),(7,2),(8,2)] [(9,2),(10,2),(11,2),(12,2),(13,2),(14,2),(15,2),(16,2),(17,1),(18,2),(19,1),(20,2),(21,2)] (λL w'=>L=[(2,.slice a2 p2.length u2),(3,.pointer (some ⟨b3,0,none⟩)),(4,.pointer (some ⟨b4,0,none⟩)),(19,.bool p19)]/\∃κ',Stp [] K13 w10 κ' w') tv ?_ ?_
 revert h
 cases ht18:(!x12)
 refine JF λh=>Jl tv R R R R (Jd2 (cs:=[vi p0.In,vi p0.Out]) I25 Z25 R R R<|haE (f9.stp S14 R R).cells)<|Jl tv R R R R (Jd2 (cs:=[.slice af p1.In.length ae,.slice ai p1.Next.length ah]) I29 Z29 R R R<|haE (f8.stp S14 R R).cells)<|Ob h λx17 hx17 h=>Jh R R R C19 (iq (κ:=Mk K13) (p0:=p0) (p1:=p1) (Ji3<|g1_0.stp (T3 S3 S7 S14) R R) (Ji3<|g1_1.stp (T3 S3 S7 S14) R R) hx17) ?_
 rintro _ w23 ⟨k24,rfl,e25⟩
 obtain⟨K26,S27,m28⟩:=Ji e25 6 R
 refine Tv<|Jn 2 R ?_
 cases h
 exact Jv1 _ tv ⟨R,_,S27.wk R⟩<|KM R
 refine JT λh=>Jd1 R R R R<|Jd1 R R R R<|Jd1 R R R R<|Jn 2 R ?_
 cases h
 exact Jv1 _ tv ⟨R,_,Jj3⟩<|KM R
 rintro _ w30 _ ⟨rfl,K31,S32⟩
 have h:=hK17
 refine Jn 1 R<|Ob h λp24 h hK33=>Ju1 [(10,2),(11,2),(12,2),(13,2)] [(14,2),(15,2),(16,2),(17,1),(18,2),(19,1),(20,2),(21,2)] (λL w'=>L=[(2,.slice a2 p2.length u2),(3,.pointer (some ⟨b3,0,none⟩)),(4,.pointer (some ⟨b4,0,none⟩)),(24,.bool p24)]/\∃κ',Stp [] K31 w30 κ' w') tv ?_ ?_
 revert h
 cases ht34:p19
 refine JF λh=>Jn 1 R<|Jn3 R U26 R R<|Jn 2 R ?_
 cases h
 exact Jv1 _ tv ⟨R,_,Jj3⟩<|KM R
 refine JT λh=>Jn 4 R ?_
 cases h
 exact Jv1 _ tv ⟨R,_,Jj3⟩<|KM R
 rintro _ w35 _ ⟨rfl,K36,S37⟩
 have h:=hK33
 refine Jn 1 R<|Ob h λp32 h hK38=>Ju1 [(15,2),(16,2),(17,1),(18,2),(19,1),(20,2),(21,2)] [] (λL w'=>L=[(2,.slice a2 p2.length u2),(4,.pointer (some ⟨b4,0,none⟩)),(32,.bool p32)]/\∃κ',Stp [] K36 w35 κ' w') tv ?_ ?_
 revert h
 cases ht39:p24
 refine JF λh=>Jn 1 R<|Jd3 R U25 R Z2<|Jb3 R I2 ((f9.stp (T3 S14 S32 S37) R R).ld 1 R R)<|Ob h λ_z29 hz29 h=>Jf R (re R R R<|tf hz29)<|Ob h λx30 hx30 h=>Jh R R R C20 (ik (κ:=Mk K36) (Ji3<|g2.stp (T5 S3 S7 S14 S32 S37) R R) hx30) ?_
 rintro _ w42 ⟨k43,rfl,e44⟩
 obtain⟨K45,S46,m47⟩:=Ji e44 6 R
 refine Tv<|Jn 2 R ?_
 cases h
 exact Jv1 _ tv ⟨R,_,S46.wk R⟩<|KM R
 refine JT λh=>Jn 2 R<|Jd1 R R R R<|Jn 1 R<|Jd1 R R R R<|Jn 2 R ?_
 cases h
 exact Jv1 _ tv ⟨R,_,Jj3⟩<|KM R
 rintro _ w49 _ ⟨rfl,K50,S51⟩
 have h:=hK38
 refine Jd ?_
 revert h
 cases ht52:p32
 refine JF λh=>Jy R<|Js<|Jp<|Je3 R<|Je [2,1,2,1,1,2] R<|Jd3 R U29 R Z26 ?_
 have f54:=f8.stp (T4 S14 S32 S37 S51) R R
 refine Jb3 R I26 (f54.ld 0 R R)<|Ob h λx35 hx35 h=>Jc3 R g1_0 hx35 U26 Z2 ?_
 have f55:=g1_0.stp (T6 S3 S7 S14 S32 S37 S51) R R
 refine Jb3 R I2 (f55.gInt hx35)<|Jn1 (κ:=K50) (E:=E6) 6 [] (parts:=[(0,.tmp 36)]) (cells:=[vi x35]) (xs:=([x35]:List Int)) R R R R R R Y26 a8 R R R R R R R R R R ⟨[vi x35],[],Zl K50 w49 [],Zl K50 w49 [],R,Zl.sp (l1:=[]) (l2:=[]) R,Zl.sr (l1:=[]) (l2:=[]),R,R⟩ λaj ak w56 K57 S58 f59=>Tv<|Jb 1 R<|Jq<|Jg3 [2,2,2] 1 R<|Jn3 R U26 R R<|Jb 1 R ?_
 have hN60:(p2.length:Int)<=9223372036854775807:=g2.len_le
 refine Ob h λq2 hq62 hK61=>?_
 clear h
 refine Jx1 (λL w'=>∃κ',∃s3:Int×(List Int),∃ad aa,L=[(8,.slice ad s3.2.length aa)]/\Stp [6] K57 w56 κ' w'/\Oc E6 2 κ' w' 6 ad aa s3.2/\q2=vq s3) ?_ ?_
 refine Jv<|Jy1 (λk L w'=>∃κ' v40,∃s1:Int×(List Int),∃ac ab,L=[(4,.pointer (some ⟨b4,0,none⟩)),(7,vi s1.1),(8,.slice ac s1.2.length ab),(38,.slice a2 p2.length u2),(39,vi (p2.length:Int)),(40,vi v40)]/\Stp [6] K57 w56 κ' w'/\Oc E6 2 κ' w' 6 ac ab s1.2/\0<=v40/\Int.toNat ((p2.length:Int)-v40)=k/\cntM (fE p1 p2) k v40 s1=some q2) ⟨_,_,⟨K57,0,((0:Int),(([x35]:List Int):(List Int))),aj,ak,R,Jj3,f59,(by decide),(by simp),hq62⟩,(KM R)⟩ ?_
 rintro k _ w67 ⟨K68,v40,s1,ac,ab,rfl,S69,f70,hj60,hJ60,h⟩
 rcases k with _ | k
 have hk71:=h;obtain⟨o60,h⟩:=cc (vq (Sum.inl s1):(List Int)⊕((Int×(List Int))⊕(Int×(List Int))))
 have hc60:decide (v40<(p2.length:Int))=false:=Jo2 (by omega)
 refine Je3 R<|Jq<|Jw2 R hc60<|Jc1<|Jt<|Jt ?_
 cases h
 have h:=hk71
 refine Jb1 ?_
 cases h
 exact Jw1 _ ⟨K68,(s1.1,s1.2),ac,ab,R,S69.wk R,f70,R⟩<|KM R
 obtain⟨o60,h,hk71⟩:=BI h;unfold fE at h
 have hc60:decide (v40<(p2.length:Int))=true:=Jn2 (by omega)
 refine Je3 R<|Jq<|Jv2 R hc60<|Js<|Jp<|Jq<|Jv<|Je [2,1,2] R<|Ob h λx42 hx42 h=>Jc3 R g2 hx42 U26 Z2<|Jb3 R I2 ((g2.stp (T8 S3 S7 S14 S32 S37 S51 S58 S69) R R).gInt hx42)<|Jb 1 R<|Je [2,1,2,2,1,2,2,1,2] R<|Jd3 R U29 R Z27 ?_
 have f73:=f54.stp (S58.tr S69) R R
 refine Jb3 R I27 (f73.ld 1 R R)<|Jn 1 R<|Ob h λx47 hx47 h=>Jc3 R g1_1 hx47 U27 Z26 ?_
 obtain⟨ax47,ux47,f75,hl76⟩:=(g1_1.stp (T8 S3 S7 S14 S32 S37 S51 S58 S69) R R).gSl hx47
 refine Jb3 R I26 hl76<|Jn 1 R<|Ob h λx50 hx50 h=>Jc3 R f75 hx50 U26 Z2<|Jb3 R I2 (f75.gInt hx50)<|Jb 1 R<|Jh3 [2,2,1,2,2,1,1,1,2] 1 R<|Jd3 R U29 R Z26<|Jb3 R I26 (f73.ld 0 R R)<|Jn 1 R<|Ob h λx56 hx56 h=>Jc3 R f55 hx56 U26 Z2<|Jb3 R I2 ((f55.stp (S58.tr S69) R R).gInt hx56)<|Jn1 (κ:=K68) (E:=E6) 7 [] (parts:=[(0,.tmp 57)]) (cells:=[vi x56]) (xs:=([x56]:List Int)) R R R R R R Y26 a8 R R R R R R R R R R ⟨[vi x56],[],Zl K68 w67 [],Zl K68 w67 [],R,Zl.sp (l1:=[]) (l2:=[]) R,Zl.sr (l1:=[]) (l2:=[]),R,R⟩ λao an w78 K79 S80 f81=>Tv<|Ob h λx59 hx59 h=>Jm1 (κ:=K79) (E:=E6) 6 [] R R R R R R R R R Y26 a8 R R R R (f70.stp S80 R R) (Sl.srcP (cb _) f81.rdc) bJ hx59 R λal am w83 K84 S85 f86=>Tv<|Jc 1 R<|Jz<|Jp<|Jf3 R ?_
 have hw60:sh .i64 (v40+1)=v40+1:=wr1 hj60 (Jm2 hc60) hN60
 rw[hw60]
 have hc60:=Jm2 hc60
 cases h
 exact Jz1 λa ha=>⟨k,_,Ja3 _,⟨K84,v40+1,(x50,x59),al,am,R,(T3 S69 S80 S85).wk R,f86,by omega,by omega,hk71⟩,(ha.mm R)⟩
 rintro _ w63 ⟨K64,s3,ad,aa,rfl,S65,f66,rfl⟩
 have h:=yI hK61
 refine Jp<|Je3 R<|Ju<|Ja2 (l:=[.tmp 6]) V6 (Jp2 R R) R ?_
 cases h
 exact⟨(λb=>ren [(6,2)]<|K64 b),ad,aa,R,((hE.stp (T8 S3 S7 S14 S32 S37 S51 S58 S65) R R).map (ren [(6,2)]) R R),(f66.map (ren [(6,2)]) R R)⟩
 refine JT λh=>Jx R<|Je3 R<|Ju<|Jw<|Ja2 (l:=[.tmp 6]) V6 (Jp2 R R) R ?_
 cases h
 exact⟨K50,none,0,R,(hE.stp (T6 S3 S7 S14 S32 S37 S51) R R),Ow.nil⟩
theorem pD {p0:Sig}{aa ad ab ac}{p1:Rival}(g1_0:Rd (Rp.int .i64) κ w 0 aa ad p1.In) (g1_1:Rd (Rp.sl (Rp.int .i64)) κ w 0 ab ac p1.Next){r:Bool}(h:iw p0 p1=some r):Ret Try.prog 9 [.agg #[vi p0.In,vi p0.Out],.agg #[.slice aa p1.In.length ad,.slice ab p1.Next.length ac]] w (Pvb κ w r):=by
 unfold iw at h
 refine Jk3 κ F9 R N9 R λhE=>Je [1,1,2] R<|Jf1 (κ:=κ) 2 R R R R R R R λb2 w1 K2 S3 f4=>Tv<|Jf1 (κ:=K2) 3 R R R R R R R λb3 w5 K6 S7 f8=>Tv<|Jb 1 R<|Je [1,1,2,1,1,1,2,2] R ?_
 have f9:=f4.stp S7 R R
 refine Jl tv R R R R (Jd2 (cs:=[vi p0.In,vi p0.Out]) I25 Z25 R R R<|haE f9.cells)<|Ob h λx6 hx6 h=>Jh R R R C18 (lL (κ:=Mk K6) (p0:=p0) hx6) ?_
 rintro _ w10 ⟨k11,rfl,e12⟩
 obtain⟨K13,S14,m15⟩:=Ji e12 4 R
 refine Tv<|Jn 1 R<|Ob h λp11 h hK17=>Ju1 [(3,1),(4,1),(5,1),(6,2)] [(7,2)] (λL w'=>L=[(4,.bool false),(11,.bool p11)]/\∃κ',Stp [] K13 w10 κ' w') tv ?_ ?_
 revert h
 cases ht18:x6
 refine JF λh=>Jd1 R R R R<|Jd1 R R R R<|Jd1 R R R R<|Jn 1 R ?_
 cases h
 exact Jv1 _ tv ⟨R,_,Jj3⟩<|KM R
 refine JT λh=>Jl tv R R R R (Jd2 (cs:=[vi p0.In,vi p0.Out]) I25 Z25 R R R<|haE (f9.stp S14 R R).cells)<|Jl tv R R R R (Jd2 (cs:=[.slice aa p1.In.length ad,.slice ab p1.Next.length ac]) I29 Z29 R R R<|haE (f8.stp S14 R R).cells)<|Ob h λx10 hx10 h=>Jh R R R C19 (iq (κ:=Mk K13) (p0:=p0) (p1:=p1) (Ji3<|g1_0.stp (T3 S3 S7 S14) R R) (Ji3<|g1_1.stp (T3 S3 S7 S14) R R) hx10) ?_
 rintro _ w23 ⟨k24,rfl,e25⟩
 obtain⟨K26,S27,m28⟩:=Ji e25 6 R
 refine Tv<|Jn 1 R ?_
 cases h
 exact Jv1 _ tv ⟨R,_,S27.wk R⟩<|KM R
 rintro _ w30 _ ⟨rfl,K31,S32⟩
 have h:=hK17
 refine Jb 1 R<|Ju<|Ja2 (l:=[.tmp 4]) V9 (Jp2 R R) R ?_
 cases h
 exact⟨K31,R,(hE.stp (T4 S3 S7 S14 S32) R R)⟩
theorem n9 {p0:Sig}{ad ab ai ae}{p1:Rival}{aa af ah ac}{p2:Rival}(g1_0:Rd (Rp.int .i64) κ w 0 ad ab p1.In) (g1_1:Rd (Rp.sl (Rp.int .i64)) κ w 0 ai ae p1.Next) (g2_0:Rd (Rp.int .i64) κ w 0 aa af p2.In) (g2_1:Rd (Rp.sl (Rp.int .i64)) κ w 0 ah ac p2.Next){r:Bool}(h:gR p0 p1 p2=some r):Ret Try.prog 13 [.agg #[vi p0.In,vi p0.Out],.agg #[.slice ad p1.In.length ab,.slice ai p1.Next.length ae],.agg #[.slice aa p2.In.length af,.slice ah p2.Next.length ac]] w (Pvb κ w r):=by
 unfold gR at h
 refine Jk3 κ F13 R N13 R λhE=>Je [1,1,1,2] R<|Jf1 (κ:=κ) 2 R R R R R R R λb3 w1 K2 S3 f4=>Tv<|Jf1 (κ:=K2) 3 R R R R R R R λb4 w5 K6 S7 f8=>Tv<|Jf1 (κ:=K6) 4 R R R R R R R λb5 w9 K10 S11 f12=>Tv<|Jb 1 R<|Jq<|Je [1,1,2,2,1,1,1,2,2,2,1,1,1,2,2] R ?_
 have f13:=f4.stp (S7.tr S11) R R
 refine Jl tv R R R R (Jd2 (cs:=[vi p0.In,vi p0.Out]) I25 Z25 R R R<|haE f13.cells)<|Ob h λx8 hx8 h=>Jh R R R C18 (lL (κ:=Mk K10) (p0:=p0) hx8) ?_
 rintro _ w14 ⟨k15,rfl,e16⟩
 obtain⟨K17,S18,m19⟩:=Ji e16 5 R
 refine Tv<|Jn 2 R<|Ob h λp15 h hK21=>Ju1 [(4,1),(5,1),(6,1),(7,2),(8,2)] [(9,2),(10,1),(11,1),(12,1),(13,2),(14,2)] (λL w'=>L=[(3,.pointer (some ⟨b3,0,none⟩)),(4,.pointer (some ⟨b4,0,none⟩)),(5,.pointer (some ⟨b5,0,none⟩)),(15,.bool p15)]/\∃κ',Stp [] K17 w14 κ' w') tv ?_ ?_
 revert h
 cases ht22:(!x8)
 have S001:=(T4 S3 S7 S11 S18)
 refine JF λh=>Jl tv R R R R (Jd2 (cs:=[vi p0.In,vi p0.Out]) I25 Z25 R R R<|haE (f13.stp S18 R R).cells)<|Jl tv R R R R (Jd2 (cs:=[.slice ad p1.In.length ab,.slice ai p1.Next.length ae]) I29 Z29 R R R<|haE (f8.stp (S11.tr S18) R R).cells)<|Ob h λx13 hx13 h=>Jh R R R C19 (iq (κ:=Mk K17) (p0:=p0) (p1:=p1) (Ji3<|g1_0.stp S001 R R) (Ji3<|g1_1.stp S001 R R) hx13) ?_
 rintro _ w27 ⟨k28,rfl,e29⟩
 obtain⟨K30,S31,m32⟩:=Ji e29 7 R
 refine Tv<|Jn 2 R ?_
 cases h
 exact Jv1 _ tv ⟨R,_,S31.wk R⟩<|KM R
 refine JT λh=>Jd1 R R R R<|Jd1 R R R R<|Jd1 R R R R<|Jn 2 R ?_
 cases h
 exact Jv1 _ tv ⟨R,_,Jj3⟩<|KM R
 rintro _ w34 _ ⟨rfl,K35,S36⟩
 have h:=hK21
 refine Jn 1 R<|Ob h λp21 h hK37=>Ju1 [(10,1),(11,1),(12,1),(13,2),(14,2)] [] (λL w'=>L=[(4,.pointer (some ⟨b4,0,none⟩)),(5,.pointer (some ⟨b5,0,none⟩)),(21,.bool p21)]/\∃κ',Stp [] K35 w34 κ' w') tv ?_ ?_
 revert h
 cases ht38:p15
 have S002:=(T5 S3 S7 S11 S18 S36)
 refine JF λh=>Jl tv R R R R (Jd2 (cs:=[vi p0.In,vi p0.Out]) I25 Z25 R R R<|haE (f13.stp (S18.tr S36) R R).cells)<|Jl tv R R R R (Jd2 (cs:=[.slice aa p2.In.length af,.slice ah p2.Next.length ac]) I29 Z29 R R R<|haE (f12.stp (S18.tr S36) R R).cells)<|Ob h λx19 hx19 h=>Jh R R R C19 (iq (κ:=Mk K35) (p0:=p0) (p1:=p2) (Ji3<|g2_0.stp S002 R R) (Ji3<|g2_1.stp S002 R R) hx19) ?_
 rintro _ w43 ⟨k44,rfl,e45⟩
 obtain⟨K46,S47,m48⟩:=Ji e45 7 R
 refine Tv<|Jn 2 R ?_
 cases h
 exact Jv1 _ tv ⟨R,_,S47.wk R⟩<|KM R
 refine JT λh=>Jd1 R R R R<|Jd1 R R R R<|Jd1 R R R R<|Jn 2 R ?_
 cases h
 exact Jv1 _ tv ⟨R,_,Jj3⟩<|KM R
 rintro _ w50 _ ⟨rfl,K51,S52⟩
 have h:=hK37
 refine Jd ?_
 revert h
 cases ht53:p21
 refine JF λh=>Jy R<|Js<|Jp<|Je [2,1,2,1,1,2,2,1,2,1,1,2,2] R<|Jd3 R U29 R Z26 ?_
 have f55:=f8.stp (T4 S11 S18 S36 S52) R R
 refine Jb3 R I26 (f55.ld 0 R R)<|Jd3 R U29 R Z26 ?_
 have f56:=f12.stp (T3 S18 S36 S52) R R
 have S003:=(T6 S3 S7 S11 S18 S36 S52)
 refine Jb3 R I26 (f56.ld 0 R R)<|Ob h λx26 hx26 h=>Jh R R R C26 (fo (κ:=Mk K51) (Ji3<|g1_0.stp S003 R R) (Ji3<|g2_0.stp S003 R R) hx26) ?_
 rintro _ w59 ⟨k60,rfl,e61⟩
 obtain⟨K62,S63,m64⟩:=Ji e61 7 R
 refine Tv<|Jn 1 R<|Ob h λp33 h hK66=>Ju1 [(6,2),(7,1),(8,2),(9,1),(10,1),(11,2)] [(12,2)] (λL w'=>L=[(33,.bool p33)]/\∃κ',Stp [] K62 w59 κ' w') tv ?_ ?_
 revert h
 cases ht67:x26
 refine JF λh=>Jn 1 R<|Jd1 R R R R<|Jn 1 R<|Jd1 R R R R<|Jd1 R R R R<|Jn 1 R ?_
 cases h
 exact Jv1 _ tv ⟨R,_,Jj3⟩<|KM R
 have S004:=(T7 S3 S7 S11 S18 S36 S52 S63)
 refine JT λh=>Jd3 R U29 R Z27<|Jb3 R I27 ((f55.stp S63 R R).ld 1 R R)<|Jd3 R U29 R Z27<|Jb3 R I27 ((f56.stp S63 R R).ld 1 R R)<|Ob h λx32 hx32 h=>Jh R R R C27 (c8 (κ:=Mk K62) (Ji3<|g1_1.stp S004 R R) (Ji3<|g2_1.stp S004 R R) hx32) ?_
 rintro _ w72 ⟨k73,rfl,e74⟩
 obtain⟨K75,S76,m77⟩:=Ji e74 9 R
 refine Tv<|Jn 1 R ?_
 cases h
 exact Jv1 _ tv ⟨R,_,S76.wk R⟩<|KM R
 rintro _ w79 _ ⟨rfl,K80,S81⟩
 have h:=hK66
 refine Jb 1 R<|Ju<|Ja2 (l:=[.tmp 6]) V13 (Jp2 R R) R ?_
 cases h
 exact⟨K80,R,(hE.stp (T8 S3 S7 S11 S18 S36 S52 S63 S81) R R)⟩
 refine JT λh=>Jx R<|Je3 R<|Ju<|Jw<|Ja2 (l:=[.tmp 6]) V13 (Jp2 R R) R ?_
 cases h
 exact⟨K51,R,(hE.stp (T6 S3 S7 S11 S18 S36 S52) R R)⟩
end Go.Proofs.Ytpcjbkgbnoocaaa
