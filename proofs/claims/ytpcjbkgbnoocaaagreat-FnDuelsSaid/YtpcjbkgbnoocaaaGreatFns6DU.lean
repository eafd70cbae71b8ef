/- The walks, part 6. By program. -/
import Derived.Test.YtpcjbkgbnoocaaaGreatFns5DU
set_option linter.unusedVariables false
set_option linter.unusedSimpArgs false
namespace Go.Proofs.YtpcjbkgbnoocaaaGreat
open Go Go.Wk Go.Proofs
set_option maxRecDepth 100000
set_option maxHeartbeats 1000000
variable {w:World}{κ:Col}
theorem oL {aa ab}{p0:l1Cur}{b0}(g0_0:Rd (Rp.int .u8) κ w 0 aa ab p0.b) (gb0:Bc κ w 2 b0 142 [.slice aa p0.b.length ab,vi p0.i,vi p0.h]){r:Sig×Machine×Int×Int}(h:fY p0=some r):Ret Tryz.prog 107 [.pointer (some ⟨b0,0,none⟩)] w (λv w'=>∃(κ':Col) (ra0:Option Addr) (ru0:Nat) (ra1:Option Addr) (ru1:Nat),v= .tuple #[.agg #[vi r.1.In,vi r.1.Out],.agg #[.slice ra0 r.2.1.Next.length ru0,.slice ra1 r.2.1.Out.length ru1]]/\Ent κ w κ' w'/\Oc (Ep.own E6 2) 29 κ' w' 3 ra0 ru0 r.2.1.Next/\Rd (Rp.sl (Rp.int .i64)) κ' w' 0 ra1 ru1 r.2.1.Out/\Bc κ' w' 2 b0 142 [.slice aa p0.b.length ab,vi r.2.2.1,vi r.2.2.2]):=by
 unfold fY at h
 refine Jk3 κ F107 R N107 R λhE=>Je [1,1] R<|Jg1 (κ:=κ) 3 R R R R R X25 R λb2 w1 K2 S3 f4=>Tv<|Jg1 (κ:=K2) 4 R R R R R X28 R λb3 w5 K6 S7 f8=>Tv<|Jd<|Jg3 [2,1,1,1] 1 R<|Ob h λx6 hx6 h=>?_
 have f9:=g0_0.stp (S3.tr S7) R R
 refine Jh R R R C43 (lO (κ:=λb=>mp [(2,2)] 0<|K6 b) (p0:=p0) (Jl2 f9 (mp [(2,2)] 0) R R) ((gb0.stp (S3.tr S7) R R).map (mp [(2,2)] 0) R R) hx6) ?_
 rintro _ w11 ⟨k12,rfl,e13,f14⟩
 obtain⟨K15,S16,m17⟩:=Ji e13 5 R
 refine Tv<|?_
 have f19:=f14.mx m17 R (R:5+2=7)
 refine Jg1 (κ:=K15) 8 R R R R R X25 R λb4 w20 K21 S22 f23=>Tv<|Jj1 (κ:=K21) 8 (vc:=[vi x6.1.In,vi x6.1.Out]) R R R R R R R Z25 R R f23 R λw24 S25 f26=>Tv<|Jd<|Jq<|Je [1,1,2] R<|Jl tv R R R R (Jd2 (cs:=[vi x6.1.In,vi x6.1.Out]) I25 Z25 R R R<|haE f26.cells)<|Ob h λx8 hx8 h=>Jh R R R C102 (eZ (κ:=Mk K21) (p0:=x6.1) hx8) ?_
 rintro _ w27 ⟨k28,rfl,e29⟩
 obtain⟨K30,S31,m32⟩:=Ji e29 9 R
 refine Tv<|Jb 1 R ?_
 revert h
 cases ht34:(!x8)
 refine JF λh=>Jy R<|Js<|Jp<|Jq<|Js1 (κ:=K30) [8] none [(1,2),(0,0),(2,0),(3,1),(4,1),(5,1)] [] (by kernel_rfl) (by kernel_rfl) λw72 S71=>Jn 1 R ?_
 have f73:=f26.stp (S31.tr S71) R R
 refine Jg R (Jd2 (cs:=[vi x6.1.In,vi x6.1.Out]) I25 Z25 R R R<|haC f73.cells R)<|Jg R (Jd2 (cs:=[vi x6.1.In,vi x6.1.Out]) I25 Z25 R R R<|haC f73.cells R)<|Ob h λx17 hx17 h=>Jh R R R C158 (pc (κ:=λb=>mp [(7,2)] 1<|K30 b) (p1:=x6.1) (p0:=(⟨p0.b,x6.2.1,x6.2.2⟩:l1Cur)) (Jl2 (f9.stp (T5 S16 S22 S25 S31 S71) R R) (mp [(7,2)] 1) R R) ((f19.stp (T4 S22 S25 S31 S71) R R).map (mp [(7,2)] 1) R R) hx17) ?_
 rintro _ w76 ⟨k77,ae,ah,aj,ac,rfl,e78,f79,f80,f81⟩
 obtain⟨K82,S83,m84,z85⟩:=Jj e78 11 R
 refine⟨(S83.cl R),Jj1 (κ:=K82) 3 (vc:=[vi x6.1.In,vi x6.1.Out]) R R R R R R R Z25 R R (f4.stp (T7 S7 S16 S22 S25 S31 S71 S83) R R) R λw90 S91 f92=>⟨((S83.tr S91).cl R),Jj1 (κ:=K82) 4 (vc:=[.slice ae x17.1.Next.length ah,.slice aj x17.1.Out.length ac]) R R R R R R R Z28 R R (f8.stp (T7 S16 S22 S25 S31 S71 S83 S91) R R) R λw94 S95 f96=>⟨((T3 S83 S91 S95).cl R),Jt1<|Jd<|Ju<|Ja2 (l:=[.cell 2 25,.cell 3 28]) V107 (bF R (f92.stp S95 R R) I25 Z25 R<|bF R f96 I28 Z28 R R) R ?_⟩⟩⟩
 cases h
 exact⟨(λb=>ren [(14,3),(13,2)]<|K82 b),ae,ah,aj,ac,R,((hE.stp (T10 S3 S7 S16 S22 S25 S31 S71 S83 S91 S95) R R).map (ren [(14,3),(13,2)]) R R),(((f79.mx (cD (bD _) _) m84 R (R:11+3=14)).stp (S91.tr S95) R R).map (ren [(14,3),(13,2)]) R R),(((f80.mx z85).stp (S91.tr S95) R R).map (ren [(14,3),(13,2)]) R R),(((f81.mx m84 R (R:11+2=13)).stp (S91.tr S95) R R).map (ren [(14,3),(13,2)]) R R)⟩
 refine JT λh=>Jx R<|Jq<|Js1 (κ:=K30) [8] none [(1,2),(2,2),(0,0),(3,1),(4,1),(5,1)] [] (by kernel_rfl) (by kernel_rfl) λw36 S35=>Jn 1 R<|Jf R (bG (parts:=[(0,.const (vi 1)),(1,.const (vi 1))]) (cells:=[vi 1,vi 1]) R R (by kernel_rfl))<|Jg R (Jd2 (cs:=[vi x6.1.In,vi x6.1.Out]) I25 Z25 R R R<|haC (f26.stp (S31.tr S35) R R).cells R)<|Ob h λx13 hx13 h=>Jh R R R C157 (n8 (κ:=λb=>mp [(7,2)] 0<|K30 b) (p1:=(⟨1,1⟩:Sig)) (p0:=(⟨p0.b,x6.2.1,x6.2.2⟩:l1Cur)) (Jl2 (f9.stp (T5 S16 S22 S25 S31 S35) R R) (mp [(7,2)] 0) R R) ((f19.stp (T4 S22 S25 S31 S35) R R).map (mp [(7,2)] 0) R R) hx13) ?_
 rintro _ w40 ⟨k41,ak,ad,ai,af,rfl,e42,f43,f44,f45⟩
 obtain⟨K46,S47,m48⟩:=Ji e42 11 R
 refine⟨(S47.cl R),Jj1 (κ:=K46) 3 (vc:=[vi x6.1.In,vi x6.1.Out]) R R R R R R R Z25 R R (f4.stp (T7 S7 S16 S22 S25 S31 S35 S47) R R) R λw54 S55 f56=>⟨((S47.tr S55).cl R),Jj1 (κ:=K46) 4 (vc:=[.slice ak x13.1.Next.length ad,.slice ai x13.1.Out.length af]) R R R R R R R Z28 R R (f8.stp (T7 S16 S22 S25 S31 S35 S47 S55) R R) R λw58 S59 f60=>⟨((T3 S47 S55 S59).cl R),Jt1<|Jd<|Ju<|Jw ?_⟩⟩⟩
 obtain⟨K62,S63,z64⟩:=eR K46 w58 15
 refine Ja2 (l:=[.cell 2 25,.cell 3 28]) V107 (bF R (f56.stp (S59.tr S63) R R) I25 Z25 R<|bF R (f60.stp S63 R R) I28 Z28 R R) R ?_
 cases h
 exact⟨(λb=>ren [(14,3),(13,2)]<|K62 b),ak,ad,ai,af,R,((hE.stp (T11 S3 S7 S16 S22 S25 S31 S35 S47 S55 S59 S63) R R).map (ren [(14,3),(13,2)]) R R),(((f43.mx (cD (bD _) _) m48 R (R:11+3=14)).stp (T3 S55 S59 S63) R R).map (ren [(14,3),(13,2)]) R R),((Sl.st z64 ((f44.mx (cD (bD _) _) m48 R (R:11+4=15)).stp (S55.tr S59) R R).rdc).map (ren [(14,3),(13,2)]) R R),(((f45.mx m48 R (R:11+2=13)).stp (T3 S55 S59 S63) R R).map (ren [(14,3),(13,2)]) R R)⟩
theorem o8 {ac aa}{p0:l1Cur}{p1:Sig}{b0}(g0_0:Rd (Rp.int .u8) κ w 0 ac aa p0.b) (gb0:Bc κ w 2 b0 142 [.slice ac p0.b.length aa,vi p0.i,vi p0.h]){r:Clause×Int×Int}(h:gY p0 p1=some r):Ret Tryz.prog 109 [.pointer (some ⟨b0,0,none⟩),.agg #[vi p1.In,vi p1.Out]] w (λv w'=>∃(κ':Col) (ra0:Option Addr) (ru0:Nat) (ra1:Option Addr) (ru1:Nat),v= .agg #[vi r.1.Kind,.slice ra0 r.1.A.length ru0,.slice ra1 r.1.B.length ru1]/\Ent κ w κ' w'/\Oc E6 2 κ' w' 3 ra0 ru0 r.1.A/\Oc E6 2 κ' w' 4 ra1 ru1 r.1.B/\Bc κ' w' 2 b0 142 [.slice ac p0.b.length aa,vi r.2.1,vi r.2.2]):=by
 unfold gY at h
 refine Jk3 κ F109 R N109 R λhE=>Je [1,1] R<|Jf1 (κ:=κ) 3 R R R R R R R λb3 w1 K2 S3 f4=>Tv<|Jg1 (κ:=K2) 4 R R R R R X119 R λb4 w5 K6 S7 f8=>Tv<|Jd<|Jg3 [2,1,1,1,1] 1 R<|Jl tv R R R R (Jd2 (cs:=[vi p1.In,vi p1.Out]) I25 Z25 R R R<|haE (f4.stp S7 R R).cells)<|Ob h λx8 hx8 h=>?_
 have f10:=g0_0.stp (S3.tr S7) R R
 refine Jh R R R C108 (oe (κ:=λb=>mp [(2,2)] 0<|K6 b) (p1:=p1) (p0:=p0) (Jl2 f10 (mp [(2,2)] 0) R R) ((gb0.stp (S3.tr S7) R R).map (mp [(2,2)] 0) R R) hx8) ?_
 rintro _ w12 ⟨k13,af,ae,ad,ab,rfl,e14,f15,f16,f17⟩
 obtain⟨K18,S19,m20⟩:=Ji e14 5 R
 refine Tv<|?_
 have f22:=f15.mx (bD _) m20 R (R:5+3=8)
 have f23:=f16.mx (bD _) m20 R (R:5+4=9)
 refine Jg1 (κ:=K18) 10 R R R R R X119 R λb5 w25 K26 S27 f28=>Tv<|Jj1 (κ:=K26) 10 (vc:=[vi x8.1.Kind,.slice af x8.1.A.length ae,.slice ad x8.1.B.length ab]) R R R R R R R Z119 R R f28 R λw29 S30 f31=>Tv<|Jd<|Jq<|Jg3 [2,1] 1 R<|Ob h λx10 hx10 h=>?_
 have f32:=f10.stp (T3 S19 S27 S30) R R
 refine Jh R R R C45 (c9 (κ:=λb=>mp [(7,2)] 0<|K26 b) (p0:=(⟨p0.b,x8.2.1,x8.2.2⟩:l1Cur)) (Jl2 f32 (mp [(7,2)] 0) R R) (((f17.mx m20 R (R:5+2=7)).stp (S27.tr S30) R R).map (mp [(7,2)] 0) R R) hx10) ?_
 rintro _ w34 ⟨k35,rfl,e36,f37⟩
 obtain⟨K38,S39,m40⟩:=Ji e36 11 R
 refine Tv<|?_
 have f42:=f37.mx m40 R (R:11+2=13)
 refine Jd<|Ob h λq1 h hK43=>Jx1 (λL w'=>∃κ' ak aj ah ai,L=[(0,.pointer (some ⟨b0,0,none⟩)),(4,.pointer (some ⟨b4,0,none⟩)),(5,.pointer (some ⟨b5,0,none⟩))]/\Stp [8,9,10,13,16,19] K38 w34 κ' w'/\Oc E6 2 κ' w' 8 ak aj q1.2.2.2.1/\Oc E6 2 κ' w' 9 ah ai q1.2.2.2.2/\Bc κ' w' 13 b0 142 [.slice ac p0.b.length aa,vi q1.1,vi q1.2.1]/\Bc κ' w' 10 b5 119 [vi q1.2.2.1,.slice ak q1.2.2.2.1.length aj,.slice ah q1.2.2.2.2.length ai]) ?_ ?_
 revert h
 cases ht51:x10.1
 refine JF λh=>Jy R<|Js ?_
 cases h
 exact Jw1 _ ⟨K38,af,ae,ad,ab,R,Jj3,(f22.stp (T3 S27 S30 S39) R R),(f23.stp (T3 S27 S30 S39) R R),f42,(f31.stp S39 R R)⟩<|KM R
 refine JT λh=>Jx R<|Jg3 [2,1] 1 R<|Ob h λx12 hx12 h=>?_
 have f52:=f32.stp S39 R R
 refine Jh R R R C105 (bS (κ:=λb=>mp [(13,2)] 0<|K38 b) (p0:=(⟨p0.b,x10.2.1,x10.2.2⟩:l1Cur)) (Jl2 f52 (mp [(13,2)] 0) R R) (f42.map (mp [(13,2)] 0) R R) hx12) ?_
 rintro _ w53 ⟨k54,rfl,e55,f56⟩
 obtain⟨K57,S58,m59⟩:=Ji e55 14 R
 refine Tv<|?_
 have f61:=f56.mx m59 R (R:14+2=16)
 refine Jd<|Jv<|Je3 R<|Ob h λq2 h hK62=>Jx1 (λL w'=>∃κ' an au aw aq,L=[(0,.pointer (some ⟨b0,0,none⟩)),(4,.pointer (some ⟨b4,0,none⟩)),(5,.pointer (some ⟨b5,0,none⟩))]/\Stp [8,9,10,16,19] K57 w53 κ' w'/\Oc E6 2 κ' w' 8 an au q2.2.2.2.1/\Oc E6 2 κ' w' 9 aw aq q2.2.2.2.2/\Bc κ' w' 16 b0 142 [.slice ac p0.b.length aa,vi q2.1,vi q2.2.1]/\Bc κ' w' 10 b5 119 [vi q2.2.2.1,.slice an q2.2.2.2.1.length au,.slice aw q2.2.2.2.2.length aq]) ?_ ?_
 revert h
 cases ht70:(x12.1==0)
 refine JF λh=>Jy R<|Je3 R<|Ob h λq3 h hK88=>Jx1 (λL w'=>∃κ' al ao ap am,L=[(0,.pointer (some ⟨b0,0,none⟩)),(4,.pointer (some ⟨b4,0,none⟩)),(5,.pointer (some ⟨b5,0,none⟩))]/\Stp [8,9,10,16,19] K57 w53 κ' w'/\Oc E6 2 κ' w' 8 al ao q3.2.2.1/\Oc E6 2 κ' w' 9 ap am q3.2.2.2/\Bc κ' w' 16 b0 142 [.slice ac p0.b.length aa,vi q3.1,vi q3.2.1]/\Bc κ' w' 10 b5 119 [vi x8.1.Kind,.slice al q3.2.2.1.length ao,.slice ap q3.2.2.2.length am]) ?_ ?_
 revert h
 cases ht96:(x12.1==1)
 refine JF λh=>Jy R<|Je3 R<|Ob h λq4 h hK127=>Jx1 (λL w'=>∃κ' av ar,L=[(0,.pointer (some ⟨b0,0,none⟩)),(4,.pointer (some ⟨b4,0,none⟩)),(5,.pointer (some ⟨b5,0,none⟩))]/\Stp [9,10,16,19] K57 w53 κ' w'/\Oc E6 2 κ' w' 9 av ar q4.2.2/\Bc κ' w' 16 b0 142 [.slice ac p0.b.length aa,vi q4.1,vi q4.2.1]/\Bc κ' w' 10 b5 119 [vi x8.1.Kind,.slice af x8.1.A.length ae,.slice av q4.2.2.length ar]) ?_ ?_
 revert h
 cases ht134:(x12.1==2)
 refine JF λh=>Jy R<|Js ?_
 cases h
 exact Jw1 _ ⟨K57,ad,ab,R,Jj3,(f23.stp (T4 S27 S30 S39 S58) R R),f61,(f31.stp (S39.tr S58) R R)⟩<|KM R
 refine JT λh=>Jx R<|Js1 (κ:=K57) [10] (some 7) [(0,2),(2,2),(1,0),(3,1),(4,1),(5,1),(6,2)] [(7,1)] (by kernel_rfl) (by kernel_rfl) λw136 S135=>Jd3 R U119 R Z29<|Jn 1 R ?_
 have f137:=f31.stp (T3 S39 S58 S135) R R
 refine Jg R (Jc2 I29 R R<|hvC (f137.ld 2 R R) R)<|Ob h λx32 hx32 h=>Jh R R R C162 (qi (κ:=λb=>mp [(16,2)] 0<|K57 b) (p0:=(⟨p0.b,x12.2.1,x12.2.2⟩:l1Cur)) (Jl2 (f52.stp (S58.tr S135) R R) (mp [(16,2)] 0) R R) ((f61.stp S135 R R).map (mp [(16,2)] 0) R R) hx32) ?_
 rintro _ w140 ⟨k141,rfl,e142,f143⟩
 obtain⟨K144,S145,m146⟩:=Ji e142 17 R
 refine⟨(S145.cl R),Jn1 (κ:=K144) (E:=E6) 20 [] (parts:=[(0,.tmp 32)]) (cells:=[vi x32.1]) (xs:=([x32.1]:List Int)) R R R R R R Y29 a8 R R R R R R R R R R ⟨[vi x32.1],[],Zl K144 w140 [],Zl K144 w140 [],R,Zl.sp (l1:=[]) (l2:=[]) R,Zl.sr (l1:=[]) (l2:=[]),R,R⟩ λaD aE w149 K150 S151 f152=>⟨((S145.tr S151).cl R),Ob h λx34 hx34 h=>Jm1 (κ:=K150) (E:=E6) 9 [] R R R R R R R R R Y29 a8 R R R R (f23.stp (T7 S27 S30 S39 S58 S135 S145 S151) R R) (Sl.srcP (bM _) f152.rdc) bH hx34 R λaA az w154 K155 S156 f157=>⟨((T3 S145 S151 S156).cl R),Jd3 R U119 R Z29<|Jt1<|Ji1 (κ:=K155) 10 (off:=2) (vc:=[.slice aA x34.length az]) (cs':=[vi x8.1.Kind,.slice af x8.1.A.length ae,.slice aA x34.length az]) R R R R R R R Z29 R R (f137.stp (T3 S145 S151 S156) R R) R R λw159 S160 f161=>Tv<|Jo ?_⟩⟩⟩
 cases h
 exact Jw1 _ ⟨(λb=>ren [(19,16)]<|K155 b),aA,az,R,(Jy2 ((T5 S135 S145 S151 S156 S160).wk R) [(19,16)] R),((f157.stp S160 R R).map (ren [(19,16)]) R R),(((f143.mx m146 R (R:17+2=19)).stp (T3 S151 S156 S160) R R).map (ren [(19,16)]) R R),(f161.map (ren [(19,16)]) R R)⟩<|KM R
 rintro _ w128 ⟨K129,av,ar,rfl,S130,f131,f132,f133⟩
 have h:=hK127
 cases h
 exact Jw1 _ ⟨K129,af,ae,av,ar,R,S130.wk R,(f22.stp (T5 S27 S30 S39 S58 S130) R R),f131,f132,f133⟩<|KM R
 refine JT λh=>Jx R<|Js1 (κ:=K57) [10] (some 7) [(0,2),(2,2),(1,0),(3,1),(4,1),(5,1),(6,2)] [(7,1)] (by kernel_rfl) (by kernel_rfl) λw98 S97=>Jd3 R U119 R Z29<|Jn 1 R ?_
 have f99:=f31.stp (T3 S39 S58 S97) R R
 refine Jg R (Jc2 I29 R R<|hvC (f99.ld 1 R R) R)<|Ob h λx23 hx23 h=>Jh R R R C162 (qi (κ:=λb=>mp [(16,2)] 0<|K57 b) (p0:=(⟨p0.b,x12.2.1,x12.2.2⟩:l1Cur)) (Jl2 (f52.stp (S58.tr S97) R R) (mp [(16,2)] 0) R R) ((f61.stp S97 R R).map (mp [(16,2)] 0) R R) hx23) ?_
 rintro _ w102 ⟨k103,rfl,e104,f105⟩
 obtain⟨K106,S107,m108⟩:=Ji e104 17 R
 refine⟨(S107.cl R),Jn1 (κ:=K106) (E:=E6) 20 [] (parts:=[(0,.tmp 23)]) (cells:=[vi x23.1]) (xs:=([x23.1]:List Int)) R R R R R R Y29 a8 R R R R R R R R R R ⟨[vi x23.1],[],Zl K106 w102 [],Zl K106 w102 [],R,Zl.sp (l1:=[]) (l2:=[]) R,Zl.sr (l1:=[]) (l2:=[]),R,R⟩ λaB aC w111 K112 S113 f114=>⟨((S107.tr S113).cl R),Ob h λx25 hx25 h=>Jm1 (κ:=K112) (E:=E6) 8 [] R R R R R R R R R Y29 a8 R R R R (f22.stp (T7 S27 S30 S39 S58 S97 S107 S113) R R) (Sl.srcP (bM _) f114.rdc) bH hx25 R λax ay w116 K117 S118 f119=>⟨((T3 S107 S113 S118).cl R),Jd3 R U119 R Z29<|Jt1<|Ji1 (κ:=K117) 10 (off:=1) (vc:=[.slice ax x25.length ay]) (cs':=[vi x8.1.Kind,.slice ax x25.length ay,.slice ad x8.1.B.length ab]) R R R R R R R Z29 R R (f99.stp (T3 S107 S113 S118) R R) R R λw121 S122 f123=>Tv<|Jo ?_⟩⟩⟩
 cases h
 exact Jw1 _ ⟨(λb=>ren [(19,16)]<|K117 b),ax,ay,ad,ab,R,(Jy2 ((T5 S97 S107 S113 S118 S122).wk R) [(19,16)] R),((f119.stp S122 R R).map (ren [(19,16)]) R R),((f23.stp (T9 S27 S30 S39 S58 S97 S107 S113 S118 S122) R R).map (ren [(19,16)]) R R),(((f105.mx m108 R (R:17+2=19)).stp (T3 S113 S118 S122) R R).map (ren [(19,16)]) R R),(f123.map (ren [(19,16)]) R R)⟩<|KM R
 rintro _ w89 ⟨K90,al,ao,ap,am,rfl,S91,f92,f93,f94,f95⟩
 have h:=hK88
 cases h
 exact Jw1 _ ⟨K90,al,ao,ap,am,R,S91.wk R,f92,f93,f94,f95⟩<|KM R
 refine JT λh=>Jx R<|Jh3 [2,1,2,1] 1 R<|Ob h λx16 hx16 h=>Jh R R R C106 (gl (κ:=λb=>mp [(16,2)] 0<|K57 b) (p0:=(⟨p0.b,x12.2.1,x12.2.2⟩:l1Cur)) (Jl2 (f52.stp S58 R R) (mp [(16,2)] 0) R R) (f61.map (mp [(16,2)] 0) R R) hx16) ?_
 rintro _ w72 ⟨k73,rfl,e74,f75⟩
 obtain⟨K76,S77,m78⟩:=Ji e74 17 R
 refine Tv<|Jd3 R U119 R Z2<|Ji1 (κ:=K76) 10 (off:=0) (vc:=[vi x16.1]) (cs':=[vi x16.1,.slice af x8.1.A.length ae,.slice ad x8.1.B.length ab]) R R R R R R R Z2 R R (f31.stp (T3 S39 S58 S77) R R) R R λw82 S83 f84=>Tv<|Jo ?_
 cases h
 have S001:=(T6 S27 S30 S39 S58 S77 S83)
 exact Jw1 _ ⟨(λb=>ren [(19,16)]<|K76 b),af,ae,ad,ab,R,(Jy2 ((S77.tr S83).wk R) [(19,16)] R),((f22.stp S001 R R).map (ren [(19,16)]) R R),((f23.stp S001 R R).map (ren [(19,16)]) R R),(((f75.mx m78 R (R:17+2=19)).stp S83 R R).map (ren [(19,16)]) R R),(f84.map (ren [(19,16)]) R R)⟩<|KM R
 rintro _ w63 ⟨K64,an,au,aw,aq,rfl,S65,f66,f67,f68,f69⟩
 have h:=hK62
 refine Jz ?_
 cases h
 exact Jw1 _ ⟨(λb=>ren [(16,13)]<|K64 b),an,au,aw,aq,R,(Jy2 ((S58.tr S65).wk R) [(16,13)] R),(f66.map (ren [(16,13)]) R R),(f67.map (ren [(16,13)]) R R),(f68.map (ren [(16,13)]) R R),(f69.map (ren [(16,13)]) R R)⟩<|KM R
 rintro _ w44 ⟨K45,ak,aj,ah,ai,rfl,S46,f47,f48,f49,f50⟩
 have h:=hK43
 refine Jp<|Je [1,1] R<|Jl tv R R R R (Jd2 (cs:=[vi q1.2.2.1,.slice ak q1.2.2.2.1.length aj,.slice ah q1.2.2.2.2.length ai]) I119 Z119 R R R<|haE f50.cells)<|Jj1 (κ:=K45) 4 (vc:=[vi q1.2.2.1,.slice ak q1.2.2.2.1.length aj,.slice ah q1.2.2.2.2.length ai]) R R R R R R R Z119 R R (f8.stp (T5 S19 S27 S30 S39 S46) R R) R λw171 S172 f173=>Tv<|Jd<|Ju<|Ja2 (l:=[.cell 4 119]) V109 (bF R f173 I119 Z119 R R) R ?_
 cases h
 exact⟨(λb=>ren [(8,3),(9,4),(13,2)]<|K45 b),ak,aj,ah,ai,R,((hE.stp (T8 S3 S7 S19 S27 S30 S39 S46 S172) R R).map (ren [(8,3),(9,4),(13,2)]) R R),((f47.stp S172 R R).map (ren [(8,3),(9,4),(13,2)]) R R),((f48.stp S172 R R).map (ren [(8,3),(9,4),(13,2)]) R R),((f49.stp S172 R R).map (ren [(8,3),(9,4),(13,2)]) R R)⟩
theorem j7 {p0:Sig}{aa ac ab ad}{p1:Det}(g1_0:Rd (Rp.sl (Rp.int .i64)) κ w 0 aa ac p1.Next) (g1_1:Rd Pair.rp κ w 0 ab ad p1.Pairs){r:Bool}(h:gC p0 p1=some r):Ret Tryz.prog 117 [.agg #[vi p0.In,vi p0.Out],.agg #[.slice aa p1.Next.length ac,.slice ab p1.Pairs.length ad]] w (Pvb κ w r):=by
 unfold gC at h
 refine Jk3 κ F117 R N117 R λhE=>Je [1,1,2] R<|Jf1 (κ:=κ) 2 R R R R R R R λb2 w1 K2 S3 f4=>Tv<|Jf1 (κ:=K2) 3 R R R R R R R λb3 w5 K6 S7 f8=>Tv<|Jb 1 R<|Je [2,1,2,2] R<|Jd3 R U100 R Z26<|Jb3 R I26 (f8.ld 0 R R)<|Jn3 R U26 R R<|Jb 1 R<|Jq<|Je [1,1,2,2,2,1,2,2] R ?_
 have f9:=f4.stp S7 R R
 refine Jl tv R R R R (Jd2 (cs:=[vi p0.In,vi p0.Out]) I25 Z25 R R R<|haE f9.cells)<|Ob h λx11 hx11 h=>Jh R R R C102 (eZ (κ:=Mk K6) (p0:=p0) hx11) ?_
 rintro _ w10 ⟨k11,rfl,e12⟩
 obtain⟨K13,S14,m15⟩:=Ji e12 4 R
 refine Tv<|Jn 2 R<|Ob h λp17 h hK17=>Ju1 [(4,2),(5,1),(6,2),(7,2)] [] (λL w'=>L=[(2,.pointer (some ⟨b2,0,none⟩)),(3,.pointer (some ⟨b3,0,none⟩)),(5,vi (p1.Next.length:Int)),(17,.bool p17)]/\∃κ',Stp [] K13 w10 κ' w') tv ?_ ?_
 revert h
 cases ht18:(!x11)
 refine JF λh=>Jn 1 R<|Ob h λx15 hx15 h=>Jh R R R C57 (cu (κ:=Mk K13) hx15) ?_
 rintro _ w19 ⟨k20,rfl,e21⟩
 obtain⟨K22,S23,m24⟩:=Ji e21 6 R
 refine Tv<|Jn 2 R ?_
 cases h
 exact Jv1 _ tv ⟨R,_,S23.wk R⟩<|KM R
 refine JT λh=>Jn 1 R<|Jd1 R R R R<|Jn 2 R ?_
 cases h
 exact Jv1 _ tv ⟨R,_,Jj3⟩<|KM R
 rintro _ w26 _ ⟨rfl,K27,S28⟩
 have h:=hK17
 refine Jd ?_
 revert h
 cases ht29:p17
 refine JF λh=>Jy R<|Js<|Jp<|Jq<|Je3 R ?_
 have hN31:(p1.Next.length:Int)<=9223372036854775807:=g1_0.len_le
 refine Ob h λq2 hq33 hK32=>?_
 clear h
 refine Jx1 (λL w'=>∃κ',L=[(3,.pointer (some ⟨b3,0,none⟩)),(5,vi (p1.Next.length:Int))]/\Stp [] K27 w26 κ' w'/\q2=Sum.inr ()) ?_ ?_
 refine Jv<|Jy1 (λk L w'=>∃κ' v6,L=[(2,.pointer (some ⟨b2,0,none⟩)),(3,.pointer (some ⟨b3,0,none⟩)),(5,vi (p1.Next.length:Int)),(6,vi v6)]/\Stp [] K27 w26 κ' w'/\0<=v6/\Int.toNat ((p1.Next.length:Int)-v6)=k/\cntM (jC p0 p1) k v6 ()=some q2) ⟨_,_,⟨K27,0,R,Jj3,(by decide),(by simp),hq33⟩,(KM R)⟩ ?_
 rintro k _ w37 ⟨K38,v6,rfl,S39,hj31,hJ31,h⟩
 rcases k with _ | k
 have hk40:=h;obtain⟨o31,h⟩:=ca (Sum.inr (Sum.inl ()):Bool⊕((Unit)⊕(Unit)))
 have hc31:decide (v6<(p1.Next.length:Int))=false:=Jo2 (by omega)
 refine Jq<|Jg3 [2,2,1,2,2] 1 R<|Jd3 R U100 R Z26<|Jb3 R I26 ((f8.stp (T3 S14 S28 S39) R R).ld 0 R R)<|Jn3 R U26 R R<|Jb 1 R<|Jw2 R hc31<|Jc1<|Jt<|Jt ?_
 cases h
 have h:=hk40
 refine Jb1 ?_
 cases h
 exact Jw1 _ ⟨K38,R,S39.wk R,R⟩<|KM R
 obtain⟨o31,h,hk40⟩:=BI h;unfold jC at h
 have hc31:decide (v6<(p1.Next.length:Int))=true:=Jn2 (by omega)
 refine Jq<|Jg3 [2,2,1,2,2] 1 R<|Jd3 R U100 R Z26 ?_
 have f42:=f8.stp (T3 S14 S28 S39) R R
 refine Jb3 R I26 (f42.ld 0 R R)<|Jn3 R U26 R R<|Jb 1 R<|Jv2 R hc31<|Js<|Jp<|Jq<|Jv<|Jq<|Js1 (κ:=K38) [0,2,3] none [(0,2),(2,2),(1,0),(3,2),(4,0),(5,2),(6,0),(7,1),(8,2),(9,2),(10,2),(12,2),(15,2),(11,0),(13,2),(14,0),(16,1),(17,2),(18,2)] [] (by kernel_rfl) (by kernel_rfl) λw44 S43=>Jd3 R U100 R Z26<|Jn 1 R ?_
 have f45:=f42.stp S43 R R
 refine Jg R (Jc2 I26 R R<|hvC (f45.ld 0 R R) R)<|Ob h λx28 hx28 h=>Jc3 R g1_0 hx28 U26 Z29 ?_
 have f46:=g1_0.stp (T6 S3 S7 S14 S28 S39 S43) R R
 obtain⟨ax28,ux28,f47,hl48⟩:=f46.gSl hx28
 refine Jg R (Jc2 I29 R R<|hvC hl48 R)<|Jn3 R U29 R R<|Jg R (Jd2 (cs:=[vi p0.In,vi p0.Out]) I25 Z25 R R R<|haC (f9.stp (T4 S14 S28 S39 S43) R R).cells R)<|Ob h λx32 hx32 h=>Jh R R R C58 (dr (κ:=Mk K38) (p0:=p0) hx32) ?_
 rintro _ w50 ⟨k51,rfl,e52⟩
 obtain⟨K53,S54,m55⟩:=Ji e52 6 R
 refine⟨(S54.cl R),Jn 2 R<|Ob h λp43 h hK57=>Ju1 [(10,2),(12,2),(15,2),(11,0),(13,2),(14,0),(16,1),(17,2),(18,2)] [] (λL w'=>L=[(2,.pointer (some ⟨b2,0,none⟩)),(3,.pointer (some ⟨b3,0,none⟩)),(5,vi (p1.Next.length:Int)),(6,vi v6),(43,.bool p43)]/\∃κ',Stp [] K53 w50 κ' w') (S54.cl R) ?_ ?_⟩
 revert h
 cases ht58:((x28.length:Int) !=x32)
 refine JF λh=>Jd3 R U100 R Z26<|Jn 2 R<|Jg R (Jc2 I26 R R<|hvC (f45.ld 0 R R) R)<|Ob h λx38 hx38 h=>Jc3 R f46 hx38 U26 Z29 ?_
 obtain⟨ax38,ux38,f59,hl60⟩:=f46.gSl hx38
 refine Jg R (Jc2 I29 R R<|hvC hl60 R)<|Ob h λx41 hx41 h=>Jh R R R C104 (fJ (κ:=Mk K53) (Ji3<|f59.stp S54 R R) hx41) ?_
 rintro _ w62 ⟨k63,rfl,e64⟩
 obtain⟨K65,S66,m67⟩:=Ji e64 8 R
 refine⟨((S54.tr S66).cl R),Jn 2 R ?_⟩
 cases h
 exact Jv1 _ ((S54.tr S66).cl R) ⟨R,_,S66.wk R⟩<|KM R
 refine JT λh=>Jn 3 R<|Je1 R R R R<|Jn 1 R<|Je1 R R R R<|Jd1 R R R R<|Jn 2 R ?_
 cases h
 exact Jv1 _ (S54.cl R) ⟨R,_,Jj3⟩<|KM R
 rintro _ w69 _ ⟨rfl,K70,S71⟩
 have h:=hK57
 refine Jt1<|Jd ?_
 revert h
 cases ht72:p43
 refine JF λh=>Jy R<|Js<|Jz<|Jp<|Jf3 R ?_
 have hw31:IntKind.wrap .i64 (v6+1)=v6+1:=wr1 hj31 (Jm2 hc31) hN31
 rw[hw31]
 have hc31:=Jm2 hc31
 cases h
 exact Jz1 λa ha=>⟨k,_,Ja3 _,⟨K70,v6+1,R,(T4 S39 S43 S54 S71).wk R,by omega,by omega,hk40⟩,(ha.mm R)⟩
 refine JT λh=>Jx R<|Je3 R<|Ju<|Ja1<|Jw<|Jw ?_
 cases h
 obtain rfl:=Option.some.inj hk40
 have h:=yL hK32
 refine Ja1<|Jq2<|Jw<|Ja2 (l:=[.tmp 4]) V117 (Jp2 R R) R ?_
 cases h
 exact⟨K70,R,(hE.stp (T8 S3 S7 S14 S28 S39 S43 S54 S71) R R)⟩
 rintro _ w34 ⟨K35,rfl,S36,rfl⟩
 have h:=yI hK32
 refine Jp<|Je [2,1,2,1,2] R<|Jd3 R U100 R Z98<|Jb3 R I98 ((f8.stp (T3 S14 S28 S36) R R).ld 1 R R)<|Jn 1 R<|Ob h λx47 hx47 h=>Jh R R R C120 (nS (κ:=Mk K35) (Ji3<|g1_1.stp (T5 S3 S7 S14 S28 S36) R R) hx47) ?_
 rintro _ w76 ⟨k77,rfl,e78⟩
 obtain⟨K79,S80,m81⟩:=Ji e78 6 R
 refine Tv<|Jb 1 R<|Ju<|Ja2 (l:=[.tmp 4]) V117 (Jp2 R R) R ?_
 cases h
 exact⟨K79,R,(hE.stp (T6 S3 S7 S14 S28 S36 S80) R R)⟩
 refine JT λh=>Jx R<|Je3 R<|Ju<|Jw<|Ja2 (l:=[.tmp 4]) V117 (Jp2 R R) R ?_
 cases h
 exact⟨K27,R,(hE.stp (T4 S3 S7 S14 S28) R R)⟩
theorem pE {p0:Sig}{ah am aq ap}{p1:Rival}{ak al an ao}{p2:Word}(g1_0:Rd (Rp.int .i64) κ w 0 ah am p1.In) (g1_1:Rd (Rp.sl (Rp.int .i64)) κ w 0 aq ap p1.Next) (g2_0:Rd (Rp.int .i64) κ w 0 ak al p2.Stem) (g2_1:Rd (Rp.int .i64) κ w 0 an ao p2.Loop){r:Word×Bool}(h:iY p0 p1 p2=some r):Ret Tryz.prog 14 [.agg #[vi p0.In,vi p0.Out],.agg #[.slice ah p1.In.length am,.slice aq p1.Next.length ap],.agg #[.slice ak p2.Stem.length al,.slice an p2.Loop.length ao]] w (λv w'=>∃(κ':Col) (ra0:Option Addr) (ru0:Nat) (ra1:Option Addr) (ru1:Nat),v= .tuple #[.agg #[.slice ra0 r.1.Stem.length ru0,.slice ra1 r.1.Loop.length ru1],.bool r.2]/\Ent κ w κ' w'/\Oc E6 2 κ' w' 2 ra0 ru0 r.1.Stem/\Oc E6 2 κ' w' 3 ra1 ru1 r.1.Loop):=by
 unfold iY at h
 refine Jk3 κ F14 R N14 R λhE=>Je [1,1,1,1,2] R<|Jf1 (κ:=κ) 2 R R R R R R R λb3 w1 K2 S3 f4=>Tv<|Jf1 (κ:=K2) 3 R R R R R R R λb4 w5 K6 S7 f8=>Tv<|Jf1 (κ:=K6) 4 R R R R R R R λb5 w9 K10 S11 f12=>Tv<|Jg1 (κ:=K10) 5 R R R R R X35 R λb6 w13 K14 S15 f16=>Tv<|Jb 1 R<|Jq<|Jq<|Js1 (κ:=K14) [2,3,4] none [(0,0),(1,1),(2,2),(3,2),(4,0),(5,0),(6,1),(7,2),(8,2),(9,2),(11,2),(10,0),(12,0),(13,2),(14,1),(15,2),(16,2)] [] (by kernel_rfl) (by kernel_rfl) λw18 S17=>?_
 have f19:=f4.stp (T4 S7 S11 S15 S17) R R
 refine Jg R (Jd2 (cs:=[vi p0.In,vi p0.Out]) I25 Z25 R R R<|haC f19.cells R)<|Ob h λx13 hx13 h=>Jh R R R C48 (nF (κ:=Mk K14) (p0:=p0) hx13) ?_
 rintro _ w20 ⟨k21,rfl,e22⟩
 obtain⟨K23,S24,m25⟩:=Ji e22 6 R
 refine⟨(S24.cl R),Jn 2 R<|Ob h λp20 h hK27=>Ju1 [(4,0),(5,0),(6,1),(7,2),(8,2)] [(9,2),(11,2),(10,0),(12,0),(13,2),(14,1),(15,2),(16,2)] (λL w'=>L=[(3,.pointer (some ⟨b3,0,none⟩)),(4,.pointer (some ⟨b4,0,none⟩)),(5,.pointer (some ⟨b5,0,none⟩)),(6,.pointer (some ⟨b6,0,none⟩)),(20,.bool p20)]/\∃κ',Stp [] K23 w20 κ' w') (S24.cl R) ?_ ?_⟩
 revert h
 cases ht28:(!x13)
 have S001:=(T6 S3 S7 S11 S15 S17 S24)
 refine JF λh=>Jg R (Jd2 (cs:=[vi p0.In,vi p0.Out]) I25 Z25 R R R<|haC f19.cells R)<|Jg R (Jd2 (cs:=[.slice ah p1.In.length am,.slice aq p1.Next.length ap]) I31 Z31 R R R<|haC (f8.stp (T3 S11 S15 S17) R R).cells R)<|Ob h λx18 hx18 h=>Jh R R R C50 (lB (κ:=Mk K23) (p0:=p0) (p1:=p1) (Ji3<|g1_0.stp S001 R R) (Ji3<|g1_1.stp S001 R R) hx18) ?_
 rintro _ w32 ⟨k33,rfl,e34⟩
 obtain⟨K35,S36,m37⟩:=Ji e34 8 R
 refine⟨((S24.tr S36).cl R),Jn 2 R ?_⟩
 cases h
 exact Jv1 _ ((S24.tr S36).cl R) ⟨R,_,S36.wk R⟩<|KM R
 refine JT λh=>Je1 R R R R<|Je1 R R R R<|Jd1 R R R R<|Jn 2 R ?_
 cases h
 exact Jv1 _ (S24.cl R) ⟨R,_,Jj3⟩<|KM R
 rintro _ w39 _ ⟨rfl,K40,S41⟩
 have h:=hK27
 refine Jn 1 R<|Ob h λp28 h hK42=>Ju1 [(11,2),(10,0),(12,0),(13,2),(14,1),(15,2),(16,2)] [] (λL w'=>L=[(3,.pointer (some ⟨b3,0,none⟩)),(4,.pointer (some ⟨b4,0,none⟩)),(5,.pointer (some ⟨b5,0,none⟩)),(6,.pointer (some ⟨b6,0,none⟩)),(28,.bool p28)]/\∃κ',Stp [] K40 w39 κ' w') ((S24.tr S41).cl R) ?_ ?_
 revert h
 cases ht43:p20
 have S002:=(T7 S3 S7 S11 S15 S17 S24 S41)
 refine JF λh=>Jd3 R U25 R Z2<|Jg R (Jd2 (cs:=[.slice ak p2.Stem.length al,.slice an p2.Loop.length ao]) I35 Z35 R R R<|haC (f12.stp (S15.tr S17) R R).cells R)<|Jg R (Jc2 I2 R R<|hvC (f19.ld 1 R R) R)<|Ob h λ_z25 hz25 h=>Jf R (qc R R R<|te hz25)<|Ob h λx26 hx26 h=>Jh R R R C60 (lW (κ:=Mk K40) (p0:=p2) (Ji3<|g2_0.stp S002 R R) (Ji3<|g2_1.stp S002 R R) hx26) ?_
 rintro _ w47 ⟨k48,rfl,e49⟩
 obtain⟨K50,S51,m52⟩:=Ji e49 8 R
 refine⟨((T3 S24 S41 S51).cl R),Jn 2 R ?_⟩
 cases h
 exact Jv1 _ ((T3 S24 S41 S51).cl R) ⟨R,_,S51.wk R⟩<|KM R
 refine JT λh=>Jn 1 R<|Je1 R R R R<|Je1 R R R R<|Jn 1 R<|Jd1 R R R R<|Jn 2 R ?_
 cases h
 exact Jv1 _ ((S24.tr S41).cl R) ⟨R,_,Jj3⟩<|KM R
 rintro _ w54 _ ⟨rfl,K55,S56⟩
 have h:=hK42
 refine Jt1<|Jd ?_
 revert h
 cases ht57:p28
 refine JF λh=>Jy R<|Js<|Jp<|Je [1,1,1] R<|Jo1 (κ:=K55) (E:=E6) 8 R R R R R Y29 a8 R λaE aD w63 K64 S65 f66=>Tv<|Jg1 (κ:=K64) 9 R R R R R X29 R λb8 w67 K68 S69 f70=>Tv<|Jj1 (κ:=K68) 9 (vc:=[.slice aE ([]:List Int).length aD]) R R R R R R R Z29 R R f70 R λw71 S72 f73=>Tv<|Jd<|Je [1,1] R<|Jg1 (κ:=K68) 10 R R R R R X2 R λb9 w74 K75 S76 f77=>Tv<|Jj1 (κ:=K75) 10 (vc:=[vi 0]) R R R R R R R Z2 R R f77 R λw78 S79 f80=>Tv<|Jd<|Je [2,2] R<|Jf R (oU (first:=[]) (captured:=[.tmp 8,.tmp 3,.tmp 4,.tmp 9]) R R R ⟨_,R⟩)<|Jb 1 R<|Jg3 [2,2,1,1] 1 R<|Jd3 R U35 R Z29 ?_
 have f81:=f12.stp (T10 S15 S17 S24 S41 S56 S65 S69 S72 S76 S79) R R
 refine Jb3 R I29 (f81.ld 0 R R)<|Ob h λx35 hx35 h=>?_
 have f84:=g1_0.stp (T13 S3 S7 S11 S15 S17 S24 S41 S56 S65 S69 S72 S76 S79) R R
 have f85:=g1_1.stp (T13 S3 S7 S11 S15 S17 S24 S41 S56 S65 S69 S72 S76 S79) R R
 have f87:=f19.stp (T8 S24 S41 S56 S65 S69 S72 S76 S79) R R
 have f88:=f8.stp (T11 S11 S15 S17 S24 S41 S56 S65 S69 S72 S76 S79) R R
 refine WO.callV R R R R R R R R C61 (kL (κ:=λb=>mp [(8,2),(9,3),(10,4)] 0<|K75 b) (c1:=p0) (c2:=p1) (Jl2 (g2_0.stp (T13 S3 S7 S11 S15 S17 S24 S41 S56 S65 S69 S72 S76 S79) R R) (mp [(8,2),(9,3),(10,4)] 0) R R) ((f66.stp (T4 S69 S72 S76 S79) R R).map (mp [(8,2),(9,3),(10,4)] 0) R R) (Jl2 f84 (mp [(8,2),(9,3),(10,4)] 0) R R) (Jl2 f85 (mp [(8,2),(9,3),(10,4)] 0) R R) ((f73.stp (S76.tr S79) R R).map (mp [(8,2),(9,3),(10,4)] 0) R R) (f87.map (mp [(8,2),(9,3),(10,4)] 0) R R) (f88.map (mp [(8,2),(9,3),(10,4)] 0) R R) (f80.map (mp [(8,2),(9,3),(10,4)] 0) R R) hx35) ?_
 rintro _ w89 ⟨k90,aC,aB,rfl,e91,f92,f93,f94⟩
 obtain⟨K95,S96,m97⟩:=Ji e91 11 R
 refine Tv<|Jd<|Je [1,2] R<|Jo1 (κ:=K95) (E:=E6) 16 R R R R R Y29 a8 R λaA ax w102 K103 S104 f105=>Tv<|Jb 1 R<|Jq<|Ob h λq2 hq108 hK107=>?_
 clear h
 refine Jx1 (λL w'=>∃κ',∃s3:(List Int)×(List Int)×Int,∃ai ae aj af,L=[(5,.pointer (some ⟨b5,0,none⟩)),(6,.pointer (some ⟨b6,0,none⟩)),(8,.pointer (some ⟨b8,0,none⟩)),(9,.pointer (some ⟨b9,0,none⟩)),(11,.slice ai s3.1.length ae)]/\Stp [13,14,15,16,22,23,24] K103 w102 κ' w'/\Oc E6 2 κ' w' 16 ai ae s3.1/\Oc E6 2 κ' w' 13 aj af s3.2.1/\Bc κ' w' 14 b8 29 [.slice aj s3.2.1.length af]/\Bc κ' w' 15 b9 2 [vi s3.2.2]/\q2=Sum.inr s3) ?_ ?_
 refine Jv<|Jy1 (λk L w'=>∃κ',∃s1:(List Int)×(List Int)×Int,∃aa ac ad ab,L=[(5,.pointer (some ⟨b5,0,none⟩)),(6,.pointer (some ⟨b6,0,none⟩)),(8,.pointer (some ⟨b8,0,none⟩)),(9,.pointer (some ⟨b9,0,none⟩)),(10,.func (.func 61) #[] #[.pointer (some ⟨b8,0,none⟩),.pointer (some ⟨b3,0,none⟩),.pointer (some ⟨b4,0,none⟩),.pointer (some ⟨b9,0,none⟩)]),(11,.slice aa s1.1.length ac)]/\Stp [13,14,15,16,22,23,24] K103 w102 κ' w'/\Oc E6 2 κ' w' 16 aa ac s1.1/\Oc E6 2 κ' w' 13 ad ab s1.2.1/\Bc κ' w' 14 b8 29 [.slice ad s1.2.1.length ab]/\Bc κ' w' 15 b9 2 [vi s1.2.2]/\bI (fp p0 p1 p2) k s1=some q2) ⟨_,_,⟨K103,((([]:List Int):(List Int)),x35.1,x35.2),aA,ax,aC,aB,R,Jj3,f105,((f92.mx (bD _) m97 R (R:11+2=13)).stp S104 R R),((f93.mx m97 R (R:11+3=14)).stp S104 R R),((f94.mx m97 R (R:11+4=15)).stp S104 R R),hq108⟩,(KM R)⟩ ?_
 rintro k _ w116 ⟨K117,s1,aa,ac,ad,ab,rfl,S118,f119,f120,f121,f122,h⟩
 rcases k with _ | k
 cases h
 obtain⟨o106,h,hk126⟩:=BI h;unfold fp at h
 refine Jq<|Jg3 [2,1,1,2] 1 R<|Jb3 R I2 (f122.ld 0 R R)<|Ob h λx39 hx39 h=>Jh R R R C62 (jV (κ:=Mk K117) (Ji3 f119.rdc) hx39) ?_
 rintro _ w127 ⟨k128,rfl,e129⟩
 obtain⟨K130,S131,m132⟩:=Ji e129 17 R
 refine Tv<|Jb 1 R ?_
 revert h
 cases ht134:(!x39)
 refine JF λh=>Jy R<|Jc1<|Jt<|Jt ?_
 cases h
 have h:=hk126
 refine Jb1 ?_
 cases h
 exact Jw1 _ ⟨K130,(s1.1,s1.2.1,s1.2.2),aa,ac,ad,ab,R,(S118.tr S131).wk R,(f119.stp S131 R R),(f120.stp S131 R R),(f121.stp S131 R R),(f122.stp S131 R R),R⟩<|KM R
 refine JT λh=>Jx R<|Js<|Jp<|Jv<|Jg3 [2,1,1,1,2] 1 R ?_
 have f135:=f122.stp S131 R R
 have S003:=(T4 S96 S104 S118 S131)
 refine Jb3 R I2 (f135.ld 0 R R)<|Jn1 (κ:=K130) (E:=E6) 19 [] (parts:=[(0,.tmp 42)]) (cells:=[vi s1.2.2]) (xs:=([s1.2.2]:List Int)) R R R R R R Y29 a8 R R R R R R R R R R ⟨[vi s1.2.2],[],Zl K130 w127 [],Zl K130 w127 [],R,Zl.sp (l1:=[]) (l2:=[]) R,Zl.sr (l1:=[]) (l2:=[]),R,R⟩ λaH aI w136 K137 S138 f139=>Tv<|Ob h λx44 hx44 h=>Jm1 (κ:=K137) (E:=E6) 16 [] R R R R R R R R R Y29 a8 R R R R (f119.stp (S131.tr S138) R R) (Sl.srcP (bM _) f139.rdc) bH hx44 R λay aF w141 K142 S143 f144=>Tv<|Jb 1 R<|Jh3 [2,2,1,1] 1 R<|Jd3 R U35 R Z29<|Jb3 R I29 ((f81.stp (T3 S003 S138 S143) R R).ld 1 R R)<|Ob h λx48 hx48 h=>WO.callV R R R R R R R R C61 (kL (κ:=λb=>mp [(13,2),(14,3),(15,4)] 0<|K142 b) (c1:=p0) (c2:=p1) (Jl2 (g2_1.stp (S3.tr<|S7.tr<|S11.tr<|S15.tr<|S17.tr<|S24.tr<|S41.tr<|S56.tr<|S65.tr<|S69.tr<|S72.tr<|S76.tr<|S79.tr<|S96.tr<|S104.tr<|S118.tr<|S131.tr<|S138.tr S143) R R) (mp [(13,2),(14,3),(15,4)] 0) R R) ((f120.stp (T3 S131 S138 S143) R R).map (mp [(13,2),(14,3),(15,4)] 0) R R) (Jl2 (f84.stp (T3 S003 S138 S143) R R) (mp [(13,2),(14,3),(15,4)] 0) R R) (Jl2 (f85.stp (T3 S003 S138 S143) R R) (mp [(13,2),(14,3),(15,4)] 0) R R) ((f121.stp (T3 S131 S138 S143) R R).map (mp [(13,2),(14,3),(15,4)] 0) R R) ((f87.stp (T3 S003 S138 S143) R R).map (mp [(13,2),(14,3),(15,4)] 0) R R) ((f88.stp (T3 S003 S138 S143) R R).map (mp [(13,2),(14,3),(15,4)] 0) R R) ((f135.stp (S138.tr S143) R R).map (mp [(13,2),(14,3),(15,4)] 0) R R) hx48) ?_
 rintro _ w154 ⟨k155,aG,az,rfl,e156,f157,f158,f159⟩
 obtain⟨K160,S161,m162⟩:=Ji e156 20 R
 refine Tv<|Jo<|Jz ?_
 cases h
 exact Jz1 λa ha=>⟨k,_,Ja3 _,⟨(λb=>ren [(22,13),(23,14),(24,15)]<|K160 b),(x44,x48.1,x48.2),ay,aF,aG,az,R,(Jy2 ((T5 S118 S131 S138 S143 S161).wk R) [(22,13),(23,14),(24,15)] R),((f144.stp S161 R R).map (ren [(22,13),(23,14),(24,15)]) R R),((f157.mx (bD _) m162 R (R:20+2=22)).map (ren [(22,13),(23,14),(24,15)]) R R),((f158.mx m162 R (R:20+3=23)).map (ren [(22,13),(23,14),(24,15)]) R R),((f159.mx m162 R (R:20+4=24)).map (ren [(22,13),(23,14),(24,15)]) R R),hk126⟩,(ha.mm R)⟩
 rintro _ w109 ⟨K110,s3,ai,ae,aj,af,rfl,S111,f112,f113,f114,f115,rfl⟩
 have h:=yI hK107
 refine Jp<|Jq<|Js1 (κ:=K110) [4,14,15] none [(1,2),(4,2),(7,2),(0,0),(2,0),(3,2),(5,0),(8,0),(9,2),(6,1),(10,2),(11,2),(12,1),(13,2),(14,2),(15,1),(16,2)] [] (by kernel_rfl) (by kernel_rfl) λw173 S172=>Jd3 R U35 R Z29<|Jn 1 R<|Jd3 R U35 R Z29<|Jg R (Jc2 I29 R R<|hvC ((f114.stp S172 R R).ld 0 R R) R) ?_
 have f175:=f81.stp (T4 S96 S104 S111 S172) R R
 refine Jg R (Jc2 I29 R R<|hvC (f175.ld 0 R R) R)<|Jn3 R U29 R R<|Jg R (Jc2 I2 R R<|hvC ((f115.stp S172 R R).ld 0 R R) R)<|Jg R (Jc2 I29 R R<|hvC (f175.ld 1 R R) R)<|Jn3 R U29 R R<|Ob h λx55 hx55 h=>Jh R R R C63 (gv (κ:=Mk K110) (Ji3 (f112.stp S172 R R).rdc) hx55) ?_
 rintro _ w178 ⟨k179,rfl,e180⟩
 obtain⟨K181,S182,m183⟩:=Ji e180 17 R
 refine⟨(S182.cl R),Jn 2 R<|Ob h λx61 hx61 h=>Jh R R R C51 (nK (κ:=Mk K181) (Ji3 (f113.stp (S172.tr S182) R R).rdc) hx61) ?_⟩
 rintro _ w186 ⟨k187,av,aw,au,ar,rfl,e188,f189,f190⟩
 obtain⟨K191,S192,m193⟩:=Ji e188 19 R
 refine⟨((S182.tr S192).cl R),Jn 2 R<|Jj1 (κ:=K191) 5 (vc:=[.slice av x61.1.Stem.length aw,.slice au x61.1.Loop.length ar]) R R R R R R R Z35 R R (f16.stp (T15 S17 S24 S41 S56 S65 S69 S72 S76 S79 S96 S104 S111 S172 S182 S192) R R) R λw198 S199 f200=>⟨((T3 S182 S192 S199).cl R),Jn 1 R<|Jt1<|Jd<|Ju<|Ja2 (l:=[.cell 6 35,.tmp 7]) V14 (bF R f200 I35 Z35 R<|Jp2 R R) R ?_⟩⟩
 cases h
 exact⟨(λb=>ren [(21,2),(22,3)]<|K191 b),av,aw,au,ar,R,((hE.stp (S3.tr<|S7.tr<|S11.tr<|S15.tr<|S17.tr<|S24.tr<|S41.tr<|S56.tr<|S65.tr<|S69.tr<|S72.tr<|S76.tr<|S79.tr<|S96.tr<|S104.tr<|S111.tr<|S172.tr<|S182.tr<|S192.tr S199) R R).map (ren [(21,2),(22,3)]) R R),(((f189.mx (bD _) m193 R (R:19+2=21)).stp S199 R R).map (ren [(21,2),(22,3)]) R R),(((f190.mx (bD _) m193 R (R:19+3=22)).stp S199 R R).map (ren [(21,2),(22,3)]) R R)⟩
 refine JT λh=>Jx R<|Je [2,1,2] R<|Jf R (bG (parts:=[]) (cells:=[.slice none 0 0,.slice none 0 0]) R R (by kernel_rfl))<|Jj1 (κ:=K55) 5 (vc:=[.slice none 0 0,.slice none 0 0]) R R R R R R R Z35 R R (f16.stp (T4 S17 S24 S41 S56) R R) R λw59 S60 f61=>Tv<|Jb 1 R<|Ju<|Jw<|Ja2 (l:=[.cell 6 35,.tmp 7]) V14 (bF R f61 I35 Z35 R<|Jp2 R R) R ?_
 cases h
 exact⟨K55,none,0,none,0,R,(hE.stp (T9 S3 S7 S11 S15 S17 S24 S41 S56 S60) R R),Ow.nil,Ow.nil⟩
theorem qy {al ak am ao}{p0:Word}{aj an aq ap}{p1:Word}(g0_0:Rd (Rp.int .i64) κ w 0 al ak p0.Stem) (g0_1:Rd (Rp.int .i64) κ w 0 am ao p0.Loop) (g1_0:Rd (Rp.int .i64) κ w 0 aj an p1.Stem) (g1_1:Rd (Rp.int .i64) κ w 0 aq ap p1.Loop){r:Bool}(h:jL p0 p1=some r):Ret Tryz.prog 15 [.agg #[.slice al p0.Stem.length ak,.slice am p0.Loop.length ao],.agg #[.slice aj p1.Stem.length an,.slice aq p1.Loop.length ap]] w (Pvb κ w r):=by
 unfold jL at h
 refine Jk3 κ F15 R N15 R λhE=>Je [1,1,2] R<|Jf1 (κ:=κ) 2 R R R R R R R λb2 w1 K2 S3 f4=>Tv<|Jf1 (κ:=K2) 3 R R R R R R R λb3 w5 K6 S7 f8=>Tv<|Jb 1 R<|Jq<|Je [1,1,2,2,1,1,2,2] R ?_
 have f9:=f4.stp S7 R R
 refine Jl tv R R R R (Jd2 (cs:=[.slice al p0.Stem.length ak,.slice am p0.Loop.length ao]) I35 Z35 R R R<|haE f9.cells)<|Ob h λx8 hx8 h=>?_
 have f10:=g0_0.stp (S3.tr S7) R R
 have f11:=g0_1.stp (S3.tr S7) R R
 refine Jh R R R C60 (lW (κ:=Mk K6) (p0:=p0) (Ji3 f10) (Ji3 f11) hx8) ?_
 rintro _ w12 ⟨k13,rfl,e14⟩
 obtain⟨K15,S16,m17⟩:=Ji e14 4 R
 refine Tv<|Jn 2 R<|Ob h λp14 h hK19=>Ju1 [(4,1),(5,1),(6,2),(7,2)] [] (λL w'=>L=[(2,.pointer (some ⟨b2,0,none⟩)),(3,.pointer (some ⟨b3,0,none⟩)),(14,.bool p14)]/\∃κ',Stp [] K15 w12 κ' w') tv ?_ ?_
 revert h
 cases ht20:(!x8)
 refine JF λh=>Jl tv R R R R (Jd2 (cs:=[.slice aj p1.Stem.length an,.slice aq p1.Loop.length ap]) I35 Z35 R R R<|haE (f8.stp S16 R R).cells)<|Ob h λx12 hx12 h=>Jh R R R C60 (lW (κ:=Mk K15) (p0:=p1) (Ji3<|g1_0.stp (T3 S3 S7 S16) R R) (Ji3<|g1_1.stp (T3 S3 S7 S16) R R) hx12) ?_
 rintro _ w24 ⟨k25,rfl,e26⟩
 obtain⟨K27,S28,m29⟩:=Ji e26 6 R
 refine Tv<|Jn 2 R ?_
 cases h
 exact Jv1 _ tv ⟨R,_,S28.wk R⟩<|KM R
 refine JT λh=>Jd1 R R R R<|Jd1 R R R R<|Jn 2 R ?_
 cases h
 exact Jv1 _ tv ⟨R,_,Jj3⟩<|KM R
 rintro _ w31 _ ⟨rfl,K32,S33⟩
 have h:=hK19
 refine Jd ?_
 revert h
 cases ht34:p14
 refine JF λh=>Jy R<|Js<|Jp<|Jq<|Ob h λx16 hx16 h=>Ob h λx18 hx18 h=>Jx1 (λL w'=>∃κ' b5 b6 ax au aA aw av ay az ar,L=[(5,.pointer (some ⟨b5,0,none⟩)),(6,.pointer (some ⟨b6,0,none⟩))]/\Stp [6,7,8,9,10,11,12,13,14,15] K32 w31 κ' w'/\Oc E6 2 κ' w' 6 ax au x16.Stem/\Oc E6 2 κ' w' 7 aA aw x16.Loop/\Oc E6 2 κ' w' 8 av ay x18.Stem/\Oc E6 2 κ' w' 9 az ar x18.Loop/\Bc κ' w' 10 b5 35 [.slice ax x16.Stem.length au,.slice aA x16.Loop.length aw]/\Bc κ' w' 11 b6 35 [.slice av x18.Stem.length ay,.slice az x18.Loop.length ar]) ?_ ?_
 refine WC.rxt (κ:=K32) [2,3] none (by kernel_rfl) λw46 S47=>Jq1 (fuel:=6) [(0,0),(2,0)] (by kernel_rfl) (by kernel_rfl) R<|Jg R (Jd2 (cs:=[.slice al p0.Stem.length ak,.slice am p0.Loop.length ao]) I35 Z35 R R R<|haC (f9.stp (T3 S16 S33 S47) R R).cells R)<|Jg R (Jd2 (cs:=[.slice aj p1.Stem.length an,.slice aq p1.Loop.length ap]) I35 Z35 R R R<|haC (f8.stp (T3 S16 S33 S47) R R).cells R)<|Jp1<|WA.fork3 (fuel:=5) 1 4 5 (by kernel_rfl) R ?_ ?_ ?_
 refine Jh R R R C64 (bU (κ:=Mk K32) (p0:=p0) (Ji3<|f10.stp (T3 S16 S33 S47) R R) (Ji3<|f11.stp (T3 S16 S33 S47) R R) hx16) ?_
 rintro _ w52 ⟨k53,ai,ah,af,ae,rfl,e54,f55,f56⟩
 obtain⟨K57,S58,m59⟩:=Ji e54 6 R
 refine⟨(S58.cl R),?_⟩
 have f61:=f55.mx (bD _) m59 R (R:6+2=8)
 have f62:=f56.mx (bD _) m59 R (R:6+3=9)
 refine Jp1<|WA.fork3 (fuel:=4) 3 4 5 (by kernel_rfl) R ?_ ?_ ?_
 have S001:=(T6 S3 S7 S16 S33 S47 S58)
 refine Jh R R R C64 (bU (κ:=Mk K57) (p0:=p1) (Ji3<|g1_0.stp S001 R R) (Ji3<|g1_1.stp S001 R R) hx18) ?_
 rintro _ w65 ⟨k66,ab,aa,ad,ac,rfl,e67,f68,f69⟩
 obtain⟨K70,S71,m72⟩:=Ji e67 10 R
 refine⟨((S58.tr S71).cl R),?_⟩
 have f74:=f68.mx (bD _) m72 R (R:10+2=12)
 have f75:=f69.mx (bD _) m72 R (R:10+3=13)
 refine Jp1<|WA.fork2 (fuel:=3) 4 5 (by kernel_rfl) R ?_ ?_
 have S002:=(S58.tr S71)
 exact Jg1 (κ:=K70) 14 R R R R R X35 R λb5 w76 K77 S78 f79=>⟨((S002.tr S78).cl R),Jp1<|Jq1 (fuel:=0) [(5,1),(6,1),(7,1)] (by kernel_rfl) (by kernel_rfl) R<|Jg1 (κ:=K77) 15 R R R R R X35 R λb6 w80 K81 S82 f83=>⟨((T3 S002 S78 S82).cl R),Jj1 (κ:=K81) 14 (vc:=[.slice ai x16.Stem.length ah,.slice af x16.Loop.length ae]) R R R R R R R Z35 R R (f79.stp S82 R R) R λw85 S86 f87=>⟨((T4 S002 S78 S82 S86).cl R),Jj1 (κ:=K81) 15 (vc:=[.slice ab x18.Stem.length aa,.slice ad x18.Loop.length ac]) R R R R R R R Z35 R R (f83.stp S86 R R) R λw89 S90 f91=>⟨((T5 S002 S78 S82 S86 S90).cl R),Jp1<|Jr1 [] (by kernel_rfl) (by kernel_rfl) R<|Jo<|Jw1 _ ⟨(λb=>ren [(8,6),(9,7),(12,8),(13,9),(14,10),(15,11)]<|K81 b),b5,b6,ai,ah,af,ae,ab,aa,ad,ac,R,(Jy2 ((T7 S47 S58 S71 S78 S82 S86 S90).wk R) [(8,6),(9,7),(12,8),(13,9),(14,10),(15,11)] R),((f61.stp (T5 S71 S78 S82 S86 S90) R R).map (ren [(8,6),(9,7),(12,8),(13,9),(14,10),(15,11)]) R R),((f62.stp (T5 S71 S78 S82 S86 S90) R R).map (ren [(8,6),(9,7),(12,8),(13,9),(14,10),(15,11)]) R R),((f74.stp (T4 S78 S82 S86 S90) R R).map (ren [(8,6),(9,7),(12,8),(13,9),(14,10),(15,11)]) R R),((f75.stp (T4 S78 S82 S86 S90) R R).map (ren [(8,6),(9,7),(12,8),(13,9),(14,10),(15,11)]) R R),((f87.stp S90 R R).map (ren [(8,6),(9,7),(12,8),(13,9),(14,10),(15,11)]) R R),(f91.map (ren [(8,6),(9,7),(12,8),(13,9),(14,10),(15,11)]) R R)⟩<|KM R⟩⟩⟩⟩
 have S003:=(S58.tr S71)
 exact Jg1 (κ:=K70) 14 R R R R R X35 R λb6 w97 K98 S99 f100=>⟨((S003.tr S99).cl R),Jp1<|Jq1 (fuel:=0) [(4,1),(6,1),(7,1)] (by kernel_rfl) (by kernel_rfl) R<|Jg1 (κ:=K98) 15 R R R R R X35 R λb5 w101 K102 S103 f104=>⟨((T3 S003 S99 S103).cl R),Jj1 (κ:=K102) 15 (vc:=[.slice ai x16.Stem.length ah,.slice af x16.Loop.length ae]) R R R R R R R Z35 R R f104 R λw105 S106 f107=>⟨((T4 S003 S99 S103 S106).cl R),Jj1 (κ:=K102) 14 (vc:=[.slice ab x18.Stem.length aa,.slice ad x18.Loop.length ac]) R R R R R R R Z35 R R (f100.stp (S103.tr S106) R R) R λw109 S110 f111=>⟨((T5 S003 S99 S103 S106 S110).cl R),Jp1<|Jr1 [] (by kernel_rfl) (by kernel_rfl) R<|Jo<|Jw1 _ ⟨(λb=>ren [(8,6),(9,7),(12,8),(13,9),(15,10),(14,11)]<|K102 b),b5,b6,ai,ah,af,ae,ab,aa,ad,ac,R,(Jy2 ((T7 S47 S58 S71 S99 S103 S106 S110).wk R) [(8,6),(9,7),(12,8),(13,9),(15,10),(14,11)] R),((f61.stp (T5 S71 S99 S103 S106 S110) R R).map (ren [(8,6),(9,7),(12,8),(13,9),(15,10),(14,11)]) R R),((f62.stp (T5 S71 S99 S103 S106 S110) R R).map (ren [(8,6),(9,7),(12,8),(13,9),(15,10),(14,11)]) R R),((f74.stp (T4 S99 S103 S106 S110) R R).map (ren [(8,6),(9,7),(12,8),(13,9),(15,10),(14,11)]) R R),((f75.stp (T4 S99 S103 S106 S110) R R).map (ren [(8,6),(9,7),(12,8),(13,9),(15,10),(14,11)]) R R),((f107.stp S110 R R).map (ren [(8,6),(9,7),(12,8),(13,9),(15,10),(14,11)]) R R),(f111.map (ren [(8,6),(9,7),(12,8),(13,9),(15,10),(14,11)]) R R)⟩<|KM R⟩⟩⟩⟩
 refine Jg1 (κ:=K57) 10 R R R R R X35 R λb5 w117 K118 S119 f120=>⟨((S58.tr S119).cl R),Jp1<|WA.fork2 (fuel:=3) 3 5 (by kernel_rfl) R ?_ ?_⟩
 have S004:=(T7 S3 S7 S16 S33 S47 S58 S119)
 refine Jh R R R C64 (bU (κ:=Mk K118) (p0:=p1) (Ji3<|g1_0.stp S004 R R) (Ji3<|g1_1.stp S004 R R) hx18) ?_
 rintro _ w123 ⟨k124,ab,aa,ad,ac,rfl,e125,f126,f127⟩
 obtain⟨K128,S129,m130⟩:=Ji e125 11 R
 have S005:=(T3 S58 S119 S129)
 exact⟨(S005.cl R),Jp1<|Jq1 (fuel:=0) [(5,1),(6,1),(7,1)] (by kernel_rfl) (by kernel_rfl) R<|Jg1 (κ:=K128) 15 R R R R R X35 R λb6 w134 K135 S136 f137=>⟨((S005.tr S136).cl R),Jj1 (κ:=K135) 10 (vc:=[.slice ai x16.Stem.length ah,.slice af x16.Loop.length ae]) R R R R R R R Z35 R R (f120.stp (S129.tr S136) R R) R λw139 S140 f141=>⟨((T3 S005 S136 S140).cl R),Jj1 (κ:=K135) 15 (vc:=[.slice ab x18.Stem.length aa,.slice ad x18.Loop.length ac]) R R R R R R R Z35 R R (f137.stp S140 R R) R λw143 S144 f145=>⟨((T4 S005 S136 S140 S144).cl R),Jp1<|Jr1 [] (by kernel_rfl) (by kernel_rfl) R<|Jo<|Jw1 _ ⟨(λb=>ren [(8,6),(9,7),(13,8),(14,9),(15,11)]<|K135 b),b5,b6,ai,ah,af,ae,ab,aa,ad,ac,R,(Jy2 ((T7 S47 S58 S119 S129 S136 S140 S144).wk R) [(8,6),(9,7),(13,8),(14,9),(15,11)] R),((f61.stp (T5 S119 S129 S136 S140 S144) R R).map (ren [(8,6),(9,7),(13,8),(14,9),(15,11)]) R R),((f62.stp (T5 S119 S129 S136 S140 S144) R R).map (ren [(8,6),(9,7),(13,8),(14,9),(15,11)]) R R),(((f126.mx (bD _) m130 R (R:11+2=13)).stp (T3 S136 S140 S144) R R).map (ren [(8,6),(9,7),(13,8),(14,9),(15,11)]) R R),(((f127.mx (bD _) m130 R (R:11+3=14)).stp (T3 S136 S140 S144) R R).map (ren [(8,6),(9,7),(13,8),(14,9),(15,11)]) R R),((f141.stp S144 R R).map (ren [(8,6),(9,7),(13,8),(14,9),(15,11)]) R R),(f145.map (ren [(8,6),(9,7),(13,8),(14,9),(15,11)]) R R)⟩<|KM R⟩⟩⟩⟩
 have S006:=(T7 S3 S7 S16 S33 S47 S58 S119)
 refine Jg1 (κ:=K118) 11 R R R R R X35 R λb6 w151 K152 S153 f154=>⟨((T3 S58 S119 S153).cl R),Jp1<|Jq1 (fuel:=0) [(3,1),(6,1),(7,1)] (by kernel_rfl) (by kernel_rfl) R<|Jh R R R C64 (bU (κ:=Mk K152) (p0:=p1) (Ji3<|g1_0.stp (S006.tr S153) R R) (Ji3<|g1_1.stp (S006.tr S153) R R) hx18) ?_⟩
 rintro _ w157 ⟨k158,ab,aa,ad,ac,rfl,e159,f160,f161⟩
 obtain⟨K162,S163,m164⟩:=Ji e159 12 R
 have S007:=(T4 S58 S119 S153 S163)
 have S008:=(T3 S119 S153 S163)
 exact⟨(S007.cl R),Jj1 (κ:=K162) 10 (vc:=[.slice ai x16.Stem.length ah,.slice af x16.Loop.length ae]) R R R R R R R Z35 R R (f120.stp (S153.tr S163) R R) R λw169 S170 f171=>⟨((S007.tr S170).cl R),Jj1 (κ:=K162) 11 (vc:=[.slice ab x18.Stem.length aa,.slice ad x18.Loop.length ac]) R R R R R R R Z35 R R (f154.stp (S163.tr S170) R R) R λw173 S174 f175=>⟨((T3 S007 S170 S174).cl R),Jp1<|Jr1 [] (by kernel_rfl) (by kernel_rfl) R<|Jo<|Jw1 _ ⟨(λb=>ren [(8,6),(9,7),(14,8),(15,9)]<|K162 b),b5,b6,ai,ah,af,ae,ab,aa,ad,ac,R,(Jy2 ((T7 S47 S58 S119 S153 S163 S170 S174).wk R) [(8,6),(9,7),(14,8),(15,9)] R),((f61.stp (T3 S008 S170 S174) R R).map (ren [(8,6),(9,7),(14,8),(15,9)]) R R),((f62.stp (T3 S008 S170 S174) R R).map (ren [(8,6),(9,7),(14,8),(15,9)]) R R),(((f160.mx (bD _) m164 R (R:12+2=14)).stp (S170.tr S174) R R).map (ren [(8,6),(9,7),(14,8),(15,9)]) R R),(((f161.mx (bD _) m164 R (R:12+3=15)).stp (S170.tr S174) R R).map (ren [(8,6),(9,7),(14,8),(15,9)]) R R),((f171.stp S174 R R).map (ren [(8,6),(9,7),(14,8),(15,9)]) R R),(f175.map (ren [(8,6),(9,7),(14,8),(15,9)]) R R)⟩<|KM R⟩⟩⟩
 refine Jg1 (κ:=K57) 10 R R R R R X35 R λb6 w181 K182 S183 f184=>⟨((S58.tr S183).cl R),Jp1<|WA.fork2 (fuel:=3) 3 4 (by kernel_rfl) R ?_ ?_⟩
 have S009:=(T7 S3 S7 S16 S33 S47 S58 S183)
 refine Jh R R R C64 (bU (κ:=Mk K182) (p0:=p1) (Ji3<|g1_0.stp S009 R R) (Ji3<|g1_1.stp S009 R R) hx18) ?_
 rintro _ w187 ⟨k188,ab,aa,ad,ac,rfl,e189,f190,f191⟩
 obtain⟨K192,S193,m194⟩:=Ji e189 11 R
 have S0010:=(T3 S58 S183 S193)
 exact⟨(S0010.cl R),Jp1<|Jq1 (fuel:=0) [(4,1),(6,1),(7,1)] (by kernel_rfl) (by kernel_rfl) R<|Jg1 (κ:=K192) 15 R R R R R X35 R λb5 w198 K199 S200 f201=>⟨((S0010.tr S200).cl R),Jj1 (κ:=K199) 15 (vc:=[.slice ai x16.Stem.length ah,.slice af x16.Loop.length ae]) R R R R R R R Z35 R R f201 R λw202 S203 f204=>⟨((T3 S0010 S200 S203).cl R),Jj1 (κ:=K199) 10 (vc:=[.slice ab x18.Stem.length aa,.slice ad x18.Loop.length ac]) R R R R R R R Z35 R R (f184.stp (T3 S193 S200 S203) R R) R λw206 S207 f208=>⟨((T4 S0010 S200 S203 S207).cl R),Jp1<|Jr1 [] (by kernel_rfl) (by kernel_rfl) R<|Jo<|Jw1 _ ⟨(λb=>ren [(8,6),(9,7),(13,8),(14,9),(15,10),(10,11)]<|K199 b),b5,b6,ai,ah,af,ae,ab,aa,ad,ac,R,(Jy2 ((T7 S47 S58 S183 S193 S200 S203 S207).wk R) [(8,6),(9,7),(13,8),(14,9),(15,10),(10,11)] R),((f61.stp (T5 S183 S193 S200 S203 S207) R R).map (ren [(8,6),(9,7),(13,8),(14,9),(15,10),(10,11)]) R R),((f62.stp (T5 S183 S193 S200 S203 S207) R R).map (ren [(8,6),(9,7),(13,8),(14,9),(15,10),(10,11)]) R R),(((f190.mx (bD _) m194 R (R:11+2=13)).stp (T3 S200 S203 S207) R R).map (ren [(8,6),(9,7),(13,8),(14,9),(15,10),(10,11)]) R R),(((f191.mx (bD _) m194 R (R:11+3=14)).stp (T3 S200 S203 S207) R R).map (ren [(8,6),(9,7),(13,8),(14,9),(15,10),(10,11)]) R R),((f204.stp S207 R R).map (ren [(8,6),(9,7),(13,8),(14,9),(15,10),(10,11)]) R R),(f208.map (ren [(8,6),(9,7),(13,8),(14,9),(15,10),(10,11)]) R R)⟩<|KM R⟩⟩⟩⟩
 have S0011:=(T7 S3 S7 S16 S33 S47 S58 S183)
 refine Jg1 (κ:=K182) 11 R R R R R X35 R λb5 w214 K215 S216 f217=>⟨((T3 S58 S183 S216).cl R),Jp1<|Jq1 (fuel:=0) [(3,1),(6,1),(7,1)] (by kernel_rfl) (by kernel_rfl) R<|Jh R R R C64 (bU (κ:=Mk K215) (p0:=p1) (Ji3<|g1_0.stp (S0011.tr S216) R R) (Ji3<|g1_1.stp (S0011.tr S216) R R) hx18) ?_⟩
 rintro _ w220 ⟨k221,ab,aa,ad,ac,rfl,e222,f223,f224⟩
 obtain⟨K225,S226,m227⟩:=Ji e222 12 R
 have S0012:=(T4 S58 S183 S216 S226)
 have S0013:=(T3 S183 S216 S226)
 exact⟨(S0012.cl R),Jj1 (κ:=K225) 11 (vc:=[.slice ai x16.Stem.length ah,.slice af x16.Loop.length ae]) R R R R R R R Z35 R R (f217.stp S226 R R) R λw232 S233 f234=>⟨((S0012.tr S233).cl R),Jj1 (κ:=K225) 10 (vc:=[.slice ab x18.Stem.length aa,.slice ad x18.Loop.length ac]) R R R R R R R Z35 R R (f184.stp (T3 S216 S226 S233) R R) R λw236 S237 f238=>⟨((T3 S0012 S233 S237).cl R),Jp1<|Jr1 [] (by kernel_rfl) (by kernel_rfl) R<|Jo<|Jw1 _ ⟨(λb=>ren [(8,6),(9,7),(14,8),(15,9),(11,10),(10,11)]<|K225 b),b5,b6,ai,ah,af,ae,ab,aa,ad,ac,R,(Jy2 ((T7 S47 S58 S183 S216 S226 S233 S237).wk R) [(8,6),(9,7),(14,8),(15,9),(11,10),(10,11)] R),((f61.stp (T3 S0013 S233 S237) R R).map (ren [(8,6),(9,7),(14,8),(15,9),(11,10),(10,11)]) R R),((f62.stp (T3 S0013 S233 S237) R R).map (ren [(8,6),(9,7),(14,8),(15,9),(11,10),(10,11)]) R R),(((f223.mx (bD _) m227 R (R:12+2=14)).stp (S233.tr S237) R R).map (ren [(8,6),(9,7),(14,8),(15,9),(11,10),(10,11)]) R R),(((f224.mx (bD _) m227 R (R:12+3=15)).stp (S233.tr S237) R R).map (ren [(8,6),(9,7),(14,8),(15,9),(11,10),(10,11)]) R R),((f234.stp S237 R R).map (ren [(8,6),(9,7),(14,8),(15,9),(11,10),(10,11)]) R R),(f238.map (ren [(8,6),(9,7),(14,8),(15,9),(11,10),(10,11)]) R R)⟩<|KM R⟩⟩⟩
 refine Jg1 (κ:=K32) 6 R R R R R X35 R λb5 w244 K245 S246 f247=>⟨(S246.cl R),Jp1<|WA.fork2 (fuel:=4) 1 5 (by kernel_rfl) R ?_ ?_⟩
 have S0014:=(T4 S16 S33 S47 S246)
 refine Jh R R R C64 (bU (κ:=Mk K245) (p0:=p0) (Ji3<|f10.stp S0014 R R) (Ji3<|f11.stp S0014 R R) hx16) ?_
 rintro _ w250 ⟨k251,ai,ah,af,ae,rfl,e252,f253,f254⟩
 obtain⟨K255,S256,m257⟩:=Ji e252 7 R
 refine⟨((S246.tr S256).cl R),?_⟩
 have f259:=f253.mx (bD _) m257 R (R:7+2=9)
 have f260:=f254.mx (bD _) m257 R (R:7+3=10)
 refine Jp1<|WA.fork2 (fuel:=3) 3 5 (by kernel_rfl) R ?_ ?_
 have S0015:=(T7 S3 S7 S16 S33 S47 S246 S256)
 refine Jh R R R C64 (bU (κ:=Mk K255) (p0:=p1) (Ji3<|g1_0.stp S0015 R R) (Ji3<|g1_1.stp S0015 R R) hx18) ?_
 rintro _ w263 ⟨k264,ab,aa,ad,ac,rfl,e265,f266,f267⟩
 obtain⟨K268,S269,m270⟩:=Ji e265 11 R
 have S0016:=(T3 S246 S256 S269)
 exact⟨(S0016.cl R),Jp1<|Jq1 (fuel:=0) [(5,1),(6,1),(7,1)] (by kernel_rfl) (by kernel_rfl) R<|Jg1 (κ:=K268) 15 R R R R R X35 R λb6 w274 K275 S276 f277=>⟨((S0016.tr S276).cl R),Jj1 (κ:=K275) 6 (vc:=[.slice ai x16.Stem.length ah,.slice af x16.Loop.length ae]) R R R R R R R Z35 R R (f247.stp (T3 S256 S269 S276) R R) R λw279 S280 f281=>⟨((T3 S0016 S276 S280).cl R),Jj1 (κ:=K275) 15 (vc:=[.slice ab x18.Stem.length aa,.slice ad x18.Loop.length ac]) R R R R R R R Z35 R R (f277.stp S280 R R) R λw283 S284 f285=>⟨((T4 S0016 S276 S280 S284).cl R),Jp1<|Jr1 [] (by kernel_rfl) (by kernel_rfl) R<|Jo<|Jw1 _ ⟨(λb=>ren [(9,6),(10,7),(13,8),(14,9),(6,10),(15,11)]<|K275 b),b5,b6,ai,ah,af,ae,ab,aa,ad,ac,R,(Jy2 ((T7 S47 S246 S256 S269 S276 S280 S284).wk R) [(9,6),(10,7),(13,8),(14,9),(6,10),(15,11)] R),((f259.stp (T4 S269 S276 S280 S284) R R).map (ren [(9,6),(10,7),(13,8),(14,9),(6,10),(15,11)]) R R),((f260.stp (T4 S269 S276 S280 S284) R R).map (ren [(9,6),(10,7),(13,8),(14,9),(6,10),(15,11)]) R R),(((f266.mx (bD _) m270 R (R:11+2=13)).stp (T3 S276 S280 S284) R R).map (ren [(9,6),(10,7),(13,8),(14,9),(6,10),(15,11)]) R R),(((f267.mx (bD _) m270 R (R:11+3=14)).stp (T3 S276 S280 S284) R R).map (ren [(9,6),(10,7),(13,8),(14,9),(6,10),(15,11)]) R R),((f281.stp S284 R R).map (ren [(9,6),(10,7),(13,8),(14,9),(6,10),(15,11)]) R R),(f285.map (ren [(9,6),(10,7),(13,8),(14,9),(6,10),(15,11)]) R R)⟩<|KM R⟩⟩⟩⟩
 have S0017:=(T7 S3 S7 S16 S33 S47 S246 S256)
 refine Jg1 (κ:=K255) 11 R R R R R X35 R λb6 w291 K292 S293 f294=>⟨((T3 S246 S256 S293).cl R),Jp1<|Jq1 (fuel:=0) [(3,1),(6,1),(7,1)] (by kernel_rfl) (by kernel_rfl) R<|Jh R R R C64 (bU (κ:=Mk K292) (p0:=p1) (Ji3<|g1_0.stp (S0017.tr S293) R R) (Ji3<|g1_1.stp (S0017.tr S293) R R) hx18) ?_⟩
 rintro _ w297 ⟨k298,ab,aa,ad,ac,rfl,e299,f300,f301⟩
 obtain⟨K302,S303,m304⟩:=Ji e299 12 R
 have S0018:=(T4 S246 S256 S293 S303)
 exact⟨(S0018.cl R),Jj1 (κ:=K302) 6 (vc:=[.slice ai x16.Stem.length ah,.slice af x16.Loop.length ae]) R R R R R R R Z35 R R (f247.stp (T3 S256 S293 S303) R R) R λw309 S310 f311=>⟨((S0018.tr S310).cl R),Jj1 (κ:=K302) 11 (vc:=[.slice ab x18.Stem.length aa,.slice ad x18.Loop.length ac]) R R R R R R R Z35 R R (f294.stp (S303.tr S310) R R) R λw313 S314 f315=>⟨((T3 S0018 S310 S314).cl R),Jp1<|Jr1 [] (by kernel_rfl) (by kernel_rfl) R<|Jo<|Jw1 _ ⟨(λb=>ren [(9,6),(10,7),(14,8),(15,9),(6,10)]<|K302 b),b5,b6,ai,ah,af,ae,ab,aa,ad,ac,R,(Jy2 ((T7 S47 S246 S256 S293 S303 S310 S314).wk R) [(9,6),(10,7),(14,8),(15,9),(6,10)] R),((f259.stp (T4 S293 S303 S310 S314) R R).map (ren [(9,6),(10,7),(14,8),(15,9),(6,10)]) R R),((f260.stp (T4 S293 S303 S310 S314) R R).map (ren [(9,6),(10,7),(14,8),(15,9),(6,10)]) R R),(((f300.mx (bD _) m304 R (R:12+2=14)).stp (S310.tr S314) R R).map (ren [(9,6),(10,7),(14,8),(15,9),(6,10)]) R R),(((f301.mx (bD _) m304 R (R:12+3=15)).stp (S310.tr S314) R R).map (ren [(9,6),(10,7),(14,8),(15,9),(6,10)]) R R),((f311.stp S314 R R).map (ren [(9,6),(10,7),(14,8),(15,9),(6,10)]) R R),(f315.map (ren [(9,6),(10,7),(14,8),(15,9),(6,10)]) R R)⟩<|KM R⟩⟩⟩
 have S0019:=(T4 S16 S33 S47 S246)
 refine Jg1 (κ:=K245) 7 R R R R R X35 R λb6 w321 K322 S323 f324=>⟨((S246.tr S323).cl R),Jp1<|Jq1 (fuel:=0) [(1,1),(3,1),(6,1),(7,1)] (by kernel_rfl) (by kernel_rfl) R<|Jh R R R C64 (bU (κ:=Mk K322) (p0:=p0) (Ji3<|f10.stp (S0019.tr S323) R R) (Ji3<|f11.stp (S0019.tr S323) R R) hx16) ?_⟩
 rintro _ w327 ⟨k328,ai,ah,af,ae,rfl,e329,f330,f331⟩
 obtain⟨K332,S333,m334⟩:=Ji e329 8 R
 have S0020:=(T8 S3 S7 S16 S33 S47 S246 S323 S333)
 refine⟨((T3 S246 S323 S333).cl R),Jh R R R C64 (bU (κ:=Mk K332) (p0:=p1) (Ji3<|g1_0.stp S0020 R R) (Ji3<|g1_1.stp S0020 R R) hx18) ?_⟩
 rintro _ w340 ⟨k341,ab,aa,ad,ac,rfl,e342,f343,f344⟩
 obtain⟨K345,S346,m347⟩:=Ji e342 12 R
 have S0021:=(T4 S246 S323 S333 S346)
 exact⟨(S0021.cl R),Jj1 (κ:=K345) 6 (vc:=[.slice ai x16.Stem.length ah,.slice af x16.Loop.length ae]) R R R R R R R Z35 R R (f247.stp (T3 S323 S333 S346) R R) R λw352 S353 f354=>⟨((S0021.tr S353).cl R),Jj1 (κ:=K345) 7 (vc:=[.slice ab x18.Stem.length aa,.slice ad x18.Loop.length ac]) R R R R R R R Z35 R R (f324.stp (T3 S333 S346 S353) R R) R λw356 S357 f358=>⟨((T3 S0021 S353 S357).cl R),Jp1<|Jr1 [] (by kernel_rfl) (by kernel_rfl) R<|Jo<|Jw1 _ ⟨(λb=>ren [(10,6),(11,7),(14,8),(15,9),(6,10),(7,11)]<|K345 b),b5,b6,ai,ah,af,ae,ab,aa,ad,ac,R,(Jy2 ((T7 S47 S246 S323 S333 S346 S353 S357).wk R) [(10,6),(11,7),(14,8),(15,9),(6,10),(7,11)] R),(((f330.mx (bD _) m334 R (R:8+2=10)).stp (T3 S346 S353 S357) R R).map (ren [(10,6),(11,7),(14,8),(15,9),(6,10),(7,11)]) R R),(((f331.mx (bD _) m334 R (R:8+3=11)).stp (T3 S346 S353 S357) R R).map (ren [(10,6),(11,7),(14,8),(15,9),(6,10),(7,11)]) R R),(((f343.mx (bD _) m347 R (R:12+2=14)).stp (S353.tr S357) R R).map (ren [(10,6),(11,7),(14,8),(15,9),(6,10),(7,11)]) R R),(((f344.mx (bD _) m347 R (R:12+3=15)).stp (S353.tr S357) R R).map (ren [(10,6),(11,7),(14,8),(15,9),(6,10),(7,11)]) R R),((f354.stp S357 R R).map (ren [(10,6),(11,7),(14,8),(15,9),(6,10),(7,11)]) R R),(f358.map (ren [(10,6),(11,7),(14,8),(15,9),(6,10),(7,11)]) R R)⟩<|KM R⟩⟩⟩
 refine Jg1 (κ:=K32) 6 R R R R R X35 R λb6 w364 K365 S366 f367=>⟨(S366.cl R),Jp1<|WA.fork2 (fuel:=4) 1 4 (by kernel_rfl) R ?_ ?_⟩
 have S0022:=(T4 S16 S33 S47 S366)
 refine Jh R R R C64 (bU (κ:=Mk K365) (p0:=p0) (Ji3<|f10.stp S0022 R R) (Ji3<|f11.stp S0022 R R) hx16) ?_
 rintro _ w370 ⟨k371,ai,ah,af,ae,rfl,e372,f373,f374⟩
 obtain⟨K375,S376,m377⟩:=Ji e372 7 R
 refine⟨((S366.tr S376).cl R),?_⟩
 have f379:=f373.mx (bD _) m377 R (R:7+2=9)
 have f380:=f374.mx (bD _) m377 R (R:7+3=10)
 refine Jp1<|WA.fork2 (fuel:=3) 3 4 (by kernel_rfl) R ?_ ?_
 have S0023:=(T7 S3 S7 S16 S33 S47 S366 S376)
 refine Jh R R R C64 (bU (κ:=Mk K375) (p0:=p1) (Ji3<|g1_0.stp S0023 R R) (Ji3<|g1_1.stp S0023 R R) hx18) ?_
 rintro _ w383 ⟨k384,ab,aa,ad,ac,rfl,e385,f386,f387⟩
 obtain⟨K388,S389,m390⟩:=Ji e385 11 R
 have S0024:=(T3 S366 S376 S389)
 exact⟨(S0024.cl R),Jp1<|Jq1 (fuel:=0) [(4,1),(6,1),(7,1)] (by kernel_rfl) (by kernel_rfl) R<|Jg1 (κ:=K388) 15 R R R R R X35 R λb5 w394 K395 S396 f397=>⟨((S0024.tr S396).cl R),Jj1 (κ:=K395) 15 (vc:=[.slice ai x16.Stem.length ah,.slice af x16.Loop.length ae]) R R R R R R R Z35 R R f397 R λw398 S399 f400=>⟨((T3 S0024 S396 S399).cl R),Jj1 (κ:=K395) 6 (vc:=[.slice ab x18.Stem.length aa,.slice ad x18.Loop.length ac]) R R R R R R R Z35 R R (f367.stp (T4 S376 S389 S396 S399) R R) R λw402 S403 f404=>⟨((T4 S0024 S396 S399 S403).cl R),Jp1<|Jr1 [] (by kernel_rfl) (by kernel_rfl) R<|Jo<|Jw1 _ ⟨(λb=>ren [(9,6),(10,7),(13,8),(14,9),(15,10),(6,11)]<|K395 b),b5,b6,ai,ah,af,ae,ab,aa,ad,ac,R,(Jy2 ((T7 S47 S366 S376 S389 S396 S399 S403).wk R) [(9,6),(10,7),(13,8),(14,9),(15,10),(6,11)] R),((f379.stp (T4 S389 S396 S399 S403) R R).map (ren [(9,6),(10,7),(13,8),(14,9),(15,10),(6,11)]) R R),((f380.stp (T4 S389 S396 S399 S403) R R).map (ren [(9,6),(10,7),(13,8),(14,9),(15,10),(6,11)]) R R),(((f386.mx (bD _) m390 R (R:11+2=13)).stp (T3 S396 S399 S403) R R).map (ren [(9,6),(10,7),(13,8),(14,9),(15,10),(6,11)]) R R),(((f387.mx (bD _) m390 R (R:11+3=14)).stp (T3 S396 S399 S403) R R).map (ren [(9,6),(10,7),(13,8),(14,9),(15,10),(6,11)]) R R),((f400.stp S403 R R).map (ren [(9,6),(10,7),(13,8),(14,9),(15,10),(6,11)]) R R),(f404.map (ren [(9,6),(10,7),(13,8),(14,9),(15,10),(6,11)]) R R)⟩<|KM R⟩⟩⟩⟩
 have S0025:=(T7 S3 S7 S16 S33 S47 S366 S376)
 refine Jg1 (κ:=K375) 11 R R R R R X35 R λb5 w410 K411 S412 f413=>⟨((T3 S366 S376 S412).cl R),Jp1<|Jq1 (fuel:=0) [(3,1),(6,1),(7,1)] (by kernel_rfl) (by kernel_rfl) R<|Jh R R R C64 (bU (κ:=Mk K411) (p0:=p1) (Ji3<|g1_0.stp (S0025.tr S412) R R) (Ji3<|g1_1.stp (S0025.tr S412) R R) hx18) ?_⟩
 rintro _ w416 ⟨k417,ab,aa,ad,ac,rfl,e418,f419,f420⟩
 obtain⟨K421,S422,m423⟩:=Ji e418 12 R
 have S0026:=(T4 S366 S376 S412 S422)
 exact⟨(S0026.cl R),Jj1 (κ:=K421) 11 (vc:=[.slice ai x16.Stem.length ah,.slice af x16.Loop.length ae]) R R R R R R R Z35 R R (f413.stp S422 R R) R λw428 S429 f430=>⟨((S0026.tr S429).cl R),Jj1 (κ:=K421) 6 (vc:=[.slice ab x18.Stem.length aa,.slice ad x18.Loop.length ac]) R R R R R R R Z35 R R (f367.stp (T4 S376 S412 S422 S429) R R) R λw432 S433 f434=>⟨((T3 S0026 S429 S433).cl R),Jp1<|Jr1 [] (by kernel_rfl) (by kernel_rfl) R<|Jo<|Jw1 _ ⟨(λb=>ren [(9,6),(10,7),(14,8),(15,9),(11,10),(6,11)]<|K421 b),b5,b6,ai,ah,af,ae,ab,aa,ad,ac,R,(Jy2 ((T7 S47 S366 S376 S412 S422 S429 S433).wk R) [(9,6),(10,7),(14,8),(15,9),(11,10),(6,11)] R),((f379.stp (T4 S412 S422 S429 S433) R R).map (ren [(9,6),(10,7),(14,8),(15,9),(11,10),(6,11)]) R R),((f380.stp (T4 S412 S422 S429 S433) R R).map (ren [(9,6),(10,7),(14,8),(15,9),(11,10),(6,11)]) R R),(((f419.mx (bD _) m423 R (R:12+2=14)).stp (S429.tr S433) R R).map (ren [(9,6),(10,7),(14,8),(15,9),(11,10),(6,11)]) R R),(((f420.mx (bD _) m423 R (R:12+3=15)).stp (S429.tr S433) R R).map (ren [(9,6),(10,7),(14,8),(15,9),(11,10),(6,11)]) R R),((f430.stp S433 R R).map (ren [(9,6),(10,7),(14,8),(15,9),(11,10),(6,11)]) R R),(f434.map (ren [(9,6),(10,7),(14,8),(15,9),(11,10),(6,11)]) R R)⟩<|KM R⟩⟩⟩
 have S0027:=(T4 S16 S33 S47 S366)
 refine Jg1 (κ:=K365) 7 R R R R R X35 R λb5 w440 K441 S442 f443=>⟨((S366.tr S442).cl R),Jp1<|Jq1 (fuel:=0) [(1,1),(3,1),(6,1),(7,1)] (by kernel_rfl) (by kernel_rfl) R<|Jh R R R C64 (bU (κ:=Mk K441) (p0:=p0) (Ji3<|f10.stp (S0027.tr S442) R R) (Ji3<|f11.stp (S0027.tr S442) R R) hx16) ?_⟩
 rintro _ w446 ⟨k447,ai,ah,af,ae,rfl,e448,f449,f450⟩
 obtain⟨K451,S452,m453⟩:=Ji e448 8 R
 have S0028:=(T8 S3 S7 S16 S33 S47 S366 S442 S452)
 refine⟨((T3 S366 S442 S452).cl R),Jh R R R C64 (bU (κ:=Mk K451) (p0:=p1) (Ji3<|g1_0.stp S0028 R R) (Ji3<|g1_1.stp S0028 R R) hx18) ?_⟩
 rintro _ w459 ⟨k460,ab,aa,ad,ac,rfl,e461,f462,f463⟩
 obtain⟨K464,S465,m466⟩:=Ji e461 12 R
 have S0029:=(T4 S366 S442 S452 S465)
 exact⟨(S0029.cl R),Jj1 (κ:=K464) 7 (vc:=[.slice ai x16.Stem.length ah,.slice af x16.Loop.length ae]) R R R R R R R Z35 R R (f443.stp (S452.tr S465) R R) R λw471 S472 f473=>⟨((S0029.tr S472).cl R),Jj1 (κ:=K464) 6 (vc:=[.slice ab x18.Stem.length aa,.slice ad x18.Loop.length ac]) R R R R R R R Z35 R R (f367.stp (T4 S442 S452 S465 S472) R R) R λw475 S476 f477=>⟨((T3 S0029 S472 S476).cl R),Jp1<|Jr1 [] (by kernel_rfl) (by kernel_rfl) R<|Jo<|Jw1 _ ⟨(λb=>ren [(10,6),(11,7),(14,8),(15,9),(7,10),(6,11)]<|K464 b),b5,b6,ai,ah,af,ae,ab,aa,ad,ac,R,(Jy2 ((T7 S47 S366 S442 S452 S465 S472 S476).wk R) [(10,6),(11,7),(14,8),(15,9),(7,10),(6,11)] R),(((f449.mx (bD _) m453 R (R:8+2=10)).stp (T3 S465 S472 S476) R R).map (ren [(10,6),(11,7),(14,8),(15,9),(7,10),(6,11)]) R R),(((f450.mx (bD _) m453 R (R:8+3=11)).stp (T3 S465 S472 S476) R R).map (ren [(10,6),(11,7),(14,8),(15,9),(7,10),(6,11)]) R R),(((f462.mx (bD _) m466 R (R:12+2=14)).stp (S472.tr S476) R R).map (ren [(10,6),(11,7),(14,8),(15,9),(7,10),(6,11)]) R R),(((f463.mx (bD _) m466 R (R:12+3=15)).stp (S472.tr S476) R R).map (ren [(10,6),(11,7),(14,8),(15,9),(7,10),(6,11)]) R R),((f473.stp S476 R R).map (ren [(10,6),(11,7),(14,8),(15,9),(7,10),(6,11)]) R R),(f477.map (ren [(10,6),(11,7),(14,8),(15,9),(7,10),(6,11)]) R R)⟩<|KM R⟩⟩⟩
 rintro _ w36 ⟨K37,b5,b6,ax,au,aA,aw,av,ay,az,ar,rfl,S38,f40,f41,f42,f43,f44,f45⟩
 refine Jp<|Je [2,1,2,1,1,2,2,1,2,1,1,2,2] R<|Jd3 R U35 R Z29<|Jb3 R I29 (f44.ld 0 R R)<|Jd3 R U35 R Z29<|Jb3 R I29 (f45.ld 0 R R)<|Ob h λx23 hx23 h=>Jh R R R C65 (ec (κ:=Mk K37) (Ji3 f40.rdc) (Ji3 f42.rdc) hx23) ?_
 rintro _ w483 ⟨k484,rfl,e485⟩
 obtain⟨K486,S487,m488⟩:=Ji e485 12 R
 refine Tv<|Jn 1 R<|Ob h λp30 h hK490=>Ju1 [(6,2),(7,1),(8,2),(9,1),(10,1),(11,2)] [(12,2)] (λL w'=>L=[(30,.bool p30)]/\∃κ',Stp [] K486 w483 κ' w') tv ?_ ?_
 revert h
 cases ht491:x23
 refine JF λh=>Jn 1 R<|Jd1 R R R R<|Jn 1 R<|Jd1 R R R R<|Jd1 R R R R<|Jn 1 R ?_
 cases h
 exact Jv1 _ tv ⟨R,_,Jj3⟩<|KM R
 refine JT λh=>Jd3 R U35 R Z29<|Jb3 R I29 ((f44.stp S487 R R).ld 1 R R)<|Jd3 R U35 R Z29<|Jb3 R I29 ((f45.stp S487 R R).ld 1 R R)<|Ob h λx29 hx29 h=>Jh R R R C65 (ec (κ:=Mk K486) (Ji3 (f41.stp S487 R R).rdc) (Ji3 (f43.stp S487 R R).rdc) hx29) ?_
 rintro _ w496 ⟨k497,rfl,e498⟩
 obtain⟨K499,S500,m501⟩:=Ji e498 14 R
 refine Tv<|Jn 1 R ?_
 cases h
 exact Jv1 _ tv ⟨R,_,S500.wk R⟩<|KM R
 rintro _ w503 _ ⟨rfl,K504,S505⟩
 have h:=hK490
 refine Jb 1 R<|Ju<|Ja2 (l:=[.tmp 4]) V15 (Jp2 R R) R ?_
 cases h
 exact⟨K504,R,(hE.stp (T7 S3 S7 S16 S33 S38 S487 S505) R R)⟩
 refine JT λh=>Jx R<|Je3 R<|Ju<|Jw<|Ja2 (l:=[.tmp 4]) V15 (Jp2 R R) R ?_
 cases h
 exact⟨K32,R,(hE.stp (T4 S3 S7 S16 S33) R R)⟩
end Go.Proofs.YtpcjbkgbnoocaaaGreat
