/- The walks, part 5. By program. -/
import Derived.Test.YtpcjbkgbnoocaaaGreatFns4DU
set_option linter.unusedVariables false
set_option linter.unusedSimpArgs false
open Go.IntKind renaming wrap → sh
open Sum renaming inr → yk, inl → yl
open Int renaming toNat → yn
namespace Go.Proofs.YtpcjbkgbnoocaaaGreat
open Go Go.Wk Go.Proofs
set_option maxRecDepth 100000
set_option maxHeartbeats 1000000
variable {w:World}{κ:Col}
theorem pc {ac ab}{p0:l1Cur}{p1:Sig}{b0}(g0_0:Rd (Rp.int .u8) κ w 0 ac ab p0.b) (gb0:Bc κ w 2 b0 142 [.slice ac p0.b.length ab,vi p0.i,vi p0.h]){r:Machine×Int×Int}(h:ig p0 p1=some r):Ret Tryz.prog 158 [.pointer (some ⟨b0,0,none⟩),.agg #[vi p1.In,vi p1.Out]] w (λv w'=>∃(κ':Col) (ra0:Option Addr) (ru0:Nat) (ra1:Option Addr) (ru1:Nat),v= .agg #[.slice ra0 r.1.Next.length ru0,.slice ra1 r.1.Out.length ru1]/\Ent κ w κ' w'/\Oc (Ep.own E6 2) 29 κ' w' 3 ra0 ru0 r.1.Next/\Rd (Rp.sl (Rp.int .i64)) κ' w' 0 ra1 ru1 r.1.Out/\Bc κ' w' 2 b0 142 [.slice ac p0.b.length ab,vi r.2.1,vi r.2.2]):=by
 unfold ig at h
 refine Jk3 κ F158 R N158 R λhE=>Je [1,1] R<|Jf1 (κ:=κ) 3 R R R R R R R λb3 w1 K2 S3 f4=>Tv<|Jg1 (κ:=K2) 4 R R R R R X28 R λb4 w5 K6 S7 f8=>Tv<|Jd<|Jg3 [2,1,1,1,1] 1 R<|Jl tv R R R R (Jd2 (cs:=[vi p1.In,vi p1.Out]) I25 Z25 R R R<|haE (f4.stp S7 R R).cells)<|Ob h λx9 hx9 h=>?_
 have f10:=g0_0.stp (S3.tr S7) R R
 refine Jh R R R C157 (n8 (κ:=λb=>mp [(2,2)] 0<|K6 b) (p1:=p1) (p0:=p0) (Jl2 f10 (mp [(2,2)] 0) R R) ((gb0.stp (S3.tr S7) R R).map (mp [(2,2)] 0) R R) hx9) ?_
 rintro _ w12 ⟨k13,af,ae,ad,aa,rfl,e14,f15,f16,f17⟩
 obtain⟨K18,S19,m20⟩:=Ji e14 5 R
 refine Tv<|?_
 have f22:=f15.mx (cD (bD _) _) m20 R (R:5+3=8)
 have f23:=f16.mx (cD (bD _) _) m20 R (R:5+4=9)
 refine Jg1 (κ:=K18) 10 R R R R R X28 R λb5 w25 K26 S27 f28=>Tv<|Jj1 (κ:=K26) 10 (vc:=[.slice af x9.1.Next.length ae,.slice ad x9.1.Out.length aa]) R R R R R R R Z28 R R f28 R λw29 S30 f31=>Tv<|Jd<|Jg3 [2,2,1,2,1,2] 1 R<|Jd3 R U28 R Z26<|Jb3 R I26 (f31.ld 0 R R)<|Jn3 R U26 R R<|Ob h λx14 hx14 h=>?_
 have f32:=f10.stp (T3 S19 S27 S30) R R
 refine Jh R R R C105 (bS (κ:=λb=>mp [(7,2)] 0<|K26 b) (p0:=(⟨p0.b,x9.2.1,x9.2.2⟩:l1Cur)) (Jl2 f32 (mp [(7,2)] 0) R R) (((f17.mx m20 R (R:5+2=7)).stp (S27.tr S30) R R).map (mp [(7,2)] 0) R R) hx14) ?_
 rintro _ w34 ⟨k35,rfl,e36,f37⟩
 obtain⟨K38,S39,m40⟩:=Ji e36 11 R
 refine Tv<|Jb 1 R<|Jq<|Jg3 [2,1] 1 R<|Ob h λx16 hx16 h=>?_
 have f43:=f32.stp S39 R R
 refine Jh R R R C105 (bS (κ:=λb=>mp [(13,2)] 0<|K38 b) (p0:=(⟨p0.b,x14.2.1,x14.2.2⟩:l1Cur)) (Jl2 f43 (mp [(13,2)] 0) R R) ((f37.mx m40 R (R:11+2=13)).map (mp [(13,2)] 0) R R) hx16) ?_
 rintro _ w44 ⟨k45,rfl,e46,f47⟩
 obtain⟨K48,S49,m50⟩:=Ji e46 14 R
 refine Tv<|?_
 have f52:=f47.mx m50 R (R:14+2=16)
 refine Jd<|Jv<|Je3 R<|Ob h λq1 h hK53=>Jx1 (λL w'=>∃κ' ak aj ah ai,L=[(0,.pointer (some ⟨b0,0,none⟩)),(4,.pointer (some ⟨b4,0,none⟩)),(5,.pointer (some ⟨b5,0,none⟩))]/\Stp [8,9,10,16,18,19,20,22,23,26,27] K48 w44 κ' w'/\Oc (Ep.own E6 2) 29 κ' w' 8 ak aj q1.2.2.1/\Rd (Rp.sl<|Rp.int .i64) κ' w' 0 ah ai q1.2.2.2/\Bc κ' w' 16 b0 142 [.slice ac p0.b.length ab,vi q1.1,vi q1.2.1]/\Bc κ' w' 10 b5 28 [.slice ak q1.2.2.1.length aj,.slice ah q1.2.2.2.length ai]) ?_ ?_
 revert h
 cases ht61:(x16.1==0)
 refine JF λh=>Jy R<|Je3 R<|Ob h λq2 h hK102=>Jx1 (λL w'=>∃κ' aq aC aI aA,L=[(0,.pointer (some ⟨b0,0,none⟩)),(4,.pointer (some ⟨b4,0,none⟩)),(5,.pointer (some ⟨b5,0,none⟩))]/\Stp [8,9,10,16,18,19,20,22,23,26,27] K48 w44 κ' w'/\Oc (Ep.own E6 2) 29 κ' w' 8 aq aC q2.2.2.1/\Rd (Rp.sl<|Rp.int .i64) κ' w' 0 aI aA q2.2.2.2/\Bc κ' w' 16 b0 142 [.slice ac p0.b.length ab,vi q2.1,vi q2.2.1]/\Bc κ' w' 10 b5 28 [.slice aq q2.2.2.1.length aC,.slice aI q2.2.2.2.length aA]) ?_ ?_
 revert h
 cases ht110:(x16.1==1)
 refine JF λh=>Jy R<|Je3 R<|Ob h λq3 h hK150=>Jx1 (λL w'=>∃κ' an av aw ap,L=[(0,.pointer (some ⟨b0,0,none⟩)),(4,.pointer (some ⟨b4,0,none⟩)),(5,.pointer (some ⟨b5,0,none⟩))]/\Stp [8,9,10,16,18,19,22,23,26,27] K48 w44 κ' w'/\Oc (Ep.own E6 2) 29 κ' w' 8 an av q3.2.2.1/\Rd (Rp.sl<|Rp.int .i64) κ' w' 0 aw ap q3.2.2.2/\Bc κ' w' 16 b0 142 [.slice ac p0.b.length ab,vi q3.1,vi q3.2.1]/\Bc κ' w' 10 b5 28 [.slice an q3.2.2.1.length av,.slice aw q3.2.2.2.length ap]) ?_ ?_
 revert h
 cases ht158:(x16.1==2)
 refine JF λh=>Jy R<|Je3 R<|Ob h λq4 h hK175=>Jx1 (λL w'=>∃κ' aH aB ay ar,L=[(0,.pointer (some ⟨b0,0,none⟩)),(4,.pointer (some ⟨b4,0,none⟩)),(5,.pointer (some ⟨b5,0,none⟩))]/\Stp [8,9,10,16,18,19,22,23,26,27] K48 w44 κ' w'/\Oc (Ep.own E6 2) 29 κ' w' 8 aH aB q4.2.2.1/\Oc (Ep.own E6 2) 29 κ' w' 9 ay ar q4.2.2.2/\Bc κ' w' 16 b0 142 [.slice ac p0.b.length ab,vi q4.1,vi q4.2.1]/\Bc κ' w' 10 b5 28 [.slice aH q4.2.2.1.length aB,.slice ay q4.2.2.2.length ar]) ?_ ?_
 revert h
 cases ht183:(x16.1==3)
 refine JF λh=>Jy R<|Je3 R<|Ob h λq5 h hK257=>Jx1 (λL w'=>∃κ' ao aE aD aM,L=[(0,.pointer (some ⟨b0,0,none⟩)),(4,.pointer (some ⟨b4,0,none⟩)),(5,.pointer (some ⟨b5,0,none⟩))]/\Stp [8,9,10,16,19,22,23,26,27] K48 w44 κ' w'/\Oc (Ep.own E6 2) 29 κ' w' 8 ao aE q5.2.2.1/\Oc (Ep.own E6 2) 29 κ' w' 9 aD aM q5.2.2.2/\Bc κ' w' 16 b0 142 [.slice ac p0.b.length ab,vi q5.1,vi q5.2.1]/\Bc κ' w' 10 b5 28 [.slice ao q5.2.2.1.length aE,.slice aD q5.2.2.2.length aM]) ?_ ?_
 revert h
 cases ht265:(x16.1==4)
 refine JF λh=>Jy R<|Js ?_
 cases h
 have S001:=(T4 S27 S30 S39 S49)
 exact Jw1 _ ⟨K48,af,ae,ad,aa,R,Jj3,(f22.stp S001 R R),(f23.stp S001 R R),f52,(f31.stp (S39.tr S49) R R)⟩<|KM R
 refine JT λh=>Jx R<|Ob h λq7 hq268 hK267=>?_
 clear h
 refine Jx1 (λL w'=>∃κ',∃s8:Int×Int×(List<|List Int)×(List<|List Int),∃au aG aK aF,L=[(0,.pointer (some ⟨b0,0,none⟩)),(4,.pointer (some ⟨b4,0,none⟩)),(5,.pointer (some ⟨b5,0,none⟩))]/\Stp [8,9,10,16,19,22,23,26,27] K48 w44 κ' w'/\Oc (Ep.own E6 2) 29 κ' w' 8 au aG s8.2.2.1/\Oc (Ep.own E6 2) 29 κ' w' 9 aK aF s8.2.2.2/\Bc κ' w' 16 b0 142 [.slice ac p0.b.length ab,vi s8.1,vi s8.2.1]/\Bc κ' w' 10 b5 28 [.slice au s8.2.2.1.length aG,.slice aK s8.2.2.2.length aF]/\q7=yk s8) ?_ ?_
 have S002:=(T4 S27 S30 S39 S49)
 refine Jv<|Jy1 (λk L w'=>∃κ',∃s6:Int×Int×(List<|List Int)×(List<|List Int),∃az aL am al,L=[(0,.pointer (some ⟨b0,0,none⟩)),(4,.pointer (some ⟨b4,0,none⟩)),(5,.pointer (some ⟨b5,0,none⟩))]/\Stp [8,9,10,16,19,22,23,26,27] K48 w44 κ' w'/\Oc (Ep.own E6 2) 29 κ' w' 8 az aL s6.2.2.1/\Oc (Ep.own E6 2) 29 κ' w' 9 am al s6.2.2.2/\Bc κ' w' 16 b0 142 [.slice ac p0.b.length ab,vi s6.1,vi s6.2.1]/\Bc κ' w' 10 b5 28 [.slice az s6.2.2.1.length aL,.slice am s6.2.2.2.length al]/\bI (eI p0) k s6=some q7) ⟨_,_,⟨K48,(x16.2.1,x16.2.2,x9.1.Next,x9.1.Out),af,ae,ad,aa,R,Jj3,(f22.stp S002 R R),(f23.stp S002 R R),f52,(f31.stp (S39.tr S49) R R),hq268⟩,(KM R)⟩ ?_
 rintro k _ w276 ⟨K277,s6,az,aL,am,al,rfl,S278,f279,f280,f281,f282,h⟩
 rcases k with _ | k
 cases h
 obtain⟨o266,h,hk286⟩:=BI h;unfold eI at h
 refine Jq<|Jq<|Js1 (κ:=K277) [10] none [(0,2),(3,2),(1,0),(2,2),(4,1),(5,2),(6,2)] [] (by kernel_rfl) (by kernel_rfl) λw288 S287=>Jd3 R U28 R Z26<|Jn 1 R ?_
 have f289:=f282.stp S287 R R
 refine Jg R (Jc2 I26 R R<|hvC (f289.ld 0 R R) R)<|Jn3 R U26 R R<|Ob h λx62 hx62 h=>Jh R R R C105 (bS (κ:=λb=>mp [(16,2)] 0<|K277 b) (p0:=(⟨p0.b,s6.1,s6.2.1⟩:l1Cur)) (Jl2 (f43.stp (T3 S49 S278 S287) R R) (mp [(16,2)] 0) R R) ((f281.stp S287 R R).map (mp [(16,2)] 0) R R) hx62) ?_
 rintro _ w292 ⟨k293,rfl,e294,f295⟩
 obtain⟨K296,S297,m298⟩:=Ji e294 17 R
 refine⟨(S297.cl R),?_⟩
 have f300:=f295.mx m298 R (R:17+2=19)
 refine Jn 2 R<|Jt1<|Jd ?_
 revert h
 cases ht301:decide ((s6.2.2.1.length:Int)<(IntKind.i64.wrap (48+x62.1)))
 refine JF λh=>Jy R<|Jc1<|Jt<|Jt ?_
 cases h
 have h:=hk286
 refine Jb1 ?_
 cases h
 exact Jw1 _ ⟨(λb=>ren [(19,16)]<|K296 b),(x62.2.1,x62.2.2,s6.2.2.1,s6.2.2.2),az,aL,am,al,R,(Jy2 ((T3 S278 S287 S297).wk R) [(19,16)] R),((f279.stp (S287.tr S297) R R).map (ren [(19,16)]) R R),((f280.stp (S287.tr S297) R R).map (ren [(19,16)]) R R),(f300.map (ren [(19,16)]) R R),((f289.stp S297 R R).map (ren [(19,16)]) R R),R⟩<|KM R
 refine JT λh=>Jx R<|Js<|Jp<|Jv<|Jq<|Js1 (κ:=K296) [0,8,10] (some 8) [(0,2),(2,2),(1,0),(3,0),(4,2),(5,0),(6,1),(7,1)] [(8,1),(9,2),(10,1)] (by kernel_rfl) (by kernel_rfl) λw303 S302=>Jd3 R U28 R Z26<|Jd3 R U28 R Z26 ?_
 have f304:=f289.stp (S297.tr S302) R R
 refine Jg R (Jc2 I26 R R<|hvC (f304.ld 0 R R) R)<|Jg R (Jc2 I26 R R<|hvC (f304.ld 0 R R) R)<|Ob h λx69 hx69 h=>Jc3 R f279.rdc hx69 U26 Z29 ?_
 have f305:=f279.stp (T3 S287 S297 S302) R R
 obtain⟨ax69,ux69,f306,hl307⟩:=f305.rdc.gSl hx69
 refine Jg R (Jc2 I29 R R<|hvC hl307 R)<|Ob h λx71 hx71 h=>Jh R R R C56 (ck (κ:=Mk K296) (Ji3 f306) hx71) ?_
 rintro _ w308 ⟨k309,aU,aT,rfl,e310,f311⟩
 obtain⟨K312,S313,m314⟩:=Ji e310 20 R
 refine⟨(S313.cl R),Jn1 (κ:=K312) (E:=(Ep.own E6 2)) 23 [22] (parts:=[(0,.tmp 71)]) (cells:=[.slice aU x71.length aT]) (xs:=([x71]:List (List Int))) R R R R R R Y26 bK R R R R R R R R R R ⟨[.slice aU x71.length aT],[],Zl K312 w308 [22],Zl K312 w308 [],R,Zl.sp (l1:=[22]) (l2:=[]) R,Zl.sr (l1:=[22]) (l2:=[]),⟨_,_,R,(f311.mx (bD _) m314 R (R:20+2=22))⟩,R⟩ λba aZ w317 K318 S319 f320=>⟨((S313.tr S319).cl R),Jt1<|Ob h λx73 hx73 h=>Jm1 (κ:=K318) (E:=(Ep.own E6 2)) 8 [23] R R R R R R R R R Y26 bK R R R R (f305.stp (S313.tr S319) R R) f320.src (dz R) hx73 R λaJ ax w322 K323 S324 f325=>Tv<|Jd3 R U28 R Z26<|Ji1 (κ:=K323) 10 (off:=0) (vc:=[.slice aJ x73.length ax]) (cs':=[.slice aJ x73.length ax,.slice am s6.2.2.2.length al]) R R R R R R R Z26 R R (f304.stp (T3 S313 S319 S324) R R) R R λw327 S328 f329=>Tv<|Jd<|Js1 (κ:=K323) [0,9,10] (some 8) [(0,2),(2,2),(1,0),(3,0),(4,2),(5,0),(6,1),(7,1)] [(8,1),(9,2),(10,1)] (by kernel_rfl) (by kernel_rfl) λw331 S330=>Jd3 R U28 R Z26<|Jd3 R U28 R Z26 ?_⟩⟩
 have f332:=f329.stp S330 R R
 refine Jg R (Jc2 I26 R R<|hvC (f332.ld 1 R R) R)<|Jg R (Jc2 I26 R R<|hvC (f332.ld 1 R R) R)<|Ob h λx79 hx79 h=>Jc3 R f280.rdc hx79 U26 Z29 ?_
 have f333:=f280.stp (T8 S287 S297 S302 S313 S319 S324 S328 S330) R R
 obtain⟨ax79,ux79,f334,hl335⟩:=f333.rdc.gSl hx79
 refine Jg R (Jc2 I29 R R<|hvC hl335 R)<|Ob h λx81 hx81 h=>Jh R R R C56 (ck (κ:=Mk K323) (Ji3 f334) hx81) ?_
 rintro _ w336 ⟨k337,aS,aP,rfl,e338,f339⟩
 obtain⟨K340,S341,m342⟩:=Ji e338 24 R
 refine⟨(S341.cl R),Jn1 (κ:=K340) (E:=(Ep.own E6 2)) 27 [26] (parts:=[(0,.tmp 81)]) (cells:=[.slice aS x81.length aP]) (xs:=([x81]:List (List Int))) R R R R R R Y26 bK R R R R R R R R R R ⟨[.slice aS x81.length aP],[],Zl K340 w336 [26],Zl K340 w336 [],R,Zl.sp (l1:=[26]) (l2:=[]) R,Zl.sr (l1:=[26]) (l2:=[]),⟨_,_,R,(f339.mx (bD _) m342 R (R:24+2=26))⟩,R⟩ λaX aY w345 K346 S347 f348=>⟨((S341.tr S347).cl R),Jt1<|Ob h λx83 hx83 h=>Jm1 (κ:=K346) (E:=(Ep.own E6 2)) 9 [27] R R R R R R R R R Y26 bK R R R R (f333.stp (S341.tr S347) R R) f348.src (dz R) hx83 R λaN aO w350 K351 S352 f353=>Tv<|Jd3 R U28 R Z26<|Ji1 (κ:=K351) 10 (off:=1) (vc:=[.slice aN x83.length aO]) (cs':=[.slice aJ x73.length ax,.slice aN x83.length aO]) R R R R R R R Z26 R R (f332.stp (T3 S341 S347 S352) R R) R R λw355 S356 f357=>Tv<|Jo<|Jz ?_⟩⟩
 cases h
 exact Jz1 λa ha=>⟨k,_,Ja3 _,⟨(λb=>ren [(19,16)]<|K351 b),(x62.2.1,x62.2.2,x73,x83),aJ,ax,aN,aO,R,(Jy2 ((T13 S278 S287 S297 S302 S313 S319 S324 S328 S330 S341 S347 S352 S356).wk R) [(19,16)] R),((f325.stp (T6 S328 S330 S341 S347 S352 S356) R R).map (ren [(19,16)]) R R),((f353.stp S356 R R).map (ren [(19,16)]) R R),((f300.stp (T10 S302 S313 S319 S324 S328 S330 S341 S347 S352 S356) R R).map (ren [(19,16)]) R R),(f357.map (ren [(19,16)]) R R),hk286⟩,(ha.mm R)⟩
 rintro _ w269 ⟨K270,s8,au,aG,aK,aF,rfl,S271,f272,f273,f274,f275,rfl⟩
 have h:=yI hK267
 cases h
 exact Jw1 _ ⟨K270,au,aG,aK,aF,R,S271.wk R,f272,f273,f274,f275⟩<|KM R
 rintro _ w258 ⟨K259,ao,aE,aD,aM,rfl,S260,f261,f262,f263,f264⟩
 have h:=hK257
 cases h
 exact Jw1 _ ⟨K259,ao,aE,aD,aM,R,S260.wk R,f261,f262,f263,f264⟩<|KM R
 refine JT λh=>Jx R<|Ob h λx51 hx51 h=>Ob h λx54 hx54 h=>Ob h λx55 hx55 h=>Ob h λy51 hy51 h=>Jx1 (λL w'=>∃κ',L=[(0,.pointer (some ⟨b0,0,none⟩)),(4,.pointer (some ⟨b4,0,none⟩)),(5,.pointer (some ⟨b5,0,none⟩))]/\Stp [8,18] K48 w44 κ' w'/\Oc (Ep.own E6 2) 29 κ' w' 8 af ae y51/\x9.1.Next.length=y51.length) ?_ ?_
 refine WC.rxt (κ:=K48) [0,8,10] (some 9) (by kernel_rfl) λw190 S191=>Jq1 (fuel:=5) [(0,2),(2,2),(3,2),(5,2),(4,0),(6,2),(7,0)] (by kernel_rfl) (by kernel_rfl) R<|Jd3 R U28 R Z26<|Jn 1 R<|Jd3 R U28 R Z26<|Jn 1 R ?_
 have f192:=f31.stp (T3 S39 S49 S191) R R
 refine Jg R (Jc2 I26 R R<|hvC (f192.ld 0 R R) R)<|Jc3 R f22.rdc hx51 U26 Z29 ?_
 have f193:=f22.stp (T5 S27 S30 S39 S49 S191) R R
 obtain⟨ax51,ux51,f194,hl195⟩:=f193.rdc.gSl hx51
 refine Jg R (Jc2 I29 R R<|hvC hl195 R)<|Jp1<|WA.fork2 (fuel:=4) 1 8 (by kernel_rfl) R ?_ ?_
 refine Jl (Cl.refl _ _ _) R R R R (Jc2 I26 R R<|hvE<|f192.ld 0 R R)<|Jp1<|Jq1 (fuel:=3) [(8,1)] (by kernel_rfl) (by kernel_rfl) R<|Jn1 (κ:=K48) (E:=E6) 17 [] (parts:=[(0,.const (vi 0))]) (cells:=[vi 0]) (xs:=([0]:List Int)) R R R R R R Y29 a8 R R R R R R R R R R ⟨[vi 0],[],Zl K48 w190 [],Zl K48 w190 [],R,Zl.sp (l1:=[]) (l2:=[]) R,Zl.sr (l1:=[]) (l2:=[]),R,R⟩ λaW aV w196 K197 S198 f199=>⟨(S198.cl R),Jp1<|WA.brk (fuel:=2) 9 (by kernel_rfl) R (by kernel_rfl) ?_⟩
 have f200:=f193.stp S198 R R
 obtain⟨K201,S202,f203,f204⟩:=f200.borrow hx51 (hl195 _ (Stp.ag S198 R)) 18 R R
 refine Jm1 (κ:=K201) (E:=E6) 18 [] R R R R R R R R R Y29 a8 R R R R f203 (Sl.srcP (bM _) (f199.stp S202 R R).rdc) bH hx54 R λaR aQ w206 K207 S208 f209=>Tv<|Jp1<|Jq1 (fuel:=0) [(10,2),(11,1)] (by kernel_rfl) (by kernel_rfl) R<|Jc3 R f200.rdc hx55 U26 Z29<|WO.stH (κ:=K207) (E:=(Ep.own E6 2)) 8 [18] R R R R R R R R Z29 R ⟨_,_,R,f209⟩ R R (f204.stp S208 R R) hy51 λw211 K212 S213 f214=>Tv<|?_
 have hn215:x9.1.Next.length=y51.length:=(Jt2 hy51).2.2.2.symm
 exact Jp1<|Jr1 [] (by kernel_rfl) (by kernel_rfl) R<|Jo<|Jw1 _ ⟨K212,R,(T5 S191 S198 S202 S208 S213).wk R,f214,hn215⟩<|KM R
 refine Jn1 (κ:=K48) (E:=E6) 17 [] (parts:=[(0,.const (vi 0))]) (cells:=[vi 0]) (xs:=([0]:List Int)) R R R R R R Y29 a8 R R R R R R R R R R ⟨[vi 0],[],Zl K48 w190 [],Zl K48 w190 [],R,Zl.sp (l1:=[]) (l2:=[]) R,Zl.sr (l1:=[]) (l2:=[]),R,R⟩ λaW aV w216 K217 S218 f219=>⟨(S218.cl R),Jp1<|WA.forkB2r (fuel:=3) 1 9 (by kernel_rfl) R (by kernel_rfl) ?_ ?_⟩
 refine Jl (S218.cl R) R R R R (Jc2 I26 R R<|hvE ((f192.stp S218 R R).ld 0 R R))<|Jp1<|WA.brk (fuel:=2) 9 (by kernel_rfl) R (by kernel_rfl) ?_
 have f221:=f193.stp S218 R R
 obtain⟨K222,S223,f224,f225⟩:=f221.borrow hx51 (hl195 _ (Stp.ag S218 R)) 18 R R
 refine Jm1 (κ:=K222) (E:=E6) 18 [] R R R R R R R R R Y29 a8 R R R R f224 (Sl.srcP (bM _) (f219.stp S223 R R).rdc) bH hx54 R λaR aQ w227 K228 S229 f230=>Tv<|Jp1<|Jq1 (fuel:=0) [(10,2),(11,1)] (by kernel_rfl) (by kernel_rfl) R<|Jc3 R f221.rdc hx55 U26 Z29<|WO.stH (κ:=K228) (E:=(Ep.own E6 2)) 8 [18] R R R R R R R R Z29 R ⟨_,_,R,f230⟩ R R (f225.stp S229 R R) hy51 λw232 K233 S234 f235=>Tv<|?_
 have hn236:x9.1.Next.length=y51.length:=(Jt2 hy51).2.2.2.symm
 exact Jp1<|Jr1 [] (by kernel_rfl) (by kernel_rfl) R<|Jo<|Jw1 _ ⟨K233,R,(T5 S191 S218 S223 S229 S234).wk R,f235,hn236⟩<|KM R
 have f237:=f193.stp S218 R R
 obtain⟨K238,S239,f240,f241⟩:=f237.borrow hx51 (hl195 _ (Stp.ag S218 R)) 18 R R
 refine Jm1 (κ:=K238) (E:=E6) 18 [] R R R R R R R R R Y29 a8 R R R R f240 (Sl.srcP (bM _) (f219.stp S239 R R).rdc) bH hx54 R λaR aQ w243 K244 S245 f246=>Tv<|Jp1<|Jq1 (fuel:=0) [(1,1),(10,2),(11,1)] (by kernel_rfl) (by kernel_rfl) R<|Jb3 R I26 ((f192.stp (T3 S218 S239 S245) R R).ld 0 R R)<|Jc3 R f237.rdc hx55 U26 Z29<|WO.stH (κ:=K244) (E:=(Ep.own E6 2)) 8 [18] R R R R R R R R Z29 R ⟨_,_,R,f246⟩ R R (f241.stp S245 R R) hy51 λw249 K250 S251 f252=>Tv<|?_
 have hn253:x9.1.Next.length=y51.length:=(Jt2 hy51).2.2.2.symm
 exact Jp1<|Jr1 [] (by kernel_rfl) (by kernel_rfl) R<|Jo<|Jw1 _ ⟨K250,R,(T5 S191 S218 S239 S245 S251).wk R,f252,hn253⟩<|KM R
 rintro _ w184 ⟨K185,rfl,S186,f188,hn189⟩
 cases h
 exact Jw1 _ ⟨K185,af,ae,ad,aa,R,S186.wk R,f188,(f23.stp (T5 S27 S30 S39 S49 S186) R R),(f52.stp S186 R R),(Bc.cast (f31.stp (T3 S39 S49 S186) R R) (by simp only[hn189]))⟩<|KM R
 rintro _ w176 ⟨K177,aH,aB,ay,ar,rfl,S178,f179,f180,f181,f182⟩
 have h:=hK175
 obtain⟨K367,S368,z369⟩:=eR K177 w176 9
 cases h
 exact Jw1 _ ⟨K367,aH,aB,ay,ar,R,(S178.tr S368).wk R,(f179.stp S368 R R),(Sl.st z369 f180.rdc),(f181.stp S368 R R),(f182.stp S368 R R)⟩<|KM R
 refine JT λh=>Jx R<|Ja [2,1,2,2,1] R<|Jd3 R U28 R Z26 ?_
 have f159:=f31.stp (S39.tr S49) R R
 refine Jb3 R I26 (f159.ld 1 R R)<|Ob h λx41 hx41 h=>Jf R (dE (k1:= .i64) (k2:= .i64) U26 Z29 (.inr ⟨_,R,R⟩) (.inl ⟨R,R⟩) hx41 f23.rdc.1 R R R)<|Jd3 R U28 R Z26<|Ji1 (κ:=K48) 10 (off:=1) (vc:=[.slice (subA ad aa (1:Int).toNat 1) x41.length (aa-(1:Int).toNat)]) (cs':=[.slice af x9.1.Next.length ae,.slice (subA ad aa (1:Int).toNat 1) x41.length (aa-(1:Int).toNat)]) R R R R R R R Z26 R R f159 R R λw162 S163 f164=>Tv<|Jo ?_
 obtain⟨K167,S168,z169⟩:=eR K48 w162 9
 cases h
 have S003:=(T4 S27 S30 S39 S49)
 exact Jw1 _ ⟨K167,af,ae,(subA ad aa (1:Int).toNat 1),(aa-(1:Int).toNat),R,(S163.tr S168).wk R,(f22.stp (T3 S003 S163 S168) R R),(Sl.st z169 (((f23.stp S003 R R).rdc.sub hx41).stp S163 R R)),(f52.stp (S163.tr S168) R R),(f164.stp S168 R R)⟩<|KM R
 rintro _ w151 ⟨K152,an,av,aw,ap,rfl,S153,f154,f155,f156,f157⟩
 have h:=hK150
 cases h
 exact Jw1 _ ⟨K152,an,av,aw,ap,R,S153.wk R,f154,f155,f156,f157⟩<|KM R
 refine JT λh=>Jx R<|Js1 (κ:=K48) [0,9,10] (some 8) [(0,2),(2,2),(5,2),(1,0),(3,2),(4,0),(6,1),(7,2)] [(8,1)] (by kernel_rfl) (by kernel_rfl) λw112 S111=>Jd3 R U28 R Z26<|Jn 2 R ?_
 have f113:=f31.stp (T3 S39 S49 S111) R R
 refine Jg R (Jc2 I26 R R<|hvC (f113.ld 1 R R) R)<|Ob h λx32 hx32 h=>Jc3 R f23.rdc hx32 U26 Z29 ?_
 have f114:=f23.stp (T5 S27 S30 S39 S49 S111) R R
 obtain⟨ax32,ux32,f115,hl116⟩:=f114.rdc.gSl hx32
 refine Jg R (Jc2 I29 R R<|hvC hl116 R)<|Ob h λx35 hx35 h=>Jh R R R C106 (gl (κ:=λb=>mp [(16,2)] 0<|K48 b) (p0:=(⟨p0.b,x16.2.1,x16.2.2⟩:l1Cur)) (Jl2 (f43.stp (S49.tr S111) R R) (mp [(16,2)] 0) R R) ((f52.stp S111 R R).map (mp [(16,2)] 0) R R) hx35) ?_
 rintro _ w119 ⟨k120,rfl,e121,f122⟩
 obtain⟨K123,S124,m125⟩:=Ji e121 17 R
 refine⟨(S124.cl R),Ob h λx36 hx36 h=>Jc3 R f115 hx36 U29 Z2<|Jt1 ?_⟩
 obtain⟨K129,S130,f131,f132⟩:=(f114.stp S124 R R).borrow hx32 (hl116 _ (Stp.ag S124 R)) 20 R R
 refine Ob h λy49 hy49 h=>Jk1 (κ:=K129) (E:=E6) 20 [] R R R R R R R R Z2 R R R R f131 hy49 λw133 K134 S135 f136=>Tv<|?_
 have hn137:x32.length=y49.length:=(Jt2 hy49).2.2.2.symm
 refine Ob h λyb49 hyb49 h=>?_
 obtain⟨K139,S140,f141⟩:=Ow.unborrow (f132.stp S135 R R) f136 hn137 R R hyb49
 have hn142:x9.1.Out.length=yb49.length:=(Jt2 hyb49).2.2.2.symm
 refine Jo ?_
 obtain⟨K143,S144,z145⟩:=eR K139 w133 9
 cases h
 exact Jw1 _ ⟨(λb=>ren [(19,16)]<|K143 b),af,ae,ad,aa,R,(Jy2 ((T6 S111 S124 S130 S135 S140 S144).wk R) [(19,16)] R),((f22.stp (T10 S27 S30 S39 S49 S111 S124 S130 S135 S140 S144) R R).map (ren [(19,16)]) R R),((Sl.st z145 f141.rdc).map (ren [(19,16)]) R R),(((f122.mx m125 R (R:17+2=19)).stp (T4 S130 S135 S140 S144) R R).map (ren [(19,16)]) R R),(Bc.cast ((f113.stp (T5 S124 S130 S135 S140 S144) R R).map (ren [(19,16)]) R R) (by simp only[hn142]))⟩<|KM R
 rintro _ w103 ⟨K104,aq,aC,aI,aA,rfl,S105,f106,f107,f108,f109⟩
 have h:=hK102
 cases h
 exact Jw1 _ ⟨K104,aq,aC,aI,aA,R,S105.wk R,f106,f107,f108,f109⟩<|KM R
 refine JT λh=>Jx R<|Js1 (κ:=K48) [0,8,10] (some 8) [(0,2),(2,2),(5,2),(1,0),(3,2),(4,0),(6,1),(7,2)] [(8,1)] (by kernel_rfl) (by kernel_rfl) λw63 S62=>Jd3 R U28 R Z26<|Jn 2 R ?_
 have f64:=f31.stp (T3 S39 S49 S62) R R
 refine Jg R (Jc2 I26 R R<|hvC (f64.ld 0 R R) R)<|Ob h λx22 hx22 h=>Jc3 R f22.rdc hx22 U26 Z29 ?_
 have f65:=f22.stp (T5 S27 S30 S39 S49 S62) R R
 obtain⟨ax22,ux22,f66,hl67⟩:=f65.rdc.gSl hx22
 refine Jg R (Jc2 I29 R R<|hvC hl67 R)<|Ob h λx25 hx25 h=>Jh R R R C106 (gl (κ:=λb=>mp [(16,2)] 0<|K48 b) (p0:=(⟨p0.b,x16.2.1,x16.2.2⟩:l1Cur)) (Jl2 (f43.stp (S49.tr S62) R R) (mp [(16,2)] 0) R R) ((f52.stp S62 R R).map (mp [(16,2)] 0) R R) hx25) ?_
 rintro _ w70 ⟨k71,rfl,e72,f73⟩
 obtain⟨K74,S75,m76⟩:=Ji e72 17 R
 refine⟨(S75.cl R),Ob h λx26 hx26 h=>Jc3 R f66 hx26 U29 Z2<|Jt1 ?_⟩
 obtain⟨K80,S81,f82,f83⟩:=(f65.stp S75 R R).borrow hx22 (hl67 _ (Stp.ag S75 R)) 20 R R
 refine Ob h λy47 hy47 h=>Jk1 (κ:=K80) (E:=E6) 20 [] R R R R R R R R Z2 R R R R f82 hy47 λw84 K85 S86 f87=>Tv<|?_
 have hn88:x22.length=y47.length:=(Jt2 hy47).2.2.2.symm
 refine Ob h λyb47 hyb47 h=>?_
 obtain⟨K90,S91,f92⟩:=Ow.unborrow (f83.stp S86 R R) f87 hn88 R R hyb47
 have hn93:x9.1.Next.length=yb47.length:=(Jt2 hyb47).2.2.2.symm
 refine Jo ?_
 obtain⟨K95,S96,z97⟩:=eR K90 w84 9
 cases h
 exact Jw1 _ ⟨(λb=>ren [(19,16)]<|K95 b),af,ae,ad,aa,R,(Jy2 ((T6 S62 S75 S81 S86 S91 S96).wk R) [(19,16)] R),((f92.stp S96 R R).map (ren [(19,16)]) R R),((Sl.st z97 (f23.stp (T9 S27 S30 S39 S49 S62 S75 S81 S86 S91) R R).rdc).map (ren [(19,16)]) R R),(((f73.mx m76 R (R:17+2=19)).stp (T4 S81 S86 S91 S96) R R).map (ren [(19,16)]) R R),(Bc.cast ((f64.stp (T5 S75 S81 S86 S91 S96) R R).map (ren [(19,16)]) R R) (by simp only[hn93]))⟩<|KM R
 rintro _ w54 ⟨K55,ak,aj,ah,ai,rfl,S56,f57,f58,f59,f60⟩
 have h:=hK53
 refine Jz<|Jp<|Je [1,1] R<|Jl tv R R R R (Jd2 (cs:=[.slice ak q1.2.2.1.length aj,.slice ah q1.2.2.2.length ai]) I28 Z28 R R R<|haE f60.cells)<|Jj1 (κ:=K55) 4 (vc:=[.slice ak q1.2.2.1.length aj,.slice ah q1.2.2.2.length ai]) R R R R R R R Z28 R R (f8.stp (T6 S19 S27 S30 S39 S49 S56) R R) R λw375 S376 f377=>Tv<|Jd<|Ju<|Ja2 (l:=[.cell 4 28]) V158 (bF R f377 I28 Z28 R R) R ?_
 cases h
 exact⟨(λb=>ren [(8,3),(16,2)]<|K55 b),ak,aj,ah,ai,R,((hE.stp (T9 S3 S7 S19 S27 S30 S39 S49 S56 S376) R R).map (ren [(8,3),(16,2)]) R R),((f57.stp S376 R R).map (ren [(8,3),(16,2)]) R R),((f58.stp S376 R R).map (ren [(8,3),(16,2)]) R R),((f59.stp S376 R R).map (ren [(8,3),(16,2)]) R R)⟩
theorem oe {ae af}{p0:l1Cur}{p1:Sig}{b0}(g0_0:Rd (Rp.int .u8) κ w 0 ae af p0.b) (gb0:Bc κ w 2 b0 142 [.slice ae p0.b.length af,vi p0.i,vi p0.h]){r:Clause×Int×Int}(h:jA p0 p1=some r):Ret Tryz.prog 108 [.pointer (some ⟨b0,0,none⟩),.agg #[vi p1.In,vi p1.Out]] w (λv w'=>∃(κ':Col) (ra0:Option Addr) (ru0:Nat) (ra1:Option Addr) (ru1:Nat),v= .agg #[vi r.1.Kind,.slice ra0 r.1.A.length ru0,.slice ra1 r.1.B.length ru1]/\Ent κ w κ' w'/\Oc E6 2 κ' w' 3 ra0 ru0 r.1.A/\Oc E6 2 κ' w' 4 ra1 ru1 r.1.B/\Bc κ' w' 2 b0 142 [.slice ae p0.b.length af,vi r.2.1,vi r.2.2]):=by
 unfold jA at h
 refine Jk3 κ F108 R N108 R λhE=>Je [1,1] R<|Jf1 (κ:=κ) 3 R R R R R R R λb3 w1 K2 S3 f4=>Tv<|Jg1 (κ:=K2) 4 R R R R R X119 R λb4 w5 K6 S7 f8=>Tv<|Jd<|Je [1,1,1,2] R<|Jl tv R R R R (Jd2 (cs:=[vi p1.In,vi p1.Out]) I25 Z25 R R R<|haE (f4.stp S7 R R).cells)<|Ob h λx8 hx8 h=>Jh R R R C58 (dr (κ:=Mk K6) (p0:=p1) hx8) ?_
 rintro _ w10 ⟨k11,rfl,e12⟩
 obtain⟨K13,S14,m15⟩:=Ji e12 5 R
 refine Tv<|Ob h λx9 hx9 h=>Jh R R R C159 (jU (κ:=Mk K13) hx9) ?_
 rintro _ w17 ⟨k18,rfl,e19⟩
 obtain⟨K20,S21,m22⟩:=Ji e19 7 R
 refine Tv<|Jb 1 R<|Jg3 [2,1,2,2,2,1,2,1,1] 1 R<|Ob h λx11 hx11 h=>?_
 have f24:=g0_0.stp (T4 S3 S7 S14 S21) R R
 refine Jh R R R C105 (bS (κ:=λb=>mp [(2,2)] 0<|K20 b) (p0:=p0) (Jl2 f24 (mp [(2,2)] 0) R R) ((gb0.stp (T4 S3 S7 S14 S21) R R).map (mp [(2,2)] 0) R R) hx11) ?_
 rintro _ w26 ⟨k27,rfl,e28,f29⟩
 obtain⟨K30,S31,m32⟩:=Ji e28 9 R
 refine Tv<|Jn 3 R<|Ob h λx15 hx15 h=>?_
 have f35:=f24.stp S31 R R
 refine Jh R R R C160 (lP (κ:=λb=>mp [(11,2)] 0<|K30 b) (p0:=(⟨p0.b,x11.2.1,x11.2.2⟩:l1Cur)) (Jl2 f35 (mp [(11,2)] 0) R R) ((f29.mx m32 R (R:9+2=11)).map (mp [(11,2)] 0) R R) hx15) ?_
 rintro _ w36 ⟨k37,ab,aa,rfl,e38,f39,f40⟩
 obtain⟨K41,S42,m43⟩:=Ji e38 12 R
 refine Tv<|?_
 have f46:=f40.mx m43 R (R:12+2=14)
 refine Jf R (bG (parts:=[(0,.tmp 12),(1,.tmp 15)]) (cells:=[vi (IntKind.i64.wrap (1+x11.1)),.slice ab x15.1.length aa,.slice none 0 0]) R R (by kernel_rfl))<|Jg1 (κ:=K41) 16 R R R R R X119 R λb6 w47 K48 S49 f50=>Tv<|Jj1 (κ:=K48) 16 (vc:=[vi (IntKind.i64.wrap (1+x11.1)),.slice ab x15.1.length aa,.slice none 0 0]) R R R R R R R Z119 R R f50 R λw51 S52 f53=>Tv<|Jd<|Jq<|Je [2,1,1] R<|Jd3 R U119 R Z2<|Jb3 R I2 (f53.ld 0 R R)<|Ob h λx19 hx19 h=>Jh R R R C161 (n9 (κ:=Mk K48) hx19) ?_
 rintro _ w54 ⟨k55,rfl,e56⟩
 obtain⟨K57,S58,m59⟩:=Ji e56 17 R
 refine Tv<|Jd<|Ob h λq1 h hK61=>Jx1 (λL w'=>∃κ' ad ac,L=[(0,.pointer (some ⟨b0,0,none⟩)),(4,.pointer (some ⟨b4,0,none⟩)),(6,.pointer (some ⟨b6,0,none⟩))]/\Stp [14,16,21,22] K57 w54 κ' w'/\Oc E6 2 κ' w' 19 ad ac q1.2.2/\Bc κ' w' 14 b0 142 [.slice ae p0.b.length af,vi q1.1,vi q1.2.1]/\Bc κ' w' 16 b6 119 [vi (IntKind.i64.wrap (1+x11.1)),.slice ab x15.1.length aa,.slice ad q1.2.2.length ac]) ?_ ?_
 revert h
 cases ht68:x19
 refine JF λh=>Jy R<|Js ?_
 cases h
 exact Jw1 _ ⟨K57,none,0,R,Jj3,Ow.nil,(f46.stp (T3 S49 S52 S58) R R),(f53.stp S58 R R)⟩<|KM R
 refine JT λh=>Jx R<|Jh3 [2,2,1,2,1] 2 R<|Ob h λx22 hx22 h=>Jh R R R C160 (lP (κ:=λb=>mp [(14,2)] 0<|K57 b) (p0:=(⟨p0.b,x15.2.1,x15.2.2⟩:l1Cur)) (Jl2 (f35.stp (T4 S42 S49 S52 S58) R R) (mp [(14,2)] 0) R R) ((f46.stp (T3 S49 S52 S58) R R).map (mp [(14,2)] 0) R R) hx22) ?_
 rintro _ w71 ⟨k72,ai,ah,rfl,e73,f74,f75⟩
 obtain⟨K76,S77,m78⟩:=Ji e73 19 R
 refine Tv<|Jd3 R U119 R Z29<|Ji1 (κ:=K76) 16 (off:=2) (vc:=[.slice ai x22.1.length ah]) (cs':=[vi (IntKind.i64.wrap (1+x11.1)),.slice ab x15.1.length aa,.slice ai x22.1.length ah]) R R R R R R R Z29 R R (f53.stp (S58.tr S77) R R) R R λw83 S84 f85=>Tv<|Jo ?_
 cases h
 exact Jw1 _ ⟨(λb=>ren [(22,19),(21,14)]<|K76 b),ai,ah,R,(Jy2 ((S77.tr S84).wk R) [(22,19),(21,14)] R),(((f74.mx (bD _) m78 R (R:19+3=22)).stp S84 R R).map (ren [(22,19),(21,14)]) R R),(((f75.mx m78 R (R:19+2=21)).stp S84 R R).map (ren [(22,19),(21,14)]) R R),(f85.map (ren [(22,19),(21,14)]) R R)⟩<|KM R
 rintro _ w62 ⟨K63,ad,ac,rfl,S64,f65,f66,f67⟩
 have h:=hK61
 refine Jp<|Je [1,1] R<|Jl tv R R R R (Jd2 (cs:=[vi (IntKind.i64.wrap (1+x11.1)),.slice ab x15.1.length aa,.slice ad q1.2.2.length ac]) I119 Z119 R R R<|haE f67.cells)<|Jj1 (κ:=K63) 4 (vc:=[vi (IntKind.i64.wrap (1+x11.1)),.slice ab x15.1.length aa,.slice ad q1.2.2.length ac]) R R R R R R R Z119 R R (f8.stp (T8 S14 S21 S31 S42 S49 S52 S58 S64) R R) R λw91 S92 f93=>Tv<|Jd<|Ju<|Ja2 (l:=[.cell 4 119]) V108 (bF R f93 I119 Z119 R R) R ?_
 cases h
 exact⟨(λb=>ren [(15,3),(19,4),(14,2)]<|K63 b),ab,aa,ad,ac,R,((hE.stp (T11 S3 S7 S14 S21 S31 S42 S49 S52 S58 S64 S92) R R).map (ren [(15,3),(19,4),(14,2)]) R R),(((f39.mx (bD _) m43 R (R:12+3=15)).stp (T5 S49 S52 S58 S64 S92) R R).map (ren [(15,3),(19,4),(14,2)]) R R),((f65.stp S92 R R).map (ren [(15,3),(19,4),(14,2)]) R R),((f66.stp S92 R R).map (ren [(15,3),(19,4),(14,2)]) R R)⟩
theorem qo {p0:Sig}{a1 u1}{p1:(List Clause)}(g1:Rd Clause.rp κ w 0 a1 u1 p1){r:Bool}(h:eU p0 p1=some r):Ret Tryz.prog 114 [.agg #[vi p0.In,vi p0.Out],.slice a1 p1.length u1] w (Pvb κ w r):=by
 unfold eU at h
 refine Jk3 κ F114 R N114 R λhE=>Je [1,2] R<|Jf1 (κ:=κ) 2 R R R R R R R λb2 w1 K2 S3 f4=>Tv<|Jb 1 R<|Jq<|Je [1,1,2,2,2,2,2,2] R<|Jl tv R R R R (Jd2 (cs:=[vi p0.In,vi p0.Out]) I25 Z25 R R R<|haE f4.cells)<|Ob h λx7 hx7 h=>Jh R R R C102 (eZ (κ:=Mk K2) (p0:=p0) hx7) ?_
 rintro _ w5 ⟨k6,rfl,e7⟩
 obtain⟨K8,S9,m10⟩:=Ji e7 3 R
 refine Tv<|Jn 2 R<|Ob h λp13 h hK12=>Ju1 [(4,2),(5,2),(6,2),(7,2)] [] (λL w'=>L=[(1,.slice a1 p1.length u1),(2,.pointer (some ⟨b2,0,none⟩)),(13,.bool p13)]/\∃κ',Stp [] K8 w5 κ' w') tv ?_ ?_
 revert h
 cases ht13:(!x7)
 refine JF λh=>Jn 1 R<|Jn3 R U49 R R<|Jn 2 R ?_
 cases h
 exact Jv1 _ tv ⟨R,_,Jj3⟩<|KM R
 refine JT λh=>Jn 4 R ?_
 cases h
 exact Jv1 _ tv ⟨R,_,Jj3⟩<|KM R
 rintro _ w14 _ ⟨rfl,K15,S16⟩
 have h:=hK12
 refine Jd ?_
 revert h
 cases ht17:p13
 refine JF λh=>Jy R<|Js<|Jp<|Jq<|Je3 R ?_
 have hN19:(p1.length:Int)<=9223372036854775807:=g1.len_le
 refine Ob h λq2 hq21 hK20=>?_
 clear h
 refine Jx1 (λL w'=>∃κ',L=[]/\Stp [] K15 w14 κ' w'/\q2=yk ()) ?_ ?_
 refine Jv<|Jy1 (λk L w'=>∃κ' v5,L=[(1,.slice a1 p1.length u1),(2,.pointer (some ⟨b2,0,none⟩)),(5,vi v5)]/\Stp [] K15 w14 κ' w'/\0<=v5/\yn ((p1.length:Int)-v5)=k/\cntM (fu p0 p1) k v5 ()=some q2) ⟨_,_,⟨K15,0,R,Jj3,(by decide),(by simp),hq21⟩,(KM R)⟩ ?_
 rintro k _ w25 ⟨K26,v5,rfl,S27,hj19,hJ19,h⟩
 rcases k with _ | k
 have hk28:=h;obtain⟨o19,h⟩:=ca (yk (yl ()):Bool⊕((Unit)⊕(Unit)))
 have hc19:decide (v5<(p1.length:Int))=false:=Jo2 (by omega)
 refine Jq<|Jg3 [2,2,2,2] 2 R<|Jn3 R U49 R R<|Jb 1 R<|Jw2 R hc19<|Jc1<|Jt<|Jt ?_
 cases h
 have h:=hk28
 refine Jb1 ?_
 cases h
 exact Jw1 _ ⟨K26,R,S27.wk R,R⟩ KN
 obtain⟨o19,h,hk28⟩:=BI h;unfold fu at h
 have hc19:decide (v5<(p1.length:Int))=true:=Jn2 (by omega)
 refine Jq<|Jg3 [2,2,2,2] 2 R<|Jn3 R U49 R R<|Jb 1 R<|Jv2 R hc19<|Js<|Jp<|Jq<|Jv<|Jq<|Js1 (κ:=K26) [0,2] none [(1,2),(2,2),(3,2),(0,0),(4,0),(5,1),(6,2)] [] (by kernel_rfl) (by kernel_rfl) λw30 S29=>Jn 2 R<|Ob h λx23 hx23 h=>Jc3 R g1 hx23 U49 Z119<|Jg R (Jd2 (cs:=[vi p0.In,vi p0.Out]) I25 Z25 R R R<|haC (f4.stp (T4 S9 S16 S27 S29) R R).cells R) ?_
 obtain⟨cse33,hre33,hle33⟩:=((g1.stp (T5 S3 S9 S16 S27 S29) R R)).gSt hx23
 obtain⟨ae33_0,ue33_0,ae33_1,ue33_1,rfl,fe33_0,fe33_1⟩:=Clause.un hre33
 refine Jg R (Jd2 (cs:=[vi x23.Kind,.slice ae33_0 x23.A.length ue33_0,.slice ae33_1 x23.B.length ue33_1]) I119 Z119 R R R<|haC hle33 R)<|Ob h λx25 hx25 h=>Jh R R R C163 (mZ (κ:=Mk K26) (p0:=p0) (p1:=x23) (Ji3 fe33_0) (Ji3 fe33_1) hx25) ?_
 rintro _ w34 ⟨k35,rfl,e36⟩
 obtain⟨K37,S38,m39⟩:=Ji e36 5 R
 refine⟨(S38.cl R),Jn 1 R<|Jt1<|Jd ?_⟩
 revert h
 cases ht41:(!x25)
 refine JF λh=>Jy R<|Js<|Jz<|Jp<|Jf3 R ?_
 have hw19:sh .i64 (v5+1)=v5+1:=wr1 hj19 (Jm2 hc19) hN19
 rw[hw19]
 have hc19:=Jm2 hc19
 cases h
 exact Jz1 λa ha=>⟨k,_,Ja3 _,⟨K37,v5+1,R,(T3 S27 S29 S38).wk R,by omega,by omega,hk28⟩,(ha.mm R)⟩
 refine JT λh=>Jx R<|Je3 R<|Ju<|Ja1<|Jw<|Jw ?_
 cases h
 obtain rfl:=Option.some.inj hk28
 have h:=yL hK20
 refine Ja1<|Jq2<|Jw<|Ja2 (l:=[.tmp 4]) V114 (Jp2 R R) R ?_
 cases h
 exact⟨K37,R,(hE.stp (T6 S3 S9 S16 S27 S29 S38) R R)⟩
 rintro _ w22 ⟨K23,rfl,S24,rfl⟩
 have h:=yI hK20
 refine Jp<|Je3 R<|Ju<|Ja2 (l:=[.tmp 4]) V114 (Jp2 R R) R ?_
 cases h
 exact⟨K23,R,(hE.stp (T4 S3 S9 S16 S24) R R)⟩
 refine JT λh=>Jx R<|Je3 R<|Ju<|Jw<|Ja2 (l:=[.tmp 4]) V114 (Jp2 R R) R ?_
 cases h
 exact⟨K15,R,(hE.stp (T3 S3 S9 S16) R R)⟩
theorem mC {p0:Sig}{ao an aj am}{p1:Clause}(g1_1:Rd (Rp.int .i64) κ w 0 ao an p1.A) (g1_2:Rd (Rp.int .i64) κ w 0 aj am p1.B){r:Det}(h:jl p0 p1=some r):Ret Tryz.prog 116 [.agg #[vi p0.In,vi p0.Out],.agg #[vi p1.Kind,.slice ao p1.A.length an,.slice aj p1.B.length am]] w (λv w'=>∃(κ':Col) (ra0:Option Addr) (ru0:Nat) (ra1:Option Addr) (ru1:Nat),v= .agg #[.slice ra0 r.Next.length ru0,.slice ra1 r.Pairs.length ru1]/\Ent κ w κ' w'/\Oc (Ep.own E6 2) 29 κ' w' 2 ra0 ru0 r.Next/\Oc Pair.ep154 154 κ' w' 3 ra1 ru1 r.Pairs):=by
 unfold jl at h
 refine Jk3 κ F116 R N116 R λhE=>Je [1,1,1] R<|Jf1 (κ:=κ) 2 R R R R R R R λb2 w1 K2 S3 f4=>Tv<|Jf1 (κ:=K2) 3 R R R R R R R λb3 w5 K6 S7 f8=>Tv<|Jg1 (κ:=K6) 4 R R R R R X100 R λb4 w9 K10 S11 f12=>Tv<|Jd<|Jq<|Je [1,1,1,2] R ?_
 have f13:=f4.stp (S7.tr S11) R R
 refine Jl tv R R R R (Jd2 (cs:=[vi p0.In,vi p0.Out]) I25 Z25 R R R<|haE f13.cells) ?_
 have f14:=f8.stp S11 R R
 refine Jl tv R R R R (Jd2 (cs:=[vi p1.Kind,.slice ao p1.A.length an,.slice aj p1.B.length am]) I119 Z119 R R R<|haE f14.cells)<|Ob h λx11 hx11 h=>?_
 have f15:=g1_1.stp (T3 S3 S7 S11) R R
 have f16:=g1_2.stp (T3 S3 S7 S11) R R
 refine Jh R R R C163 (mZ (κ:=Mk K10) (p0:=p0) (p1:=p1) (Ji3 f15) (Ji3 f16) hx11) ?_
 rintro _ w17 ⟨k18,rfl,e19⟩
 obtain⟨K20,S21,m22⟩:=Ji e19 5 R
 refine Tv<|Jb 1 R ?_
 revert h
 cases ht24:(!x11)
 refine JF λh=>Jy R<|Js<|Jp<|Je [2,1,1,1,2,1,1] R<|Jd3 R U119 R Z2 ?_
 have f30:=f14.stp S21 R R
 refine Jb3 R I2 (f30.ld 0 R R)<|Ob h λx16 hx16 h=>Jh R R R C165 (r7 (κ:=Mk K20) hx16) ?_
 rintro _ w31 ⟨k32,av,au,ar,aq,rfl,e33,f34,f35⟩
 obtain⟨K36,S37,m38⟩:=Ji e33 7 R
 refine Tv<|Jn1 (κ:=K36) (E:=Pair.ep154) 11 [9,10] (parts:=[(0,.tmp 16)]) (cells:=[.slice av x16.Ask.length au,.slice ar x16.Give.length aq]) (xs:=([x16]:List Pair)) R R R R R R Y98 dG R R R R R R R R R R ⟨[.slice av x16.Ask.length au,.slice ar x16.Give.length aq],[],Zl K36 w31 [9,10],Zl K36 w31 [],R,Zl.sp (l1:=[9,10]) (l2:=[]) R,Zl.sr (l1:=[9,10]) (l2:=[]),⟨[.slice av x16.Ask.length au],[.slice ar x16.Give.length aq],Zl K36 w31 [9],Zl K36 w31 [10],R,Zl.sp (l1:=[9]) (l2:=[10]) R,Zl.sr (l1:=[9]) (l2:=[10]),⟨_,_,R,(f34.mx (bD _) m38 R (R:7+2=9))⟩,⟨_,_,R,(f35.mx (bD _) m38 R (R:7+3=10))⟩⟩,R⟩ λaa ab w42 K43 S44 f45=>Tv<|Jf R (bG (parts:=[(1,.tmp 17)]) (cells:=[.slice none 0 0,.slice aa ([x16]:List Pair).length ab]) R R (by kernel_rfl))<|Jg1 (κ:=K43) 12 R R R R R X100 R λb5 w46 K47 S48 f49=>Tv<|Jj1 (κ:=K47) 12 (vc:=[.slice none 0 0,.slice aa ([x16]:List Pair).length ab]) R R R R R R R Z100 R R f49 R λw50 S51 f52=>Tv<|Jd<|Jq<|Je3 R<|Ob h λq2 hq55 hK54=>?_
 clear h
 refine Jx1 (λL w'=>∃κ',∃s3:Int×(List<|List Int),∃ad ac,L=[(4,.pointer (some ⟨b4,0,none⟩)),(5,.pointer (some ⟨b5,0,none⟩))]/\Stp [12,13,16,17] K47 w50 κ' w'/\Oc (Ep.own E6 2) 29 κ' w' 13 ad ac s3.2/\Bc κ' w' 12 b5 100 [.slice ad s3.2.length ac,.slice aa ([x16]:List Pair).length ab]/\q2=yk s3) ?_ ?_
 refine Jv<|Jy1 (λk L w'=>∃κ',∃s1:Int×(List<|List Int),∃ah ak,L=[(2,.pointer (some ⟨b2,0,none⟩)),(3,.pointer (some ⟨b3,0,none⟩)),(4,.pointer (some ⟨b4,0,none⟩)),(5,.pointer (some ⟨b5,0,none⟩)),(6,vi s1.1)]/\Stp [12,13,16,17] K47 w50 κ' w'/\Oc (Ep.own E6 2) 29 κ' w' 13 ah ak s1.2/\Bc κ' w' 12 b5 100 [.slice ah s1.2.length ak,.slice aa ([x16]:List Pair).length ab]/\bI (fk p0 p1) k s1=some q2) ⟨_,_,⟨K47,((0:Int),(([]:List (List Int)):(List<|List Int))),none,0,R,Jj3,Ow.nil,f52,hq55⟩,(KM R)⟩ ?_
 rintro k _ w61 ⟨K62,s1,ah,ak,rfl,S63,f64,f65,h⟩
 rcases k with _ | k
 cases h
 obtain⟨o53,h,hk66⟩:=BI h;unfold fk at h
 refine Jq<|Jg3 [2,2,1,1,2] 1 R<|Jd3 R U119 R Z2 ?_
 have f67:=f30.stp (T5 S37 S44 S48 S51 S63) R R
 refine Jb3 R I2 (f67.ld 0 R R)<|Ob h λx22 hx22 h=>Jh R R R C166 (p5 (κ:=Mk K62) hx22) ?_
 rintro _ w68 ⟨k69,rfl,e70⟩
 obtain⟨K71,S72,m73⟩:=Ji e70 14 R
 refine Tv<|Jb 1 R ?_
 revert h
 cases ht75:decide (s1.1<x22)
 refine JF λh=>Jy R<|Jc1<|Jt<|Jt ?_
 cases h
 have h:=hk66
 refine Jb1 ?_
 cases h
 exact Jw1 _ ⟨K71,(s1.1,s1.2),ah,ak,R,(S63.tr S72).wk R,(f64.stp S72 R R),(f65.stp S72 R R),R⟩<|KM R
 refine JT λh=>Jx R<|Js<|Jp<|Jq<|Jv<|Je [1,2] R<|Jo1 (κ:=K71) (E:=E6) 16 R R R R R Y29 a8 R λaz ax w76 K77 S78 f79=>Tv<|Jb 1 R<|Jq<|Je3 R<|Ob h λq5 hq82 hK81=>?_
 clear h
 refine Jx1 (λL w'=>∃κ',∃s6:(List Int)×Int,∃ae af,L=[(2,.pointer (some ⟨b2,0,none⟩)),(3,.pointer (some ⟨b3,0,none⟩)),(4,.pointer (some ⟨b4,0,none⟩)),(5,.pointer (some ⟨b5,0,none⟩)),(6,vi s1.1),(7,.slice ae s6.1.length af)]/\Stp [16] K77 w76 κ' w'/\Oc E6 2 κ' w' 16 ae af s6.1/\q5=yk s6) ?_ ?_
 refine Jv<|Jy1 (λk L w'=>∃κ',∃s4:(List Int)×Int,∃al ai,L=[(2,.pointer (some ⟨b2,0,none⟩)),(3,.pointer (some ⟨b3,0,none⟩)),(4,.pointer (some ⟨b4,0,none⟩)),(5,.pointer (some ⟨b5,0,none⟩)),(6,vi s1.1),(7,.slice al s4.1.length ai),(8,vi s4.2)]/\Stp [16] K77 w76 κ' w'/\Oc E6 2 κ' w' 16 al ai s4.1/\bI (eV p0 p1 s1) k s4=some q5) ⟨_,_,⟨K77,((([]:List Int):(List Int)),(0:Int)),az,ax,R,Jj3,f79,hq82⟩,(KM R)⟩ ?_
 rintro k _ w87 ⟨K88,s4,al,ai,rfl,S89,f90,h⟩
 rcases k with _ | k
 cases h
 obtain⟨o80,h,hk91⟩:=BI h;unfold eV at h
 refine Jq<|Jg3 [2,1,1,2] 1 R<|Jl tv R R R R (Jd2 (cs:=[vi p0.In,vi p0.Out]) I25 Z25 R R R<|haE (f13.stp (T9 S21 S37 S44 S48 S51 S63 S72 S78 S89) R R).cells)<|Ob h λx29 hx29 h=>Jh R R R C58 (dr (κ:=Mk K88) (p0:=p0) hx29) ?_
 rintro _ w93 ⟨k94,rfl,e95⟩
 obtain⟨K96,S97,m98⟩:=Ji e95 17 R
 refine Tv<|Jb 1 R ?_
 revert h
 cases ht100:decide (s4.2<x29)
 refine JF λh=>Jy R<|Jc1<|Jt<|Jt ?_
 cases h
 have h:=hk91
 refine Jb1 ?_
 cases h
 exact Jw1 _ ⟨K96,(s4.1,s4.2),al,ai,R,(S89.tr S97).wk R,(f90.stp S97 R R),R⟩<|KM R
 have S001:=(T10 S21 S37 S44 S48 S51 S63 S72 S78 S89 S97)
 refine JT λh=>Jx R<|Js<|Jp<|Jq<|Jv<|Jh3 [2,1,2,2,1,1,1,2] 1 R<|Jl tv R R R R (Jd2 (cs:=[vi p1.Kind,.slice ao p1.A.length an,.slice aj p1.B.length am]) I119 Z119 R R R<|haE (f67.stp (T4 S72 S78 S89 S97) R R).cells)<|Jn 2 R<|Ob h λx37 hx37 h=>Jh R R R C167 (ra (κ:=Mk K96) (p0:=p1) (Ji3<|f15.stp S001 R R) (Ji3<|f16.stp S001 R R) hx37) ?_
 rintro _ w104 ⟨k105,rfl,e106⟩
 obtain⟨K107,S108,m109⟩:=Ji e106 19 R
 refine Tv<|Jn1 (κ:=K107) (E:=E6) 21 [] (parts:=[(0,.tmp 37)]) (cells:=[vi x37]) (xs:=([x37]:List Int)) R R R R R R Y29 a8 R R R R R R R R R R ⟨[vi x37],[],Zl K107 w104 [],Zl K107 w104 [],R,Zl.sp (l1:=[]) (l2:=[]) R,Zl.sr (l1:=[]) (l2:=[]),R,R⟩ λaD aE w111 K112 S113 f114=>Tv<|Ob h λx39 hx39 h=>Jm1 (κ:=K112) (E:=E6) 16 [] R R R R R R R R R Y29 a8 R R R R (f90.stp (T3 S97 S108 S113) R R) (Sl.srcP (bM _) f114.rdc) bH hx39 R λaA ay w116 K117 S118 f119=>Tv<|Jc 1 R<|Jz<|Jp<|Jf3 R ?_
 cases h
 exact Jz1 λa ha=>⟨k,_,Ja3 _,⟨K117,(x39,((IntKind.i64.wrap<|s4.2+1):Int)),aA,ay,R,(T5 S89 S97 S108 S113 S118).wk R,f119,hk91⟩,(ha.mm R)⟩
 rintro _ w83 ⟨K84,s6,ae,af,rfl,S85,f86,rfl⟩
 have h:=yI hK81
 refine Jp<|Ja [2,1,2,1,1,2,1] R<|Jd3 R U100 R Z26 ?_
 have f121:=f65.stp (T3 S72 S78 S85) R R
 refine Jb3 R I26 (f121.ld 0 R R)<|Jn 1 R<|Jn1 (κ:=K84) (E:=(Ep.own E6 2)) 17 [16] (parts:=[(0,.tmp 42)]) (cells:=[.slice ae s6.1.length af]) (xs:=([s6.1]:List (List Int))) R R R R R R Y26 bK R R R R R R R R R R ⟨[.slice ae s6.1.length af],[],Zl K84 w83 [16],Zl K84 w83 [],R,Zl.sp (l1:=[16]) (l2:=[]) R,Zl.sr (l1:=[16]) (l2:=[]),⟨_,_,R,f86⟩,R⟩ λaB aC w122 K123 S124 f125=>Tv<|Ob h λx44 hx44 h=>Jm1 (κ:=K123) (E:=(Ep.own E6 2)) 13 [17] R R R R R R R R R Y26 bK R R R R (f64.stp (T4 S72 S78 S85 S124) R R) f125.src (dz R) hx44 R λap aw w127 K128 S129 f130=>Tv<|Jd3 R U100 R Z26<|Ji1 (κ:=K128) 12 (off:=0) (vc:=[.slice ap x44.length aw]) (cs':=[.slice ap x44.length aw,.slice aa ([x16]:List Pair).length ab]) R R R R R R R Z26 R R (f121.stp (S124.tr S129) R R) R R λw132 S133 f134=>Tv<|Jo<|Jz<|Jp<|Jf3 R ?_
 cases h
 exact Jz1 λa ha=>⟨k,_,Ja3 _,⟨K128,(((IntKind.i64.wrap<|s1.1+1):Int),x44),ap,aw,R,(T7 S63 S72 S78 S85 S124 S129 S133).wk R,(f130.stp S133 R R),f134,hk66⟩,(ha.mm R)⟩
 rintro _ w56 ⟨K57,s3,ad,ac,rfl,S58,f59,f60,rfl⟩
 have h:=yI hK54
 refine Jp<|Je [1,1] R<|Jl tv R R R R (Jd2 (cs:=[.slice ad s3.2.length ac,.slice aa ([x16]:List Pair).length ab]) I100 Z100 R R R<|haE f60.cells)<|Jj1 (κ:=K57) 4 (vc:=[.slice ad s3.2.length ac,.slice aa ([x16]:List Pair).length ab]) R R R R R R R Z100 R R (f12.stp (T6 S21 S37 S44 S48 S51 S58) R R) R λw139 S140 f141=>Tv<|Jd<|Ju<|Ja2 (l:=[.cell 4 100]) V116 (bF R f141 I100 Z100 R R) R ?_
 cases h
 exact⟨(λb=>ren [(13,2),(11,3)]<|K57 b),ad,ac,aa,ab,R,((hE.stp (T10 S3 S7 S11 S21 S37 S44 S48 S51 S58 S140) R R).map (ren [(13,2),(11,3)]) R R),((f59.stp S140 R R).map (ren [(13,2),(11,3)]) R R),((f45.stp (T4 S48 S51 S58 S140) R R).map (ren [(13,2),(11,3)]) R R)⟩
 refine JT λh=>Jx R<|Je [2,1] R<|Jf R (bG (parts:=[]) (cells:=[.slice none 0 0,.slice none 0 0]) R R (by kernel_rfl))<|Jj1 (κ:=K20) 4 (vc:=[.slice none 0 0,.slice none 0 0]) R R R R R R R Z100 R R (f12.stp S21 R R) R λw26 S27 f28=>Tv<|Jd<|Ju<|Jw<|Ja2 (l:=[.cell 4 100]) V116 (bF R f28 I100 Z100 R R) R ?_
 cases h
 exact⟨K20,none,0,none,0,R,(hE.stp (T5 S3 S7 S11 S21 S27) R R),Ow.nil,Ow.nil⟩
theorem nS {a0 u0}{p0:(List Pair)}{p1:Int}(g0:Rd Pair.rp κ w 0 a0 u0 p0){r:Bool}(h:jz p0 p1=some r):Ret Tryz.prog 120 [.slice a0 p0.length u0,vi p1] w (Pvb κ w r):=by
 unfold jz at h
 refine Jk3 κ F120 R N120 R λhE=>Je3 R<|Jq<|Jg3 [2,1,2,2,2,2,2,2] 1 R<|Ob h λx7 hx7 h=>Jh R R R C57 (cu (κ:=Mk κ) hx7) ?_
 rintro _ w1 ⟨k2,rfl,e3⟩
 obtain⟨K4,S5,m6⟩:=Ji e3 2 R
 refine Tv<|Jn 2 R<|Ob h λp13 h hK8=>Ju1 [(4,2),(5,2),(6,2),(7,2)] [] (λL w'=>L=[(0,.slice a0 p0.length u0),(1,vi p1),(13,.bool p13)]/\∃κ',Stp [] K4 w1 κ' w') tv ?_ ?_
 revert h
 cases ht9:(!x7)
 refine JF λh=>Jn 1 R<|Jn3 R U98 R R<|Jn 2 R ?_
 cases h
 exact Jv1 _ tv ⟨R,_,Jj3⟩<|KM R
 refine JT λh=>Jn 4 R ?_
 cases h
 exact Jv1 _ tv ⟨R,_,Jj3⟩<|KM R
 rintro _ w10 _ ⟨rfl,K11,S12⟩
 have h:=hK8
 refine Jd ?_
 revert h
 cases ht13:p13
 refine JF λh=>Jy R<|Js<|Jp<|Jq<|Je3 R ?_
 have hN15:(p0.length:Int)<=9223372036854775807:=g0.len_le
 refine Ob h λq2 hq17 hK16=>?_
 clear h
 refine Jx1 (λL w'=>∃κ',L=[]/\Stp [] K11 w10 κ' w'/\q2=yk ()) ?_ ?_
 refine Jv<|Jy1 (λk L w'=>∃κ' v5,L=[(0,.slice a0 p0.length u0),(1,vi p1),(5,vi v5)]/\Stp [] K11 w10 κ' w'/\0<=v5/\yn ((p0.length:Int)-v5)=k/\cntM (gB p0 p1) k v5 ()=some q2) ⟨_,_,⟨K11,0,R,Jj3,(by decide),(by simp),hq17⟩,(KM R)⟩ ?_
 rintro k _ w21 ⟨K22,v5,rfl,S23,hj15,hJ15,h⟩
 rcases k with _ | k
 have hk24:=h;obtain⟨o15,h⟩:=ca (yk (yl ()):Bool⊕((Unit)⊕(Unit)))
 have hc15:decide (v5<(p0.length:Int))=false:=Jo2 (by omega)
 refine Jq<|Jg3 [2,2,2,2] 2 R<|Jn3 R U98 R R<|Jb 1 R<|Jw2 R hc15<|Jc1<|Jt<|Jt ?_
 cases h
 have h:=hk24
 refine Jb1 ?_
 cases h
 exact Jw1 _ ⟨K22,R,S23.wk R,R⟩ KN
 obtain⟨o15,h,hk24⟩:=BI h;unfold gB at h
 have hc15:decide (v5<(p0.length:Int))=true:=Jn2 (by omega)
 refine Jq<|Jg3 [2,2,2,2] 2 R<|Jn3 R U98 R R<|Jb 1 R<|Jv2 R hc15<|Js<|Jp<|Jq<|Jv<|Jg3 [2,2,2,2,1,2,1,2,2,2,2,2,2,1,2,1,2,2] 2 R<|Ob h λx22 hx22 h=>Jc3 R g0 hx22 U98 Z154<|Jd3 R U154 R Z29 ?_
 have f25:=g0.stp (T3 S5 S12 S23) R R
 obtain⟨cse26,hre26,hle26⟩:=(f25).gSt hx22
 obtain⟨ae26_0,ue26_0,ae26_1,ue26_1,rfl,fe26_0,fe26_1⟩:=Pair.un hre26
 refine Jb3 R I29 (λw' hw'=>hle26 w' hw' 0 _ R)<|Jn 1 R<|Ob h λx26 hx26 h=>Jh R R R C170 (pv (κ:=Mk K22) (Ji3 fe26_0) hx26) ?_
 rintro _ w27 ⟨k28,rfl,e29⟩
 obtain⟨K30,S31,m32⟩:=Ji e29 4 R
 refine Tv<|Jn 2 R<|Ob h λp37 h hK34=>Ju1 [(9,2),(10,2),(11,2),(12,2),(13,1),(14,2),(15,1),(16,2),(17,2)] [] (λL w'=>L=[(0,.slice a0 p0.length u0),(1,vi p1),(5,vi v5),(37,.bool p37)]/\∃κ',Stp [] K30 w27 κ' w') tv ?_ ?_
 revert h
 cases ht35:(!x26)
 refine JF λh=>Jn 2 R<|Ob h λx31 hx31 h=>Jc3 R f25 hx31 U98 Z154<|Jd3 R U154 R Z29 ?_
 obtain⟨cse37,hre37,hle37⟩:=((f25.stp S31 R R)).gSt hx31
 obtain⟨ae37_0,ue37_0,ae37_1,ue37_1,rfl,fe37_0,fe37_1⟩:=Pair.un hre37
 refine Jb3 R I29 (λw' hw'=>hle37 w' hw' 1 _ R)<|Jn 1 R<|Ob h λx35 hx35 h=>Jh R R R C170 (pv (κ:=Mk K30) (Ji3 fe37_1) hx35) ?_
 rintro _ w38 ⟨k39,rfl,e40⟩
 obtain⟨K41,S42,m43⟩:=Ji e40 6 R
 refine Tv<|Jn 2 R ?_
 cases h
 exact Jv1 _ tv ⟨R,_,S42.wk R⟩<|KM R
 refine JT λh=>Jn 4 R<|Jd1 R R R R<|Jn 1 R<|Jd1 R R R R<|Jn 2 R ?_
 cases h
 exact Jv1 _ tv ⟨R,_,Jj3⟩<|KM R
 rintro _ w45 _ ⟨rfl,K46,S47⟩
 have h:=hK34
 refine Jd ?_
 revert h
 cases ht48:p37
 refine JF λh=>Jy R<|Js<|Jz<|Jp<|Jf3 R ?_
 have hw15:sh .i64 (v5+1)=v5+1:=wr1 hj15 (Jm2 hc15) hN15
 rw[hw15]
 have hc15:=Jm2 hc15
 cases h
 exact Jz1 λa ha=>⟨k,_,Ja3 _,⟨K46,v5+1,R,(T3 S23 S31 S47).wk R,by omega,by omega,hk24⟩,(ha.mm R)⟩
 refine JT λh=>Jx R<|Je3 R<|Ju<|Ja1<|Jw<|Jw ?_
 cases h
 obtain rfl:=Option.some.inj hk24
 have h:=yL hK16
 refine Ja1<|Jq2<|Jw<|Ja2 (l:=[.tmp 4]) V120 (Jp2 R R) R ?_
 cases h
 exact⟨K46,R,(hE.stp (T5 S5 S12 S23 S31 S47) R R)⟩
 rintro _ w18 ⟨K19,rfl,S20,rfl⟩
 have h:=yI hK16
 refine Jp<|Je3 R<|Ju<|Ja2 (l:=[.tmp 4]) V120 (Jp2 R R) R ?_
 cases h
 exact⟨K19,R,(hE.stp (T3 S5 S12 S20) R R)⟩
 refine JT λh=>Jx R<|Je3 R<|Ju<|Jw<|Ja2 (l:=[.tmp 4]) V120 (Jp2 R R) R ?_
 cases h
 exact⟨K11,R,(hE.stp (S5.tr S12) R R)⟩
theorem ni {ab ac aa ad ae af}{p0:Parity}(g0_0_0:Rd (Rp.int .i64) κ w 0 ab ac p0.Arena.Owner) (g0_0_1:Rd (Rp.sl (Rp.int .i64)) κ w 0 aa ad p0.Arena.Next) (g0_1:Rd (Rp.int .i64) κ w 0 ae af p0.Prio){r:Bool}(h:iB p0=some r):Ret Tryz.prog 125 [.agg #[.slice ab p0.Arena.Owner.length ac,.slice aa p0.Arena.Next.length ad,.slice ae p0.Prio.length af]] w (Pvb κ w r):=by
 unfold iB at h
 refine Jk3 κ F125 R N125 R λhE=>Je [1,2] R<|Jf1 (κ:=κ) 2 R R R R R R R λb1 w1 K2 S3 f4=>Tv<|Jb 1 R<|Jq<|Je [2,1,1,2,2,2,1,2,2,2,1,2,2,2] R<|Jd3 R U108 R Z104<|Jl tv R R R R (Jd2 (cs:=[.slice ab p0.Arena.Owner.length ac,.slice aa p0.Arena.Next.length ad]) I104 Z104 R R R<|haE<|f4.lds 0 2 R)<|Ob h λx6 hx6 h=>Jh R R R C119 (n7 (κ:=Mk K2) (p0:=p0.Arena) (Ji3<|g0_0_0.stp S3 R R) (Ji3<|g0_0_1.stp S3 R R) hx6) ?_
 rintro _ w7 ⟨k8,rfl,e9⟩
 obtain⟨K10,S11,m12⟩:=Ji e9 3 R
 refine Tv<|Jn 2 R<|Ob h λp17 h hK14=>Ju1 [(5,2),(6,1),(7,2),(8,2),(9,2),(10,1),(11,2),(12,2),(13,2)] [] (λL w'=>L=[(1,.pointer (some ⟨b1,0,none⟩)),(17,.bool p17)]/\∃κ',Stp [] K10 w7 κ' w') tv ?_ ?_
 revert h
 cases ht15:(!x6)
 refine JF λh=>Jd3 R U108 R Z29 ?_
 have f16:=f4.stp S11 R R
 refine Jb3 R I29 (f16.ld 2 R R)<|Jn3 R U29 R R<|Jd3 R U108 R Z104<|Jd3 R U104 R Z29<|Jb3 R I29 (f16.ld 0 R R)<|Jn3 R U29 R R<|Jn 2 R ?_
 cases h
 exact Jv1 _ tv ⟨R,_,Jj3⟩<|KM R
 refine JT λh=>Jn 1 R<|Jd1 R R R R<|Jn 3 R<|Jd1 R R R R<|Jn 3 R ?_
 cases h
 exact Jv1 _ tv ⟨R,_,Jj3⟩<|KM R
 rintro _ w17 _ ⟨rfl,K18,S19⟩
 have h:=hK14
 refine Jd ?_
 revert h
 cases ht20:p17
 refine JF λh=>Jy R<|Js<|Jp<|Jq<|Je3 R ?_
 have hN22:(p0.Prio.length:Int)<=9223372036854775807:=g0_1.len_le
 refine Ob h λq2 hq24 hK23=>?_
 clear h
 refine Jx1 (λL w'=>∃κ',L=[]/\Stp [] K18 w17 κ' w'/\q2=yk ()) ?_ ?_
 refine Jv<|Jy1 (λk L w'=>∃κ' v3,L=[(1,.pointer (some ⟨b1,0,none⟩)),(3,vi v3)]/\Stp [] K18 w17 κ' w'/\0<=v3/\yn ((p0.Prio.length:Int)-v3)=k/\cntM (fR p0) k v3 ()=some q2) ⟨_,_,⟨K18,0,R,Jj3,(by decide),(by simp),hq24⟩,(KM R)⟩ ?_
 rintro k _ w28 ⟨K29,v3,rfl,S30,hj22,hJ22,h⟩
 rcases k with _ | k
 have hk31:=h;obtain⟨o22,h⟩:=ca (yk (yl ()):Bool⊕((Unit)⊕(Unit)))
 have hc22:decide (v3<(p0.Prio.length:Int))=false:=Jo2 (by omega)
 refine Jq<|Jg3 [2,2,1,2,2] 1 R<|Jd3 R U108 R Z29<|Jb3 R I29 ((f4.stp (T3 S11 S19 S30) R R).ld 2 R R)<|Jn3 R U29 R R<|Jb 1 R<|Jw2 R hc22<|Jc1<|Jt<|Jt ?_
 cases h
 have h:=hk31
 refine Jb1 ?_
 cases h
 exact Jw1 _ ⟨K29,R,S30.wk R,R⟩ KN
 obtain⟨o22,h,hk31⟩:=BI h;unfold fR at h
 have hc22:decide (v3<(p0.Prio.length:Int))=true:=Jn2 (by omega)
 refine Jq<|Jg3 [2,2,1,2,2] 1 R<|Jd3 R U108 R Z29 ?_
 have f33:=f4.stp (T3 S11 S19 S30) R R
 refine Jb3 R I29 (f33.ld 2 R R)<|Jn3 R U29 R R<|Jb 1 R<|Jv2 R hc22<|Js<|Jp<|Jq<|Jv<|Je [2,1,2,2,1,1,2] R<|Jd3 R U108 R Z29<|Jb3 R I29 (f33.ld 2 R R)<|Jn 1 R<|Ob h λx28 hx28 h=>Jc3 R g0_1 hx28 U29 Z2<|Jb3 R I2 ((g0_1.stp (T4 S3 S11 S19 S30) R R).gInt hx28)<|Ob h λx30 hx30 h=>Jh R R R C57 (cu (κ:=Mk K29) hx30) ?_
 rintro _ w35 ⟨k36,rfl,e37⟩
 obtain⟨K38,S39,m40⟩:=Ji e37 5 R
 refine Tv<|Jb 1 R ?_
 revert h
 cases ht42:(!x30)
 refine JF λh=>Jy R<|Js<|Jz<|Jp<|Jf3 R ?_
 have hw22:sh .i64 (v3+1)=v3+1:=wr1 hj22 (Jm2 hc22) hN22
 rw[hw22]
 have hc22:=Jm2 hc22
 cases h
 exact Jz1 λa ha=>⟨k,_,Ja3 _,⟨K38,v3+1,R,(S30.tr S39).wk R,by omega,by omega,hk31⟩,(ha.mm R)⟩
 refine JT λh=>Jx R<|Je3 R<|Ju<|Ja1<|Jw<|Jw ?_
 cases h
 obtain rfl:=Option.some.inj hk31
 have h:=yL hK23
 refine Ja1<|Jq2<|Jw<|Ja2 (l:=[.tmp 2]) V125 (Jp2 R R) R ?_
 cases h
 exact⟨K38,R,(hE.stp (T5 S3 S11 S19 S30 S39) R R)⟩
 rintro _ w25 ⟨K26,rfl,S27,rfl⟩
 have h:=yI hK23
 refine Jp<|Je3 R<|Ju<|Ja2 (l:=[.tmp 2]) V125 (Jp2 R R) R ?_
 cases h
 exact⟨K26,R,(hE.stp (T4 S3 S11 S19 S27) R R)⟩
 refine JT λh=>Jx R<|Je3 R<|Ju<|Jw<|Ja2 (l:=[.tmp 2]) V125 (Jp2 R R) R ?_
 cases h
 exact⟨K18,R,(hE.stp (T3 S3 S11 S19) R R)⟩
theorem ny {af ak ae aj ah ai}{p0:Parity}(g0_0_0:Rd (Rp.int .i64) κ w 0 af ak p0.Arena.Owner) (g0_0_1:Rd (Rp.sl (Rp.int .i64)) κ w 0 ae aj p0.Arena.Next) (g0_1:Rd (Rp.int .i64) κ w 0 ah ai p0.Prio){r:(List Int)}(h:g6 p0=some r):Ret Tryz.prog 174 [.agg #[.slice af p0.Arena.Owner.length ak,.slice ae p0.Arena.Next.length aj,.slice ah p0.Prio.length ai]] w (Pvs E6 2 κ w r):=by
 unfold g6 at h
 refine Jk3 κ F174 R N174 R λhE=>Je [1,2] R<|Jf1 (κ:=κ) 2 R R R R R R R λb1 w1 K2 S3 f4=>Tv<|Jb 1 R<|Jq<|Js1 (κ:=K2) [2] none [(2,2),(0,0),(3,0),(4,2),(1,1),(5,1),(6,1),(7,2)] [] (by kernel_rfl) (by kernel_rfl) λw6 S5=>Jd3 R U108 R Z29 ?_
 have f7:=f4.stp S5 R R
 refine Jg R (Jd2 (cs:=[.slice af p0.Arena.Owner.length ak,.slice ae p0.Arena.Next.length aj,.slice ah p0.Prio.length ai]) I108 Z108 R R R<|haC f7.cells R)<|Jg R (Jc2 I29 R R<|hvC (f7.ld 2 R R) R)<|Jn3 R U29 R R<|Ob h λx7 hx7 h=>Jh R R R C175 (qT (κ:=λb=>mp [] 1<|K2 b) (p0:=p0) (Jl2 (g0_0_0.stp (S3.tr S5) R R) (mp [] 1) R R) (Jl2 (g0_0_1.stp (S3.tr S5) R R) (mp [] 1) R R) (Jl2 (g0_1.stp (S3.tr S5) R R) (mp [] 1) R R) hx7) ?_
 rintro _ w11 ⟨k12,aC,au,aF,ax,aE,aG,av,aB,aA,ar,rfl,e13,f14,f15,f16,f17,f18⟩
 obtain⟨K19,S20,m21,z22⟩:=Jj e13 3 R
 refine⟨(S20.cl R),Ob h λx11 hx11 h=>Jh R R R C214 (tA (κ:=Mk K19) hx11) ?_⟩
 rintro _ w28 ⟨k29,az,aD,rfl,e30,f31⟩
 obtain⟨K32,S33,m34⟩:=Ji e30 10 R
 refine⟨((S20.tr S33).cl R),Ob h λx12 hx12 h=>Jh R R R C213 (pM _ (κ:=Mk K32) (p0:=x7) (Ji3 ((f14.mx z22).stp S33 R R)) (Ji3 ((f15.mx z22).stp S33 R R)) (Ji3 ((f16.mx z22).stp S33 R R)) (Ji3 ((f17.mx (cD (bD _) _) m21 R (R:3+5=8)).stp S33 R R).rdc) (Ji3 ((f18.mx (bD _) m21 R (R:3+6=9)).stp S33 R R).rdc) (Ji3 (f31.mx ie m34 R (R:10+2=12)).rdc) hx12) ?_⟩
 rintro _ w42 ⟨k43,ao,an,rfl,e44,f45⟩
 obtain⟨K46,S47,m48⟩:=Ji e44 13 R
 refine⟨((T3 S20 S33 S47).cl R),?_⟩
 have f50:=f45.mx ie m48 R (R:13+2=15)
 refine Jn 1 R<|Jt1<|Jd<|Je [1,2] R<|Jo1 (κ:=K46) (E:=E6) 16 R R R R R Y29 a8 R λaq al w51 K52 S53 f54=>Tv<|Jb 1 R<|Jq<|Je3 R ?_
 have hN55:(x12.length:Int)<=9223372036854775807:=f50.len_le
 refine Ob h λq2 hq57 hK56=>?_
 clear h
 refine Jx1 (λL w'=>∃κ',∃s3:(List Int),∃ac ab,L=[(4,.slice ac s3.length ab)]/\Stp [16] K52 w51 κ' w'/\Oc E6 2 κ' w' 16 ac ab s3/\q2=yk s3) ?_ ?_
 refine Jv<|Jy1 (λk L w'=>∃κ' v5,∃s1:(List Int),∃aa ad,L=[(3,.slice ao x12.length an),(4,.slice aa s1.length ad),(5,vi v5)]/\Stp [16] K52 w51 κ' w'/\Oc E6 2 κ' w' 16 aa ad s1/\0<=v5/\yn ((x12.length:Int)-v5)=k/\cntM (jS x12) k v5 s1=some q2) ⟨_,_,⟨K52,0,(([]:List Int):(List Int)),aq,al,R,Jj3,f54,(by decide),(by simp),hq57⟩,(KM R)⟩ ?_
 rintro k _ w62 ⟨K63,v5,s1,aa,ad,rfl,S64,f65,hj55,hJ55,h⟩
 rcases k with _ | k
 have hk66:=h;obtain⟨o55,h⟩:=ca (yk (yl s1):(List Int)⊕(((List Int))⊕((List Int))))
 have hc55:decide (v5<(x12.length:Int))=false:=Jo2 (by omega)
 refine Jq<|Jg3 [2,2,2,2] 2 R<|Jn3 R U193 R R<|Jb 1 R<|Jw2 R hc55<|Jc1<|Jt<|Jt ?_
 cases h
 have h:=hk66
 refine Jb1 ?_
 cases h
 exact Jw1 _ ⟨K63,s1,aa,ad,R,S64.wk R,f65,R⟩<|KM R
 obtain⟨o55,h,hk66⟩:=BI h;unfold jS at h
 have hc55:decide (v5<(x12.length:Int))=true:=Jn2 (by omega)
 refine Jq<|Jg3 [2,2,2,2] 2 R<|Jn3 R U193 R R<|Jb 1 R<|Jv2 R hc55<|Js<|Jp<|Jq<|Jv<|Jh3 [2,2,2,2,1,1,2,1,1,2] 3 R<|Ob h λx23 hx23 h=>Jc3 R f50.rdc hx23 U193 Z4<|Jb3 R I4 ((f50.stp (S53.tr S64) R R).rdc.gBool hx23)<|Ob h λx25 hx25 h=>Jh R R R C200 (me (κ:=Mk K63) hx25) ?_
 rintro _ w68 ⟨k69,rfl,e70⟩
 obtain⟨K71,S72,m73⟩:=Ji e70 17 R
 refine Tv<|Jn 1 R<|Jn1 (κ:=K71) (E:=E6) 19 [] (parts:=[(0,.tmp 26)]) (cells:=[vi<|IntKind.i64.wrap (1-x25)]) (xs:=([(IntKind.i64.wrap (1-x25))]:List Int)) R R R R R R Y29 a8 R R R R R R R R R R ⟨[vi<|IntKind.i64.wrap (1-x25)],[],Zl K71 w68 [],Zl K71 w68 [],R,Zl.sp (l1:=[]) (l2:=[]) R,Zl.sr (l1:=[]) (l2:=[]),R,R⟩ λaw ay w75 K76 S77 f78=>Tv<|Ob h λx28 hx28 h=>Jm1 (κ:=K76) (E:=E6) 16 [] R R R R R R R R R Y29 a8 R R R R (f65.stp (S72.tr S77) R R) (Sl.srcP (bM _) f78.rdc) bH hx28 R λam ap w80 K81 S82 f83=>Tv<|Jc 1 R<|Jz<|Jp<|Jf3 R ?_
 have hw55:sh .i64 (v5+1)=v5+1:=wr1 hj55 (Jm2 hc55) hN55
 rw[hw55]
 have hc55:=Jm2 hc55
 cases h
 exact Jz1 λa ha=>⟨k,_,Ja3 _,⟨K81,v5+1,x28,am,ap,R,(T4 S64 S72 S77 S82).wk R,f83,by omega,by omega,hk66⟩,(ha.mm R)⟩
 rintro _ w58 ⟨K59,s3,ac,ab,rfl,S60,f61,rfl⟩
 have h:=yI hK56
 refine Jp<|Je3 R<|Ju<|Ja2 (l:=[.tmp 2]) V174 (Jp2 R R) R ?_
 cases h
 exact⟨(λb=>ren [(16,2)]<|K59 b),ac,ab,R,((hE.stp (T7 S3 S5 S20 S33 S47 S53 S60) R R).map (ren [(16,2)]) R R),(f61.map (ren [(16,2)]) R R)⟩
theorem rn {aa ah ac ak ae ad aj ai ab af}{p0:l7Game}{a1 u1}{p1:(List Bool)}{p2:Int}(g0_0:Rd (Rp.int .i64) κ w 0 aa ah p0.owner) (g0_1:Rd (Rp.int .i64) κ w 0 ac ak p0.prio) (g0_2:Rd (Rp.sl (Rp.int .i64)) κ w 0 ae ad p0.next) (g0_3:Rd (Rp.sl (Rp.int .i64)) κ w 0 aj ai p0.prev) (g0_4:Rd (Rp.int .i64) κ w 0 ab af p0.pick) (g1:Rd Rp.bool κ w 0 a1 u1 p1){r:Bool}(h:kO p0 p1 p2=some r):Ret Tryz.prog 215 [.agg #[.slice aa p0.owner.length ah,.slice ac p0.prio.length ak,.slice ae p0.next.length ad,.slice aj p0.prev.length ai,.slice ab p0.pick.length af],.slice a1 p1.length u1,vi p2] w (Pvb κ w r):=by
 unfold kO at h
 refine Jk3 κ F215 R N215 R λhE=>Je [1,2] R<|Jf1 (κ:=κ) 2 R R R R R R R λb3 w1 K2 S3 f4=>Tv<|Jb 1 R<|Je [1,2,1,2] R<|Jl tv R R R R (Jd2 (cs:=[.slice aa p0.owner.length ah,.slice ac p0.prio.length ak,.slice ae p0.next.length ad,.slice aj p0.prev.length ai,.slice ab p0.pick.length af]) I191 Z191 R R R<|haE f4.cells)<|Jn 1 R<|Ob h λx11 hx11 h=>?_
 have f10:=g1.stp S3 R R
 refine Jh R R R C213 (pM _ (κ:=Mk K2) (p0:=p0) (Ji3<|g0_0.stp S3 R R) (Ji3<|g0_1.stp S3 R R) (Ji3<|g0_2.stp S3 R R) (Ji3<|g0_3.stp S3 R R) (Ji3<|g0_4.stp S3 R R) (Ji3 f10) hx11) ?_
 rintro _ w11 ⟨k12,al,am,rfl,e13,f14⟩
 obtain⟨K15,S16,m17⟩:=Ji e13 3 R
 refine Tv<|?_
 have f19:=f14.mx ie m17 R (R:3+2=5)
 refine Jb 1 R<|Jq<|Je3 R ?_
 have hN20:(p1.length:Int)<=9223372036854775807:=f10.len_le
 refine Ob h λq2 hq22 hK21=>?_
 clear h
 refine Jx1 (λL w'=>∃κ',L=[]/\Stp [] K15 w11 κ' w'/\q2=yk ()) ?_ ?_
 refine Jv<|Jy1 (λk L w'=>∃κ' v8,L=[(1,.slice a1 p1.length u1),(2,vi p2),(7,.slice al x11.length am),(8,vi v8)]/\Stp [] K15 w11 κ' w'/\0<=v8/\yn ((p1.length:Int)-v8)=k/\cntM (gA p1 p2 x11) k v8 ()=some q2) ⟨_,_,⟨K15,0,R,Jj3,(by decide),(by simp),hq22⟩,(KM R)⟩ ?_
 rintro k _ w26 ⟨K27,v8,rfl,S28,hj20,hJ20,h⟩
 rcases k with _ | k
 have hk29:=h;obtain⟨o20,h⟩:=ca (yk (yl ()):Bool⊕((Unit)⊕(Unit)))
 have hc20:decide (v8<(p1.length:Int))=false:=Jo2 (by omega)
 refine Jq<|Jg3 [2,2,2,2] 2 R<|Jn3 R U193 R R<|Jb 1 R<|Jw2 R hc20<|Jc1<|Jt<|Jt ?_
 cases h
 have h:=hk29
 refine Jb1 ?_
 cases h
 exact Jw1 _ ⟨K27,R,S28.wk R,R⟩ KN
 obtain⟨o20,h,hk29⟩:=BI h;unfold gA at h
 have hc20:decide (v8<(p1.length:Int))=true:=Jn2 (by omega)
 refine Jq<|Jg3 [2,2,2,2] 2 R<|Jn3 R U193 R R<|Jb 1 R<|Jv2 R hc20<|Js<|Jp<|Jq<|Jv<|Jg3 [2,2,2,1,2,2,2,2,1,2,2,2,2] 2 R<|Ob h λx20 hx20 h=>Jc3 R f10 hx20 U193 Z4<|Jb3 R I4 ((f10.stp (S16.tr S28) R R).gBool hx20)<|Jn 1 R<|Ob h λp30 h hK31=>Ju1 [(5,2),(6,2),(7,2),(8,1),(9,2),(10,2),(11,2),(12,2)] [] (λL w'=>L=[(1,.slice a1 p1.length u1),(2,vi p2),(7,.slice al x11.length am),(8,vi v8),(30,.bool p30)]/\∃κ',Stp [] K27 w26 κ' w') tv ?_ ?_
 revert h
 cases ht32:x20
 refine JF λh=>Jn 3 R<|Jd1 R R R R<|Jn 4 R ?_
 cases h
 exact Jv1 _ tv ⟨R,_,Jj3⟩<|KM R
 refine JT λh=>Jn 2 R<|Ob h λx25 hx25 h=>Jc3 R f19.rdc hx25 U193 Z4<|Jb3 R I4 ((f19.stp S28 R R).rdc.gBool hx25)<|Jn 2 R<|Jf R (rY R R U4 R)<|Jn 1 R ?_
 cases h
 exact Jv1 _ tv ⟨R,_,Jj3⟩<|KM R
 rintro _ w34 _ ⟨rfl,K35,S36⟩
 have h:=hK31
 refine Jd ?_
 revert h
 cases ht37:p30
 refine JF λh=>Jy R<|Js<|Jz<|Jp<|Jf3 R ?_
 have hw20:sh .i64 (v8+1)=v8+1:=wr1 hj20 (Jm2 hc20) hN20
 rw[hw20]
 have hc20:=Jm2 hc20
 cases h
 exact Jz1 λa ha=>⟨k,_,Ja3 _,⟨K35,v8+1,R,(S28.tr S36).wk R,by omega,by omega,hk29⟩,(ha.mm R)⟩
 refine JT λh=>Jx R<|Je3 R<|Ju<|Ja1<|Jw<|Jw ?_
 cases h
 obtain rfl:=Option.some.inj hk29
 have h:=yL hK21
 refine Ja1<|Jq2<|Jw<|Ja2 (l:=[.tmp 6]) V215 (Jp2 R R) R ?_
 cases h
 exact⟨K35,R,(hE.stp (T4 S3 S16 S28 S36) R R)⟩
 rintro _ w23 ⟨K24,rfl,S25,rfl⟩
 have h:=yI hK21
 refine Jp<|Je3 R<|Ju<|Ja2 (l:=[.tmp 6]) V215 (Jp2 R R) R ?_
 cases h
 exact⟨K24,R,(hE.stp (T3 S3 S16 S25) R R)⟩
theorem pB {p0:Sig}{aa ab ac ad}{p1:Machine}(g1_0:Rd (Rp.sl (Rp.int .i64)) κ w 0 aa ab p1.Next) (g1_1:Rd (Rp.sl (Rp.int .i64)) κ w 0 ac ad p1.Out){r:Bool}(h:jk p0 p1=some r):Ret Tryz.prog 49 [.agg #[vi p0.In,vi p0.Out],.agg #[.slice aa p1.Next.length ab,.slice ac p1.Out.length ad]] w (Pvb κ w r):=by
 unfold jk at h
 refine Jk3 κ F49 R N49 R λhE=>Je [1,1,2] R<|Jf1 (κ:=κ) 2 R R R R R R R λb2 w1 K2 S3 f4=>Tv<|Jf1 (κ:=K2) 3 R R R R R R R λb3 w5 K6 S7 f8=>Tv<|Jb 1 R<|Je [2,1,2,2] R<|Jd3 R U28 R Z26<|Jb3 R I26 (f8.ld 0 R R)<|Jn3 R U26 R R<|Jb 1 R<|Jq<|Jg3 [2,2,2,2,2,2,2,2,1,2,2,1,2,2,2] 3 R<|Ob h λp16 h hK9=>Ju1 [(3,2),(4,2),(5,2)] [(6,2),(7,2),(8,1),(9,2),(10,2),(11,1),(12,2),(13,2),(14,2)] (λL w'=>L=[(2,.pointer (some ⟨b2,0,none⟩)),(3,.pointer (some ⟨b3,0,none⟩)),(5,vi (p1.Next.length:Int)),(16,.bool p16)]/\∃κ',Stp [] K6 w5 κ' w') tv ?_ ?_
 revert h
 cases ht10:decide ((p1.Next.length:Int)<1)
 refine JF λh=>Jn 3 R ?_
 cases h
 exact Jv1 _ tv ⟨R,_,Jj3⟩<|KM R
 refine JT λh=>Jn 3 R ?_
 cases h
 exact Jv1 _ tv ⟨R,_,Jj3⟩<|KM R
 rintro _ w11 _ ⟨rfl,K12,S13⟩
 have h:=hK9
 refine Jn 1 R<|Ob h λp25 h hK14=>Ju1 [(7,2),(8,1),(9,2),(10,2),(11,1),(12,2),(13,2),(14,2)] [] (λL w'=>L=[(2,.pointer (some ⟨b2,0,none⟩)),(3,.pointer (some ⟨b3,0,none⟩)),(5,vi (p1.Next.length:Int)),(25,.bool p25)]/\∃κ',Stp [] K12 w11 κ' w') tv ?_ ?_
 revert h
 cases ht15:p16
 refine JF λh=>Jd3 R U28 R Z26 ?_
 have f16:=f8.stp S13 R R
 refine Jb3 R I26 (f16.ld 1 R R)<|Jn3 R U26 R R<|Jd3 R U28 R Z26<|Jb3 R I26 (f16.ld 0 R R)<|Jn3 R U26 R R<|Jn 2 R ?_
 cases h
 exact Jv1 _ tv ⟨R,_,Jj3⟩<|KM R
 refine JT λh=>Jn 1 R<|Jd1 R R R R<|Jn 2 R<|Jd1 R R R R<|Jn 3 R ?_
 cases h
 exact Jv1 _ tv ⟨R,_,Jj3⟩<|KM R
 rintro _ w17 _ ⟨rfl,K18,S19⟩
 have h:=hK14
 refine Jd ?_
 revert h
 cases ht20:p25
 refine JF λh=>Jy R<|Js<|Jp<|Jq<|Je [2,1,2,2] R<|Jd3 R U28 R Z26 ?_
 have f22:=f8.stp (S13.tr S19) R R
 refine Jb3 R I26 (f22.ld 0 R R)<|Jn3 R U26 R R<|Jb 1 R ?_
 have hN23:(p1.Next.length:Int)<=9223372036854775807:=g1_0.len_le
 refine Ob h λq2 hq25 hK24=>?_
 clear h
 refine Jx1 (λL w'=>∃κ',L=[]/\Stp [] K18 w17 κ' w'/\q2=yk ()) ?_ ?_
 refine Jv<|Jy1 (λk L w'=>∃κ' v29,L=[(2,.pointer (some ⟨b2,0,none⟩)),(3,.pointer (some ⟨b3,0,none⟩)),(5,vi (p1.Next.length:Int)),(27,.slice aa p1.Next.length ab),(28,vi (p1.Next.length:Int)),(29,vi v29)]/\Stp [] K18 w17 κ' w'/\0<=v29/\yn ((p1.Next.length:Int)-v29)=k/\cntM (fl p0 p1) k v29 ()=some q2) ⟨_,_,⟨K18,0,R,Jj3,(by decide),(by simp),hq25⟩,(KM R)⟩ ?_
 rintro k _ w29 ⟨K30,v29,rfl,S31,hj23,hJ23,h⟩
 rcases k with _ | k
 have hk32:=h;obtain⟨o23,h⟩:=ca (yk (yl ()):Bool⊕((Unit)⊕(Unit)))
 have hc23:decide (v29<(p1.Next.length:Int))=false:=Jo2 (by omega)
 refine Je3 R<|Jq<|Jw2 R hc23<|Jc1<|Jt<|Jt ?_
 cases h
 have h:=hk32
 refine Jb1 ?_
 cases h
 exact Jw1 _ ⟨K30,R,S31.wk R,R⟩ KN
 obtain⟨o23,h,hk32⟩:=BI h;unfold fl at h
 have hc23:decide (v29<(p1.Next.length:Int))=true:=Jn2 (by omega)
 refine Je3 R<|Jq<|Jv2 R hc23<|Js<|Jp<|Jq<|Jv<|Jg3 [2,2,1,2,2] 1 R<|Ob h λx32 hx32 h=>Jc3 R g1_0 hx32 U26 Z29 ?_
 obtain⟨ax32,ux32,f34,hl35⟩:=(g1_0.stp (T5 S3 S7 S13 S19 S31) R R).gSl hx32
 refine Jb3 R I29 hl35<|Jb 2 R<|Jq<|Js1 (κ:=K30) [0,2,3] none [(0,2),(1,2),(2,0),(3,1),(4,2),(5,2),(6,2),(8,2),(12,2),(13,2),(7,0),(9,2),(10,0),(11,2),(14,2),(15,2),(16,2),(17,2),(18,2),(19,1),(20,2),(21,2),(22,2),(23,2),(25,2),(28,2),(24,0),(26,2),(27,0),(29,0),(30,2),(31,1),(32,2),(33,2)] [] (by kernel_rfl) (by kernel_rfl) λw37 S36=>Jn 1 R<|Jn3 R U29 R R ?_
 have f38:=f4.stp (T5 S7 S13 S19 S31 S36) R R
 refine Jg R (Jd2 (cs:=[vi p0.In,vi p0.Out]) I25 Z25 R R R<|haC f38.cells R)<|Ob h λx37 hx37 h=>Jh R R R C52 (iM (κ:=Mk K30) (p0:=p0) hx37) ?_
 rintro _ w39 ⟨k40,rfl,e41⟩
 obtain⟨K42,S43,m44⟩:=Ji e41 4 R
 refine⟨(S43.cl R),Jn 2 R<|Ob h λp49 h hK46=>Ju1 [(6,2),(8,2),(12,2),(13,2),(7,0),(9,2),(10,0),(11,2),(14,2),(15,2)] [(16,2),(17,2),(18,2),(19,1),(20,2),(21,2),(22,2),(23,2),(25,2),(28,2),(24,0),(26,2),(27,0),(29,0),(30,2),(31,1),(32,2),(33,2)] (λL w'=>L=[(2,.pointer (some ⟨b2,0,none⟩)),(3,.pointer (some ⟨b3,0,none⟩)),(5,vi (p1.Next.length:Int)),(6,vi v29),(7,.slice ax32 x32.length ux32),(27,.slice aa p1.Next.length ab),(28,vi (p1.Next.length:Int)),(29,vi v29),(49,.bool p49)]/\∃κ',Stp [] K42 w39 κ' w') (S43.cl R) ?_ ?_⟩
 revert h
 cases ht47:((x32.length:Int) !=x37)
 refine JF λh=>Jd3 R U28 R Z26<|Jn 2 R<|Jn3 R U29 R R<|Jg R (Jc2 I26 R R<|hvC ((f22.stp (S31.tr S36) R R).ld 1 R R) R)<|Ob h λx43 hx43 h=>Jc3 R g1_1 hx43 U26 Z29 ?_
 obtain⟨ax43,ux43,f50,hl51⟩:=(g1_1.stp (T6 S3 S7 S13 S19 S31 S36) R R).gSl hx43
 refine Jg R (Jc2 I29 R R<|hvC hl51 R)<|Jn3 R U29 R R<|Jn 2 R ?_
 cases h
 exact Jv1 _ (S43.cl R) ⟨R,_,Jj3⟩<|KM R
 refine JT λh=>Jn 4 R<|Je1 R R R R<|Jn 1 R<|Je1 R R R R<|Jn 3 R ?_
 cases h
 exact Jv1 _ (S43.cl R) ⟨R,_,Jj3⟩<|KM R
 rintro _ w52 _ ⟨rfl,K53,S54⟩
 have h:=hK46
 refine Jn 1 R<|Ob h λp55 h hK55=>Ju1 [(17,2),(18,2),(19,1),(20,2),(21,2)] [(22,2),(23,2),(25,2),(28,2),(24,0),(26,2),(27,0),(29,0),(30,2),(31,1),(32,2),(33,2)] (λL w'=>L=[(2,.pointer (some ⟨b2,0,none⟩)),(3,.pointer (some ⟨b3,0,none⟩)),(5,vi (p1.Next.length:Int)),(6,vi v29),(27,.slice aa p1.Next.length ab),(28,vi (p1.Next.length:Int)),(29,vi v29),(55,.bool p55)]/\∃κ',Stp [] K53 w52 κ' w') ((S43.tr S54).cl R) ?_ ?_
 revert h
 cases ht56:p49
 refine JF λh=>Jn 2 R<|Ob h λx53 hx53 h=>Jh R R R C66 (dc (κ:=Mk K53) (Ji3<|f34.stp (T3 S36 S43 S54) R R) hx53) ?_
 rintro _ w58 ⟨k59,rfl,e60⟩
 obtain⟨K61,S62,m63⟩:=Ji e60 6 R
 refine⟨((T3 S43 S54 S62).cl R),Jn 2 R ?_⟩
 cases h
 exact Jv1 _ ((T3 S43 S54 S62).cl R) ⟨R,_,S62.wk R⟩<|KM R
 refine JT λh=>Jn 2 R<|Jd1 R R R R<|Jn 2 R ?_
 cases h
 exact Jv1 _ ((S43.tr S54).cl R) ⟨R,_,Jj3⟩<|KM R
 rintro _ w65 _ ⟨rfl,K66,S67⟩
 have h:=hK55
 refine Jn 1 R<|Ob h λp67 h hK68=>Ju1 [(23,2),(25,2),(28,2),(24,0),(26,2),(27,0),(29,0),(30,2),(31,1),(32,2),(33,2)] [] (λL w'=>L=[(2,.pointer (some ⟨b2,0,none⟩)),(3,.pointer (some ⟨b3,0,none⟩)),(5,vi (p1.Next.length:Int)),(27,.slice aa p1.Next.length ab),(28,vi (p1.Next.length:Int)),(29,vi v29),(67,.bool p67)]/\∃κ',Stp [] K66 w65 κ' w') ((T3 S43 S54 S67).cl R) ?_ ?_
 revert h
 cases ht69:p55
 refine JF λh=>Jd3 R U28 R Z26<|Jn 1 R<|Jd3 R U25 R Z2<|Jg R (Jc2 I26 R R<|hvC ((f22.stp (S31.tr S36) R R).ld 1 R R) R)<|Ob h λx60 hx60 h=>Jc3 R g1_1 hx60 U26 Z29 ?_
 obtain⟨ax60,ux60,f72,hl73⟩:=(g1_1.stp (T6 S3 S7 S13 S19 S31 S36) R R).gSl hx60
 refine Jg R (Jc2 I29 R R<|hvC hl73 R)<|Jg R (Jc2 I2 R R<|hvC (f38.ld 1 R R) R)<|Ob h λ_z64 hz64 h=>Jf R (qc R R R<|te hz64)<|Ob h λx65 hx65 h=>Jh R R R C66 (dc (κ:=Mk K66) (Ji3<|f72.stp (T3 S43 S54 S67) R R) hx65) ?_
 rintro _ w75 ⟨k76,rfl,e77⟩
 obtain⟨K78,S79,m80⟩:=Ji e77 6 R
 refine⟨((T4 S43 S54 S67 S79).cl R),Jn 2 R ?_⟩
 cases h
 exact Jv1 _ ((T4 S43 S54 S67 S79).cl R) ⟨R,_,S79.wk R⟩<|KM R
 refine JT λh=>Jn 3 R<|Je1 R R R R<|Jn 1 R<|Je1 R R R R<|Je1 R R R R<|Jn 1 R<|Jd1 R R R R<|Jn 2 R ?_
 cases h
 exact Jv1 _ ((T3 S43 S54 S67).cl R) ⟨R,_,Jj3⟩<|KM R
 rintro _ w82 _ ⟨rfl,K83,S84⟩
 have h:=hK68
 refine Jt1<|Jd ?_
 revert h
 cases ht85:p67
 refine JF λh=>Jy R<|Js<|Jz<|Jp<|Jf3 R ?_
 have hw23:sh .i64 (v29+1)=v29+1:=wr1 hj23 (Jm2 hc23) hN23
 rw[hw23]
 have hc23:=Jm2 hc23
 cases h
 exact Jz1 λa ha=>⟨k,_,Ja3 _,⟨K83,v29+1,R,(T6 S31 S36 S43 S54 S67 S84).wk R,by omega,by omega,hk32⟩,(ha.mm R)⟩
 refine JT λh=>Jx R<|Je3 R<|Ju<|Ja1<|Jw<|Jw ?_
 cases h
 obtain rfl:=Option.some.inj hk32
 have h:=yL hK24
 refine Ja1<|Jq2<|Jw<|Ja2 (l:=[.tmp 4]) V49 (Jp2 R R) R ?_
 cases h
 exact⟨K83,R,(hE.stp (T10 S3 S7 S13 S19 S31 S36 S43 S54 S67 S84) R R)⟩
 rintro _ w26 ⟨K27,rfl,S28,rfl⟩
 have h:=yI hK24
 refine Jp<|Je3 R<|Ju<|Ja2 (l:=[.tmp 4]) V49 (Jp2 R R) R ?_
 cases h
 exact⟨K27,R,(hE.stp (T5 S3 S7 S13 S19 S28) R R)⟩
 refine JT λh=>Jx R<|Je3 R<|Ju<|Jw<|Ja2 (l:=[.tmp 4]) V49 (Jp2 R R) R ?_
 cases h
 exact⟨K18,R,(hE.stp (T4 S3 S7 S13 S19) R R)⟩
theorem lB {p0:Sig}{ac ad aa ab}{p1:Rival}(g1_0:Rd (Rp.int .i64) κ w 0 ac ad p1.In) (g1_1:Rd (Rp.sl (Rp.int .i64)) κ w 0 aa ab p1.Next){r:Bool}(h:iy p0 p1=some r):Ret Tryz.prog 50 [.agg #[vi p0.In,vi p0.Out],.agg #[.slice ac p1.In.length ad,.slice aa p1.Next.length ab]] w (Pvb κ w r):=by
 unfold iy at h
 refine Jk3 κ F50 R N50 R λhE=>Je [1,1,2] R<|Jf1 (κ:=κ) 2 R R R R R R R λb2 w1 K2 S3 f4=>Tv<|Jf1 (κ:=K2) 3 R R R R R R R λb3 w5 K6 S7 f8=>Tv<|Jb 1 R<|Je [2,1,2,2] R<|Jd3 R U31 R Z29<|Jb3 R I29 (f8.ld 0 R R)<|Jn3 R U29 R R<|Jb 1 R<|Jq<|Jq<|Js1 (κ:=K6) [2,3] none [(0,2),(1,2),(2,2),(3,2),(4,2),(5,2),(6,2),(7,2),(10,2),(8,0),(9,2),(11,0),(12,2),(13,2),(14,2),(15,2),(16,2),(17,0),(18,0),(19,1),(20,1),(21,2),(22,2)] [] (by kernel_rfl) (by kernel_rfl) λw10 S9=>Jn 3 R<|Ob h λp16 h hK11=>Ju1 [(3,2),(4,2),(5,2)] [(6,2),(7,2),(10,2),(8,0),(9,2),(11,0),(12,2),(13,2),(14,2),(15,2),(16,2),(17,0),(18,0),(19,1),(20,1),(21,2),(22,2)] (λL w'=>L=[(2,.pointer (some ⟨b2,0,none⟩)),(3,.pointer (some ⟨b3,0,none⟩)),(5,vi (p1.In.length:Int)),(16,.bool p16)]/\∃κ',Stp [] K6 w10 κ' w') (Cl.refl _ _ _) ?_ ?_
 revert h
 cases ht12:decide ((p1.In.length:Int)<1)
 refine JF λh=>Jn 3 R ?_
 cases h
 exact Jv1 _ (Cl.refl _ _ _) ⟨R,_,Jj3⟩<|KM R
 refine JT λh=>Jn 3 R ?_
 cases h
 exact Jv1 _ (Cl.refl _ _ _) ⟨R,_,Jj3⟩<|KM R
 rintro _ w13 _ ⟨rfl,K14,S15⟩
 have h:=hK11
 refine Jn 1 R<|Ob h λp25 h hK16=>Ju1 [(7,2),(10,2),(8,0),(9,2),(11,0),(12,2),(13,2),(14,2)] [(15,2),(16,2),(17,0),(18,0),(19,1),(20,1),(21,2),(22,2)] (λL w'=>L=[(2,.pointer (some ⟨b2,0,none⟩)),(3,.pointer (some ⟨b3,0,none⟩)),(5,vi (p1.In.length:Int)),(25,.bool p25)]/\∃κ',Stp [] K14 w13 κ' w') (S15.cl R) ?_ ?_
 revert h
 cases ht17:p16
 refine JF λh=>Jd3 R U31 R Z26<|Jd3 R U31 R Z29 ?_
 have f18:=f8.stp S9 R R
 refine Jg R (Jc2 I26 R R<|hvC (f18.ld 1 R R) R)<|Jn3 R U26 R R<|Jg R (Jc2 I29 R R<|hvC (f18.ld 0 R R) R)<|Jn3 R U29 R R<|Jn 2 R ?_
 cases h
 exact Jv1 _ (S15.cl R) ⟨R,_,Jj3⟩<|KM R
 refine JT λh=>Jn 2 R<|Je1 R R R R<|Jn 1 R<|Je1 R R R R<|Jn 3 R ?_
 cases h
 exact Jv1 _ (S15.cl R) ⟨R,_,Jj3⟩<|KM R
 rintro _ w19 _ ⟨rfl,K20,S21⟩
 have h:=hK16
 refine Jn 1 R<|Ob h λp33 h hK22=>Ju1 [(16,2),(17,0),(18,0),(19,1),(20,1),(21,2),(22,2)] [] (λL w'=>L=[(2,.pointer (some ⟨b2,0,none⟩)),(3,.pointer (some ⟨b3,0,none⟩)),(5,vi (p1.In.length:Int)),(33,.bool p33)]/\∃κ',Stp [] K20 w19 κ' w') ((S15.tr S21).cl R) ?_ ?_
 revert h
 cases ht23:p25
 refine JF λh=>Jd3 R U31 R Z29<|Jg R (Jc2 I29 R R<|hvC ((f8.stp S9 R R).ld 0 R R) R)<|Jg R (Jd2 (cs:=[vi p0.In,vi p0.Out]) I25 Z25 R R R<|haC (f4.stp (S7.tr S9) R R).cells R)<|Ob h λx30 hx30 h=>Jh R R R C52 (iM (κ:=Mk K20) (p0:=p0) hx30) ?_
 rintro _ w26 ⟨k27,rfl,e28⟩
 obtain⟨K29,S30,m31⟩:=Ji e28 4 R
 refine⟨((T3 S15 S21 S30).cl R),Ob h λx31 hx31 h=>Jh R R R C66 (dc (κ:=Mk K29) (Ji3<|g1_0.stp (T6 S3 S7 S9 S15 S21 S30) R R) hx31) ?_⟩
 rintro _ w34 ⟨k35,rfl,e36⟩
 obtain⟨K37,S38,m39⟩:=Ji e36 6 R
 refine⟨((T4 S15 S21 S30 S38).cl R),Jn 2 R ?_⟩
 cases h
 exact Jv1 _ ((T4 S15 S21 S30 S38).cl R) ⟨R,_,(S30.tr S38).wk R⟩<|KM R
 refine JT λh=>Jn 1 R<|Je1 R R R R<|Je1 R R R R<|Jd1 R R R R<|Jd1 R R R R<|Jn 2 R ?_
 cases h
 exact Jv1 _ ((S15.tr S21).cl R) ⟨R,_,Jj3⟩<|KM R
 rintro _ w41 _ ⟨rfl,K42,S43⟩
 have h:=hK22
 refine Jt1<|Jd ?_
 revert h
 cases ht44:p33
 refine JF λh=>Jy R<|Js<|Jp<|Jq<|Je [2,1,2,2] R<|Jd3 R U31 R Z26<|Jb3 R I26 ((f8.stp (T4 S9 S15 S21 S43) R R).ld 1 R R)<|Jn3 R U26 R R<|Jb 1 R ?_
 have hN47:(p1.Next.length:Int)<=9223372036854775807:=g1_1.len_le
 refine Ob h λq2 hq49 hK48=>?_
 clear h
 refine Jx1 (λL w'=>∃κ',L=[]/\Stp [] K42 w41 κ' w'/\q2=yk ()) ?_ ?_
 refine Jv<|Jy1 (λk L w'=>∃κ' v37,L=[(2,.pointer (some ⟨b2,0,none⟩)),(5,vi (p1.In.length:Int)),(35,.slice aa p1.Next.length ab),(36,vi (p1.Next.length:Int)),(37,vi v37)]/\Stp [] K42 w41 κ' w'/\0<=v37/\yn ((p1.Next.length:Int)-v37)=k/\cntM (gU p0 p1) k v37 ()=some q2) ⟨_,_,⟨K42,0,R,Jj3,(by decide),(by simp),hq49⟩,(KM R)⟩ ?_
 rintro k _ w53 ⟨K54,v37,rfl,S55,hj47,hJ47,h⟩
 rcases k with _ | k
 have hk56:=h;obtain⟨o47,h⟩:=ca (yk (yl ()):Bool⊕((Unit)⊕(Unit)))
 have hc47:decide (v37<(p1.Next.length:Int))=false:=Jo2 (by omega)
 refine Je3 R<|Jq<|Jw2 R hc47<|Jc1<|Jt<|Jt ?_
 cases h
 have h:=hk56
 refine Jb1 ?_
 cases h
 exact Jw1 _ ⟨K54,R,S55.wk R,R⟩ KN
 obtain⟨o47,h,hk56⟩:=BI h;unfold gU at h
 have hc47:decide (v37<(p1.Next.length:Int))=true:=Jn2 (by omega)
 refine Je3 R<|Jq<|Jv2 R hc47<|Js<|Jp<|Jq<|Jv<|Je [2,1,2] R<|Ob h λx39 hx39 h=>Jc3 R g1_1 hx39 U26 Z29 ?_
 obtain⟨ax39,ux39,f58,hl59⟩:=(g1_1.stp (T7 S3 S7 S9 S15 S21 S43 S55) R R).gSl hx39
 refine Jb3 R I29 hl59<|Jb 1 R<|Jg3 [2,2,2,1,2,2,2,2,2,1,2,2] 1 R<|Jn3 R U29 R R<|Jd3 R U25 R Z2<|Jb3 R I2 ((f4.stp (T6 S7 S9 S15 S21 S43 S55) R R).ld 1 R R)<|Ob h λ_z45 hz45 h=>Jf R (qc R R R<|te hz45)<|Jn 2 R<|Ob h λp52 h hK61=>Ju1 [(7,2),(8,2),(9,1),(10,2),(11,2)] [] (λL w'=>L=[(2,.pointer (some ⟨b2,0,none⟩)),(5,vi (p1.In.length:Int)),(35,.slice aa p1.Next.length ab),(36,vi (p1.Next.length:Int)),(37,vi v37),(52,.bool p52)]/\∃κ',Stp [] K54 w53 κ' w') tv ?_ ?_
 revert h
 cases ht62:((x39.length:Int) !=(IntKind.i64.wrap (1 * 2 ^ (min (yn p0.Out) (IntKind.bits IntKind.i64)))))
 refine JF λh=>Jn 2 R<|Ob h λx50 hx50 h=>Jh R R R C66 (dc (κ:=Mk K54) (Ji3 f58) hx50) ?_
 rintro _ w63 ⟨k64,rfl,e65⟩
 obtain⟨K66,S67,m68⟩:=Ji e65 4 R
 refine Tv<|Jn 2 R ?_
 cases h
 exact Jv1 _ tv ⟨R,_,S67.wk R⟩<|KM R
 refine JT λh=>Jn 2 R<|Jd1 R R R R<|Jn 2 R ?_
 cases h
 exact Jv1 _ tv ⟨R,_,Jj3⟩<|KM R
 rintro _ w70 _ ⟨rfl,K71,S72⟩
 have h:=hK61
 refine Jd ?_
 revert h
 cases ht73:p52
 refine JF λh=>Jy R<|Js<|Jz<|Jp<|Jf3 R ?_
 have hw47:sh .i64 (v37+1)=v37+1:=wr1 hj47 (Jm2 hc47) hN47
 rw[hw47]
 have hc47:=Jm2 hc47
 cases h
 exact Jz1 λa ha=>⟨k,_,Ja3 _,⟨K71,v37+1,R,(S55.tr S72).wk R,by omega,by omega,hk56⟩,(ha.mm R)⟩
 refine JT λh=>Jx R<|Je3 R<|Ju<|Ja1<|Jw<|Jw ?_
 cases h
 obtain rfl:=Option.some.inj hk56
 have h:=yL hK48
 refine Ja1<|Jq2<|Jw<|Ja2 (l:=[.tmp 4]) V50 (Jp2 R R) R ?_
 cases h
 exact⟨K71,R,(hE.stp (T8 S3 S7 S9 S15 S21 S43 S55 S72) R R)⟩
 rintro _ w50 ⟨K51,rfl,S52,rfl⟩
 have h:=yI hK48
 refine Jp<|Je3 R<|Ju<|Ja2 (l:=[.tmp 4]) V50 (Jp2 R R) R ?_
 cases h
 exact⟨K51,R,(hE.stp (T7 S3 S7 S9 S15 S21 S43 S52) R R)⟩
 refine JT λh=>Jx R<|Je3 R<|Ju<|Jw<|Ja2 (l:=[.tmp 4]) V50 (Jp2 R R) R ?_
 cases h
 exact⟨K42,R,(hE.stp (T6 S3 S7 S9 S15 S21 S43) R R)⟩
theorem lW {aa ac ad ab}{p0:Word}{p1:Int}(g0_0:Rd (Rp.int .i64) κ w 0 aa ac p0.Stem) (g0_1:Rd (Rp.int .i64) κ w 0 ad ab p0.Loop){r:Bool}(h:j5 p0 p1=some r):Ret Tryz.prog 60 [.agg #[.slice aa p0.Stem.length ac,.slice ad p0.Loop.length ab],vi p1] w (Pvb κ w r):=by
 unfold j5 at h
 refine Jk3 κ F60 R N60 R λhE=>Je [1,2] R<|Jf1 (κ:=κ) 2 R R R R R R R λb2 w1 K2 S3 f4=>Tv<|Jb 1 R<|Je [2,1,2,2,2,2,1,2,2,2,2,2,1,2,2,2,2,2,1,2,1,2,2,2,1,2,1,2,2] R<|Jd3 R U35 R Z29<|Jb3 R I29 (f4.ld 0 R R)<|Jn3 R U29 R R<|Jn 2 R<|Ob h λp14 h hK5=>Ju1 [(5,2),(6,1),(7,2),(8,2),(9,2)] [(10,2),(11,2),(12,1),(13,2),(14,2),(15,2),(16,2),(17,2),(18,1),(19,2),(20,1),(21,2),(22,2),(23,2),(24,1),(25,2),(26,1),(27,2),(28,2)] (λL w'=>L=[(1,vi p1),(2,.pointer (some ⟨b2,0,none⟩)),(4,.bool false),(14,.bool p14)]/\∃κ',Stp [] K2 w1 κ' w') tv ?_ ?_
 revert h
 cases ht6:decide ((p0.Stem.length:Int)<=600)
 refine JF λh=>Jn 1 R<|Jd1 R R R R<|Jn 3 R ?_
 cases h
 exact Jv1 _ tv ⟨R,_,Jj3⟩<|KM R
 refine JT λh=>Jd3 R U35 R Z29<|Jb3 R I29 (f4.ld 1 R R)<|Jn3 R U29 R R<|Jn 2 R ?_
 cases h
 exact Jv1 _ tv ⟨R,_,Jj3⟩<|KM R
 rintro _ w7 _ ⟨rfl,K8,S9⟩
 have h:=hK5
 refine Jn 1 R<|Ob h λp20 h hK10=>Ju1 [(11,2),(12,1),(13,2),(14,2),(15,2)] [(16,2),(17,2),(18,1),(19,2),(20,1),(21,2),(22,2),(23,2),(24,1),(25,2),(26,1),(27,2),(28,2)] (λL w'=>L=[(1,vi p1),(2,.pointer (some ⟨b2,0,none⟩)),(4,.bool false),(20,.bool p20)]/\∃κ',Stp [] K8 w7 κ' w') tv ?_ ?_
 revert h
 cases ht11:p14
 refine JF λh=>Jn 1 R<|Jd1 R R R R<|Jn 3 R ?_
 cases h
 exact Jv1 _ tv ⟨R,_,Jj3⟩<|KM R
 refine JT λh=>Jd3 R U35 R Z29<|Jb3 R I29 ((f4.stp S9 R R).ld 1 R R)<|Jn3 R U29 R R<|Jn 2 R ?_
 cases h
 exact Jv1 _ tv ⟨R,_,Jj3⟩<|KM R
 rintro _ w13 _ ⟨rfl,K14,S15⟩
 have h:=hK10
 refine Jn 1 R<|Ob h λp26 h hK16=>Ju1 [(17,2),(18,1),(19,2),(20,1),(21,2)] [(22,2),(23,2),(24,1),(25,2),(26,1),(27,2),(28,2)] (λL w'=>L=[(1,vi p1),(2,.pointer (some ⟨b2,0,none⟩)),(4,.bool false),(26,.bool p26)]/\∃κ',Stp [] K14 w13 κ' w') tv ?_ ?_
 revert h
 cases ht17:p20
 refine JF λh=>Jn 1 R<|Jd1 R R R R<|Jn 1 R<|Jd1 R R R R<|Jn 1 R ?_
 cases h
 exact Jv1 _ tv ⟨R,_,Jj3⟩<|KM R
 refine JT λh=>Jd3 R U35 R Z29<|Jb3 R I29 ((f4.stp (S9.tr S15) R R).ld 0 R R)<|Jn 1 R<|Ob h λx25 hx25 h=>Jh R R R C66 (dc (κ:=Mk K14) (Ji3<|g0_0.stp (T3 S3 S9 S15) R R) hx25) ?_
 rintro _ w20 ⟨k21,rfl,e22⟩
 obtain⟨K23,S24,m25⟩:=Ji e22 3 R
 refine Tv<|Jn 1 R ?_
 cases h
 exact Jv1 _ tv ⟨R,_,S24.wk R⟩<|KM R
 rintro _ w27 _ ⟨rfl,K28,S29⟩
 have h:=hK16
 refine Jn 1 R<|Ob h λp32 h hK30=>Ju1 [(23,2),(24,1),(25,2),(26,1),(27,2)] [(28,2)] (λL w'=>L=[(4,.bool false),(32,.bool p32)]/\∃κ',Stp [] K28 w27 κ' w') tv ?_ ?_
 revert h
 cases ht31:p26
 refine JF λh=>Jn 1 R<|Jd1 R R R R<|Jn 1 R<|Jd1 R R R R<|Jn 1 R ?_
 cases h
 exact Jv1 _ tv ⟨R,_,Jj3⟩<|KM R
 refine JT λh=>Jd3 R U35 R Z29<|Jb3 R I29 ((f4.stp (T3 S9 S15 S29) R R).ld 1 R R)<|Jn 1 R<|Ob h λx31 hx31 h=>Jh R R R C66 (dc (κ:=Mk K28) (Ji3<|g0_1.stp (T4 S3 S9 S15 S29) R R) hx31) ?_
 rintro _ w34 ⟨k35,rfl,e36⟩
 obtain⟨K37,S38,m39⟩:=Ji e36 3 R
 refine Tv<|Jn 1 R ?_
 cases h
 exact Jv1 _ tv ⟨R,_,S38.wk R⟩<|KM R
 rintro _ w41 _ ⟨rfl,K42,S43⟩
 have h:=hK30
 refine Jb 1 R<|Ju<|Ja2 (l:=[.tmp 4]) V60 (Jp2 R R) R ?_
 cases h
 exact⟨K42,R,(hE.stp (T5 S3 S9 S15 S29 S43) R R)⟩
end Go.Proofs.YtpcjbkgbnoocaaaGreat
