/- The walks, part 8. By program. -/
import Derived.Test.YtpcjbkgbnoocaaaGreatFns6DU
import Derived.Test.YtpcjbkgbnoocaaaGreatFns7DU
set_option linter.unusedVariables false
set_option linter.unusedSimpArgs false
open Go.IntKind renaming wrap → sh
open Sum renaming inr → yk, inl → yl
open Int renaming toNat → yn
namespace Go.Proofs.YtpcjbkgbnoocaaaGreat
open Go Go.Wk Go.Proofs
set_option maxRecDepth 100000
set_option maxHeartbeats 1000000
variable {w:World}{κ:Col}
theorem nj {a0 u0}{p0:(List Int)}(g0:Rd (Rp.int .u8) κ w 0 a0 u0 p0){r:Sig×Machine}(h:eN p0=some r):Ret Tryz.prog 44 [.slice a0 p0.length u0] w (λv w'=>∃(κ':Col) (ra0:Option Addr) (ru0:Nat) (ra1:Option Addr) (ru1:Nat),v= .tuple #[.agg #[vi r.1.In,vi r.1.Out],.agg #[.slice ra0 r.2.Next.length ru0,.slice ra1 r.2.Out.length ru1]]/\Ent κ w κ' w'/\Oc (Ep.own E6 2) 29 κ' w' 2 ra0 ru0 r.2.Next/\Rd (Rp.sl (Rp.int .i64)) κ' w' 0 ra1 ru1 r.2.Out):=by
 unfold eN at h
 refine Jk3 κ F44 R N44 R λhE=>Je [1,1] R<|Jg1 (κ:=κ) 2 R R R R R X25 R λb2 w1 K2 S3 f4=>Tv<|Jg1 (κ:=K2) 3 R R R R R X28 R λb3 w5 K6 S7 f8=>Tv<|Jd<|Jg3 [2,1,2] 1 R<|Ob h λx6 hx6 h=>Jh R R R C42 (py (κ:=λb=>mp [] 1<|K6 b) (Jl2 (g0.stp (S3.tr S7) R R) (mp [] 1) R R) hx6) ?_
 rintro _ w10 ⟨k11,af,ae,b6,rfl,e12,f13,f14⟩
 obtain⟨K15,S16,m17,z18⟩:=Jj e12 4 R
 refine Tv<|Jb 1 R<|Jg3 [2,1,2,2,1,1] 1 R<|Ob h λx8 hx8 h=>Jh R R R C107 (oL (κ:=λb=>mp [(7,2)] 1<|K15 b) (p0:=x6) (Jl2 (f13.mx z18) (mp [(7,2)] 1) R R) ((f14.mx m17 R (R:4+3=7)).map (mp [(7,2)] 1) R R) hx8) ?_
 rintro _ w21 ⟨k22,ad,aa,ac,ab,rfl,e23,f24,f25,f26⟩
 obtain⟨K27,S28,m29,z30⟩:=Jj e23 8 R
 refine Tv<|Jn 2 R<|Jj1 (κ:=K27) 2 (vc:=[vi x8.1.In,vi x8.1.Out]) R R R R R R R Z25 R R (f4.stp (T3 S7 S16 S28) R R) R λw35 S36 f37=>Tv<|Jj1 (κ:=K27) 3 (vc:=[.slice ad x8.2.1.Next.length aa,.slice ac x8.2.1.Out.length ab]) R R R R R R R Z28 R R (f8.stp (T3 S16 S28 S36) R R) R λw39 S40 f41=>Tv<|Jd<|Ju<|Ja2 (l:=[.cell 2 25,.cell 3 28]) V44 (bF R (f37.stp S40 R R) I25 Z25 R<|bF R f41 I28 Z28 R R) R ?_
 cases h
 exact⟨(λb=>ren [(11,2)]<|K27 b),ad,aa,ac,ab,R,((hE.stp (T6 S3 S7 S16 S28 S36 S40) R R).map (ren [(11,2)]) R R),(((f24.mx (cD (bD _) _) m29 R (R:8+3=11)).stp (S36.tr S40) R R).map (ren [(11,2)]) R R),(((f25.mx z30).stp (S36.tr S40) R R).map (ren [(11,2)]) R R)⟩
theorem jr {ab aa}{p0:l1Cur}{p1:Sig}{p2:Int}{b0}(g0_0:Rd (Rp.int .u8) κ w 0 ab aa p0.b) (gb0:Bc κ w 2 b0 142 [.slice ab p0.b.length aa,vi p0.i,vi p0.h]){r:(List Clause)×Int×Int}(h:fw p0 p1 p2=some r):Ret Tryz.prog 46 [.pointer (some ⟨b0,0,none⟩),.agg #[vi p1.In,vi p1.Out],vi p2] w (λv w'=>∃(κ':Col) (ra0:Option Addr) (ru0:Nat),v= .slice ra0 r.1.length ru0/\Ent κ w κ' w'/\Oc Clause.ep119 119 κ' w' 3 ra0 ru0 r.1/\Bc κ' w' 2 b0 142 [.slice ab p0.b.length aa,vi r.2.1,vi r.2.2]):=by
 unfold fw at h
 refine Jk3 κ F46 R N46 R λhE=>Je [1,2] R<|Jf1 (κ:=κ) 3 R R R R R R R λb4 w1 K2 S3 f4=>Tv<|Jb 1 R<|Je [1,2] R<|Jo1 (κ:=K2) (E:=Clause.ep119) 4 R R R R R Y49 iV R λa9 u9 w5 K6 S7 f8=>Tv<|Jb 1 R<|Jq<|Jg3 [2,2,2,1,2] 3 R<|Ob h λx13 hx13 h=>?_
 have f9:=g0_0.stp (S3.tr S7) R R
 refine Jh R R R C105 (bS (κ:=λb=>mp [(2,2)] 0<|K6 b) (p0:=p0) (Jl2 f9 (mp [(2,2)] 0) R R) ((gb0.stp (S3.tr S7) R R).map (mp [(2,2)] 0) R R) hx13) ?_
 rintro _ w11 ⟨k12,rfl,e13,f14⟩
 obtain⟨K15,S16,m17⟩:=Ji e13 5 R
 refine Tv<|Jb 1 R<|Ob h λq2 hq22 hK21=>?_
 clear h
 refine Jx1 (λL w'=>∃κ',∃s3:(List Clause)×Int×Int×Int,∃ai ad,L=[(0,.pointer (some ⟨b0,0,none⟩)),(4,.pointer (some ⟨b4,0,none⟩)),(7,.slice ai s3.1.length ad)]/\Stp [4,7,10,11,12,13] K15 w11 κ' w'/\Oc Clause.ep119 119 κ' w' 4 ai ad s3.1/\Bc κ' w' 7 b0 142 [.slice ab p0.b.length aa,vi s3.2.2.1,vi s3.2.2.2]/\q2=yk s3) ?_ ?_
 refine Jv<|Jy1 (λk L w'=>∃κ',∃s1:(List Clause)×Int×Int×Int,∃ac aj,L=[(0,.pointer (some ⟨b0,0,none⟩)),(4,.pointer (some ⟨b4,0,none⟩)),(7,.slice ac s1.1.length aj),(8,vi s1.2.1)]/\Stp [4,7,10,11,12,13] K15 w11 κ' w'/\Oc Clause.ep119 119 κ' w' 4 ac aj s1.1/\Bc κ' w' 7 b0 142 [.slice ab p0.b.length aa,vi s1.2.2.1,vi s1.2.2.2]/\bI (eJ p0 p1) k s1=some q2) ⟨_,_,⟨K15,((([]:List Clause):(List Clause)),x13.1,x13.2.1,x13.2.2),a9,u9,R,Jj3,(f8.stp S16 R R),(f14.mx m17 R (R:5+2=7)),hq22⟩,(KM R)⟩ ?_
 rintro k _ w28 ⟨K29,s1,ac,aj,rfl,S30,f31,f32,h⟩
 rcases k with _ | k
 cases h
 obtain⟨o20,h,hk34⟩:=BI h;unfold eJ at h
 refine Jq<|Je3 R ?_
 revert h
 cases ht35:decide (0<s1.2.1)
 refine JF λh=>Jy R<|Jc1<|Jt<|Jt ?_
 cases h
 have h:=hk34
 refine Jb1 ?_
 cases h
 exact Jw1 _ ⟨K29,(s1.1,s1.2.1,s1.2.2.1,s1.2.2.2),ac,aj,R,S30.wk R,f31,f32,R⟩<|KM R
 refine JT λh=>Jx R<|Js<|Jp<|Jq<|Jv<|Jh3 [2,2,1,1,1,1,2] 2 R<|Jl tv R R R R (Jd2 (cs:=[vi p1.In,vi p1.Out]) I25 Z25 R R R<|haE (f4.stp (T3 S7 S16 S30) R R).cells)<|Ob h λx21 hx21 h=>Jh R R R C108 (oe (κ:=λb=>mp [(7,2)] 0<|K29 b) (p1:=p1) (p0:=(⟨p0.b,s1.2.2.1,s1.2.2.2⟩:l1Cur)) (Jl2 (f9.stp (S16.tr S30) R R) (mp [(7,2)] 0) R R) (f32.map (mp [(7,2)] 0) R R) hx21) ?_
 rintro _ w38 ⟨k39,af,aq,ao,ae,rfl,e40,f41,f42,f43⟩
 obtain⟨K44,S45,m46⟩:=Ji e40 8 R
 refine Tv<|Jn1 (κ:=K44) (E:=Clause.ep119) 13 [11,12] (parts:=[(0,.tmp 21)]) (cells:=[vi x21.1.Kind,.slice af x21.1.A.length aq,.slice ao x21.1.B.length ae]) (xs:=([x21.1]:List Clause)) R R R R R R Y49 iV R R R R R R R R R R ⟨[vi x21.1.Kind,.slice af x21.1.A.length aq,.slice ao x21.1.B.length ae],[],Zl K44 w38 [11,12],Zl K44 w38 [],R,Zl.sp (l1:=[11,12]) (l2:=[]) R,Zl.sr (l1:=[11,12]) (l2:=[]),⟨[vi x21.1.Kind],[.slice af x21.1.A.length aq,.slice ao x21.1.B.length ae],Zl K44 w38 [],Zl K44 w38 [11,12],R,Zl.sp (l1:=[]) (l2:=[11,12]) R,Zl.sr (l1:=[]) (l2:=[11,12]),R,⟨[.slice af x21.1.A.length aq],[.slice ao x21.1.B.length ae],Zl K44 w38 [11],Zl K44 w38 [12],R,Zl.sp (l1:=[11]) (l2:=[12]) R,Zl.sr (l1:=[11]) (l2:=[12]),⟨_,_,R,(f41.mx (bD _) m46 R (R:8+3=11))⟩,⟨_,_,R,(f42.mx (bD _) m46 R (R:8+4=12))⟩⟩⟩,R⟩ λax aA w51 K52 S53 f54=>Tv<|Ob h λx23 hx23 h=>Jm1 (κ:=K52) (E:=Clause.ep119) 4 [13] R R R R R R R R R Y49 iV R R R R (f31.stp (S45.tr S53) R R) f54.src (dz R) hx23 R λar av w56 K57 S58 f59=>Tv<|Jc 1 R<|Jz<|Jp<|Jf3 R ?_
 cases h
 exact Jz1 λa ha=>⟨k,_,Ja3 _,⟨(λb=>ren [(10,7)]<|K57 b),(x23,((IntKind.i64.wrap<|s1.2.1-1):Int),x21.2.1,x21.2.2),ar,av,R,(Jy2 ((T4 S30 S45 S53 S58).wk R) [(10,7)] R),(f59.map (ren [(10,7)]) R R),(((f43.mx m46 R (R:8+2=10)).stp (S53.tr S58) R R).map (ren [(10,7)]) R R),hk34⟩,(ha.mm R)⟩
 rintro _ w23 ⟨K24,s3,ai,ad,rfl,S25,f26,f27,rfl⟩
 have h:=yI hK21
 refine Jp<|Jq<|Jg3 [2,1] 1 R<|Ob h λx25 hx25 h=>?_
 have f61:=f9.stp (S16.tr S25) R R
 refine Jh R R R C45 (c9 (κ:=λb=>mp [(7,2)] 0<|K24 b) (p0:=(⟨p0.b,s3.2.2.1,s3.2.2.2⟩:l1Cur)) (Jl2 f61 (mp [(7,2)] 0) R R) (f27.map (mp [(7,2)] 0) R R) hx25) ?_
 rintro _ w62 ⟨k63,rfl,e64,f65⟩
 obtain⟨K66,S67,m68⟩:=Ji e64 8 R
 refine Tv<|?_
 have f70:=f65.mx m68 R (R:8+2=10)
 refine Jd<|Ob h λq4 h hK71=>Jx1 (λL w'=>∃κ' ap am,L=[(0,.pointer (some ⟨b0,0,none⟩)),(7,.slice ap q4.1.length am)]/\Stp [4,10,13,14,15,16] K66 w62 κ' w'/\Oc Clause.ep119 119 κ' w' 4 ap am q4.1/\Bc κ' w' 10 b0 142 [.slice ab p0.b.length aa,vi q4.2.1,vi q4.2.2]) ?_ ?_
 revert h
 cases ht77:x25.1
 refine JF λh=>Jy R<|Js ?_
 cases h
 exact Jw1 _ ⟨K66,ai,ad,R,Jj3,(f26.stp S67 R R),f70⟩<|KM R
 refine JT λh=>Jx R<|Jh3 [2,2,1,1,1,1,2] 2 R<|Jl tv R R R R (Jd2 (cs:=[vi p1.In,vi p1.Out]) I25 Z25 R R R<|haE (f4.stp (T4 S7 S16 S25 S67) R R).cells)<|Ob h λx29 hx29 h=>Jh R R R C109 (o8 (κ:=λb=>mp [(10,2)] 0<|K66 b) (p1:=p1) (p0:=(⟨p0.b,x25.2.1,x25.2.2⟩:l1Cur)) (Jl2 (f61.stp S67 R R) (mp [(10,2)] 0) R R) (f70.map (mp [(10,2)] 0) R R) hx29) ?_
 rintro _ w80 ⟨k81,an,ak,al,ah,rfl,e82,f83,f84,f85⟩
 obtain⟨K86,S87,m88⟩:=Ji e82 11 R
 refine Tv<|Jn1 (κ:=K86) (E:=Clause.ep119) 16 [14,15] (parts:=[(0,.tmp 29)]) (cells:=[vi x29.1.Kind,.slice an x29.1.A.length ak,.slice al x29.1.B.length ah]) (xs:=([x29.1]:List Clause)) R R R R R R Y49 iV R R R R R R R R R R ⟨[vi x29.1.Kind,.slice an x29.1.A.length ak,.slice al x29.1.B.length ah],[],Zl K86 w80 [14,15],Zl K86 w80 [],R,Zl.sp (l1:=[14,15]) (l2:=[]) R,Zl.sr (l1:=[14,15]) (l2:=[]),⟨[vi x29.1.Kind],[.slice an x29.1.A.length ak,.slice al x29.1.B.length ah],Zl K86 w80 [],Zl K86 w80 [14,15],R,Zl.sp (l1:=[]) (l2:=[14,15]) R,Zl.sr (l1:=[]) (l2:=[14,15]),R,⟨[.slice an x29.1.A.length ak],[.slice al x29.1.B.length ah],Zl K86 w80 [14],Zl K86 w80 [15],R,Zl.sp (l1:=[14]) (l2:=[15]) R,Zl.sr (l1:=[14]) (l2:=[15]),⟨_,_,R,(f83.mx (bD _) m88 R (R:11+3=14))⟩,⟨_,_,R,(f84.mx (bD _) m88 R (R:11+4=15))⟩⟩⟩,R⟩ λaz ay w93 K94 S95 f96=>Tv<|Ob h λx31 hx31 h=>Jm1 (κ:=K94) (E:=Clause.ep119) 4 [16] R R R R R R R R R Y49 iV R R R R (f26.stp (T3 S67 S87 S95) R R) f96.src (dz R) hx31 R λaw au w98 K99 S100 f101=>Tv<|Jc 1 R ?_
 cases h
 exact Jw1 _ ⟨(λb=>ren [(13,10)]<|K99 b),aw,au,R,(Jy2 ((T3 S87 S95 S100).wk R) [(13,10)] R),(f101.map (ren [(13,10)]) R R),(((f85.mx m88 R (R:11+2=13)).stp (S95.tr S100) R R).map (ren [(13,10)]) R R)⟩<|KM R
 rintro _ w72 ⟨K73,ap,am,rfl,S74,f75,f76⟩
 have h:=hK71
 refine Jp<|Je3 R<|Ju<|Ja2 (l:=[.tmp 6]) V46 (Jp2 R R) R ?_
 cases h
 exact⟨(λb=>ren [(4,3),(10,2)]<|K73 b),ap,am,R,((hE.stp (T6 S3 S7 S16 S25 S67 S74) R R).map (ren [(4,3),(10,2)]) R R),(f75.map (ren [(4,3),(10,2)]) R R),(f76.map (ren [(4,3),(10,2)]) R R)⟩
theorem jW {p0:Sig}{ad af ai aa}{p1:Det}{ac ae ab ah}{p2:Det}(g1_0:Rd (Rp.sl (Rp.int .i64)) κ w 0 ad af p1.Next) (g1_1:Rd Pair.rp κ w 0 ai aa p1.Pairs) (g2_0:Rd (Rp.sl (Rp.int .i64)) κ w 0 ac ae p2.Next) (g2_1:Rd Pair.rp κ w 0 ab ah p2.Pairs){r:Det×Bool}(h:jb p0 p1 p2=some r):Ret Tryz.prog 115 [.agg #[vi p0.In,vi p0.Out],.agg #[.slice ad p1.Next.length af,.slice ai p1.Pairs.length aa],.agg #[.slice ac p2.Next.length ae,.slice ab p2.Pairs.length ah]] w (λv w'=>∃(κ':Col) (ra0:Option Addr) (ru0:Nat) (ra1:Option Addr) (ru1:Nat),v= .tuple #[.agg #[.slice ra0 r.1.Next.length ru0,.slice ra1 r.1.Pairs.length ru1],.bool r.2]/\Ent κ w κ' w'/\Oc (Ep.own E6 2) 29 κ' w' 2 ra0 ru0 r.1.Next/\Oc Pair.ep154 154 κ' w' 3 ra1 ru1 r.1.Pairs):=by
 unfold jb at h
 refine Jk3 κ F115 R N115 R λhE=>Je [1,1,1,1,2] R<|Jf1 (κ:=κ) 2 R R R R R R R λb3 w1 K2 S3 f4=>Tv<|Jf1 (κ:=K2) 3 R R R R R R R λb4 w5 K6 S7 f8=>Tv<|Jf1 (κ:=K6) 4 R R R R R R R λb5 w9 K10 S11 f12=>Tv<|Jg1 (κ:=K10) 5 R R R R R X100 R λb6 w13 K14 S15 f16=>Tv<|Jb 1 R<|Jq<|Je [1,1,1,2,2,1,1,1,2,2,2,2,1,2,2,1,2,2,2,2] R ?_
 have f17:=f4.stp (T3 S7 S11 S15) R R
 refine Jl tv R R R R (Jd2 (cs:=[vi p0.In,vi p0.Out]) I25 Z25 R R R<|haE f17.cells) ?_
 have f18:=f8.stp (S11.tr S15) R R
 refine Jl tv R R R R (Jd2 (cs:=[.slice ad p1.Next.length af,.slice ai p1.Pairs.length aa]) I100 Z100 R R R<|haE f18.cells)<|Ob h λx10 hx10 h=>?_
 have f19:=g1_0.stp (T4 S3 S7 S11 S15) R R
 have f20:=g1_1.stp (T4 S3 S7 S11 S15) R R
 refine Jh R R R C117 (j7 (κ:=Mk K14) (p0:=p0) (p1:=p1) (Ji3 f19) (Ji3 f20) hx10) ?_
 rintro _ w21 ⟨k22,rfl,e23⟩
 obtain⟨K24,S25,m26⟩:=Ji e23 6 R
 refine Tv<|Jn 2 R<|Ob h λp17 h hK28=>Ju1 [(5,1),(6,1),(7,1),(8,2),(9,2)] [(10,2),(11,2),(12,1),(13,2),(14,2),(15,1),(16,2),(17,2),(18,2),(19,2)] (λL w'=>L=[(3,.pointer (some ⟨b3,0,none⟩)),(4,.pointer (some ⟨b4,0,none⟩)),(5,.pointer (some ⟨b5,0,none⟩)),(6,.pointer (some ⟨b6,0,none⟩)),(17,.bool p17)]/\∃κ',Stp [] K24 w21 κ' w') tv ?_ ?_
 revert h
 cases ht29:(!x10)
 have S001:=(T5 S3 S7 S11 S15 S25)
 refine JF λh=>Jl tv R R R R (Jd2 (cs:=[vi p0.In,vi p0.Out]) I25 Z25 R R R<|haE (f17.stp S25 R R).cells)<|Jl tv R R R R (Jd2 (cs:=[.slice ac p2.Next.length ae,.slice ab p2.Pairs.length ah]) I100 Z100 R R R<|haE (f12.stp (S15.tr S25) R R).cells)<|Ob h λx15 hx15 h=>Jh R R R C117 (j7 (κ:=Mk K24) (p0:=p0) (p1:=p2) (Ji3<|g2_0.stp S001 R R) (Ji3<|g2_1.stp S001 R R) hx15) ?_
 rintro _ w34 ⟨k35,rfl,e36⟩
 obtain⟨K37,S38,m39⟩:=Ji e36 8 R
 refine Tv<|Jn 2 R ?_
 cases h
 exact Jv1 _ tv ⟨R,_,S38.wk R⟩<|KM R
 refine JT λh=>Jd1 R R R R<|Jd1 R R R R<|Jd1 R R R R<|Jn 2 R ?_
 cases h
 exact Jv1 _ tv ⟨R,_,Jj3⟩<|KM R
 rintro _ w41 _ ⟨rfl,K42,S43⟩
 have h:=hK28
 refine Jn 1 R<|Ob h λp27 h hK44=>Ju1 [(11,2),(12,1),(13,2),(14,2),(15,1),(16,2),(17,2),(18,2),(19,2)] [] (λL w'=>L=[(3,.pointer (some ⟨b3,0,none⟩)),(4,.pointer (some ⟨b4,0,none⟩)),(5,.pointer (some ⟨b5,0,none⟩)),(6,.pointer (some ⟨b6,0,none⟩)),(27,.bool p27)]/\∃κ',Stp [] K42 w41 κ' w') tv ?_ ?_
 revert h
 cases ht45:p17
 refine JF λh=>Jd3 R U100 R Z98<|Jb3 R I98 ((f18.stp (S25.tr S43) R R).ld 1 R R)<|Jn3 R U98 R R<|Jd3 R U100 R Z98<|Jb3 R I98 ((f12.stp (T3 S15 S25 S43) R R).ld 1 R R)<|Jn3 R U98 R R<|Jn 3 R ?_
 cases h
 exact Jv1 _ tv ⟨R,_,Jj3⟩<|KM R
 refine JT λh=>Jn 1 R<|Jd1 R R R R<|Jn 2 R<|Jd1 R R R R<|Jn 4 R ?_
 cases h
 exact Jv1 _ tv ⟨R,_,Jj3⟩<|KM R
 rintro _ w48 _ ⟨rfl,K49,S50⟩
 have h:=hK44
 refine Jd ?_
 revert h
 cases ht51:p27
 refine JF λh=>Jy R<|Js<|Jp<|Jq<|Js1 (κ:=K49) [2,3,4] none [(0,0),(1,0),(2,0),(3,1),(4,1),(5,2),(6,2),(7,1),(8,2)] [] (by kernel_rfl) (by kernel_rfl) λw58 S57=>Jg R (Jd2 (cs:=[.slice ad p1.Next.length af,.slice ai p1.Pairs.length aa]) I100 Z100 R R R<|haC (f18.stp (T4 S25 S43 S50 S57) R R).cells R)<|Jg R (Jd2 (cs:=[.slice ac p2.Next.length ae,.slice ab p2.Pairs.length ah]) I100 Z100 R R R<|haC (f12.stp (T5 S15 S25 S43 S50 S57) R R).cells R)<|Jg R (Jd2 (cs:=[vi p0.In,vi p0.Out]) I25 Z25 R R R<|haC (f17.stp (T4 S25 S43 S50 S57) R R).cells R)<|Ob h λx32 hx32 h=>Jh R R R C58 (dr (κ:=Mk K49) (p0:=p0) hx32) ?_
 rintro _ w62 ⟨k63,rfl,e64⟩
 obtain⟨K65,S66,m67⟩:=Ji e64 8 R
 have S002:=(T9 S3 S7 S11 S15 S25 S43 S50 S57 S66)
 have S003:=(T5 S25 S43 S50 S57 S66)
 refine⟨(S66.cl R),Ob h λx33 hx33 h=>Jh R R R C164 (qf (κ:=Mk K65) (p0:=p1) (p1:=p2) (Ji3<|f19.stp S003 R R) (Ji3<|f20.stp S003 R R) (Ji3<|g2_0.stp S002 R R) (Ji3<|g2_1.stp S002 R R) hx33) ?_⟩
 rintro _ w73 ⟨k74,aj,am,al,ak,rfl,e75,f76,f77⟩
 obtain⟨K78,S79,m80⟩:=Ji e75 10 R
 refine⟨((S66.tr S79).cl R),Jn 2 R<|Jj1 (κ:=K78) 5 (vc:=[.slice aj x33.1.Next.length am,.slice al x33.1.Pairs.length ak]) R R R R R R R Z100 R R (f16.stp (T6 S25 S43 S50 S57 S66 S79) R R) R λw85 S86 f87=>⟨((T3 S66 S79 S86).cl R),Jn 1 R<|Jt1<|Jd<|Ju<|Ja2 (l:=[.cell 6 100,.tmp 7]) V115 (bF R f87 I100 Z100 R<|Jp2 R R) R ?_⟩⟩
 cases h
 exact⟨(λb=>ren [(12,2),(13,3)]<|K78 b),aj,am,al,ak,R,((hE.stp (T11 S3 S7 S11 S15 S25 S43 S50 S57 S66 S79 S86) R R).map (ren [(12,2),(13,3)]) R R),(((f76.mx (cD (bD _) _) m80 R (R:10+2=12)).stp S86 R R).map (ren [(12,2),(13,3)]) R R),(((f77.mx Pair.no154 m80 R (R:10+3=13)).stp S86 R R).map (ren [(12,2),(13,3)]) R R)⟩
 refine JT λh=>Jx R<|Je [2,1,2] R<|Jf R (bG (parts:=[]) (cells:=[.slice none 0 0,.slice none 0 0]) R R (by kernel_rfl))<|Jj1 (κ:=K49) 5 (vc:=[.slice none 0 0,.slice none 0 0]) R R R R R R R Z100 R R (f16.stp (T3 S25 S43 S50) R R) R λw53 S54 f55=>Tv<|Jb 1 R<|Ju<|Jw<|Ja2 (l:=[.cell 6 100,.tmp 7]) V115 (bF R f55 I100 Z100 R<|Jp2 R R) R ?_
 cases h
 exact⟨K49,none,0,none,0,R,(hE.stp (T8 S3 S7 S11 S15 S25 S43 S50 S54) R R),Ow.nil,Ow.nil⟩
theorem mF {p0:Sig}{a1 u1}{p1:(List Clause)}(g1:Rd Clause.rp κ w 0 a1 u1 p1){r:Det×Bool}(h:dF p0 p1=some r):Ret Tryz.prog 68 [.agg #[vi p0.In,vi p0.Out],.slice a1 p1.length u1] w (λv w'=>∃(κ':Col) (ra0:Option Addr) (ru0:Nat) (ra1:Option Addr) (ru1:Nat),v= .tuple #[.agg #[.slice ra0 r.1.Next.length ru0,.slice ra1 r.1.Pairs.length ru1],.bool r.2]/\Ent κ w κ' w'/\Oc (Ep.own E6 2) 29 κ' w' 2 ra0 ru0 r.1.Next/\Oc Pair.ep154 154 κ' w' 3 ra1 ru1 r.1.Pairs):=by
 unfold dF at h
 refine Jk3 κ F68 R N68 R λhE=>Je [1,1,2] R<|Jf1 (κ:=κ) 2 R R R R R R R λb2 w1 K2 S3 f4=>Tv<|Jg1 (κ:=K2) 3 R R R R R X100 R λb4 w5 K6 S7 f8=>Tv<|Jb 1 R<|Jq<|Je [1,2,1,2] R ?_
 have f9:=f4.stp S7 R R
 refine Jl tv R R R R (Jd2 (cs:=[vi p0.In,vi p0.Out]) I25 Z25 R R R<|haE f9.cells)<|Jn 1 R<|Ob h λx12 hx12 h=>?_
 have f10:=g1.stp (S3.tr S7) R R
 refine Jh R R R C114 (qo (κ:=Mk K6) (p0:=p0) (Ji3 f10) hx12) ?_
 rintro _ w11 ⟨k12,rfl,e13⟩
 obtain⟨K14,S15,m16⟩:=Ji e13 4 R
 refine Tv<|Jb 1 R ?_
 revert h
 cases ht18:(!x12)
 refine JF λh=>Jy R<|Js<|Jp<|Je [1,1,1,1,2,1,1] R ?_
 have f24:=f9.stp S15 R R
 refine Jl tv R R R R (Jd2 (cs:=[vi p0.In,vi p0.Out]) I25 Z25 R R R<|haE f24.cells)<|Ob h λx16 hx16 h=>Jh R R R C58 (dr (κ:=Mk K14) (p0:=p0) hx16) ?_
 rintro _ w25 ⟨k26,rfl,e27⟩
 obtain⟨K28,S29,m30⟩:=Ji e27 6 R
 refine Tv<|Ob h λx17 hx17 h=>Jl1 (κ:=K28) (E:=E6) (z:=(0:Int)) 8 R R R R R R R Y29 a8 R R R R R (λ_ _ _=>R) (Ju2 hx17) λav aw w32 K33 S34 f35=>Tv<|Jn1 (κ:=K33) (E:=(Ep.own E6 2)) 9 [8] (parts:=[(0,.tmp 17)]) (cells:=[.slice av x17.length aw]) (xs:=([x17]:List (List Int))) R R R R R R Y26 bK R R R R R R R R R R ⟨[.slice av x17.length aw],[],Zl K33 w32 [8],Zl K33 w32 [],R,Zl.sp (l1:=[8]) (l2:=[]) R,Zl.sr (l1:=[8]) (l2:=[]),⟨_,_,R,f35⟩,R⟩ λar au w36 K37 S38 f39=>Tv<|Jf R (bG (parts:=[(0,.tmp 18)]) (cells:=[.slice ar ([x17]:List (List Int)).length au,.slice none 0 0]) R R (by kernel_rfl))<|Jg1 (κ:=K37) 10 R R R R R X100 R λb6 w40 K41 S42 f43=>Tv<|Jj1 (κ:=K41) 10 (vc:=[.slice ar ([x17]:List (List Int)).length au,.slice none 0 0]) R R R R R R R Z100 R R f43 R λw44 S45 f46=>Tv<|Jd<|Jq<|Je3 R ?_
 have hN47:(p1.length:Int)<=9223372036854775807:=f10.len_le
 refine Ob h λq2 hq49 hK48=>?_
 clear h
 refine Jx1 (λL w'=>∃κ',∃s3:(List<|List Int)×(List Pair),∃aj af ak ah,L=[(4,.pointer (some ⟨b4,0,none⟩)),(6,.pointer (some ⟨b6,0,none⟩))]/\Stp [10,12,13,16,18,19,20] K41 w44 κ' w'/\Oc (Ep.own E6 2) 29 κ' w' 9 aj af s3.1/\Oc Pair.ep154 154 κ' w' 11 ak ah s3.2/\Bc κ' w' 10 b6 100 [.slice aj s3.1.length af,.slice ak s3.2.length ah]/\q2=yk s3) ?_ ?_
 refine Jv<|Jy1 (λk L w'=>∃κ' v7,∃s1:(List<|List Int)×(List Pair),∃an ap aq ao,L=[(1,.slice a1 p1.length u1),(2,.pointer (some ⟨b2,0,none⟩)),(4,.pointer (some ⟨b4,0,none⟩)),(6,.pointer (some ⟨b6,0,none⟩)),(7,vi v7)]/\Stp [10,12,13,16,18,19,20] K41 w44 κ' w'/\Oc (Ep.own E6 2) 29 κ' w' 9 an ap s1.1/\Oc Pair.ep154 154 κ' w' 11 aq ao s1.2/\Bc κ' w' 10 b6 100 [.slice an s1.1.length ap,.slice aq s1.2.length ao]/\0<=v7/\yn ((p1.length:Int)-v7)=k/\cntM (dY p0 p1) k v7 s1=some q2) ⟨_,_,⟨K41,0,((([x17]:List (List Int)):(List<|List Int)),(([]:List Pair):(List Pair))),ar,au,none,0,R,Jj3,(f39.stp (S42.tr S45) R R),Ow.nil,f46,(by decide),(by simp),hq49⟩,(KM R)⟩ ?_
 rintro k _ w56 ⟨K57,v7,s1,an,ap,aq,ao,rfl,S58,f59,f60,f61,hj47,hJ47,h⟩
 rcases k with _ | k
 have hk63:=h;obtain⟨o47,h⟩:=ca (yk (yl s1):(Det×Bool)⊕(((List (List Int))×(List Pair))⊕((List (List Int))×(List Pair))))
 have hc47:decide (v7<(p1.length:Int))=false:=Jo2 (by omega)
 refine Jq<|Jg3 [2,2,2,2] 2 R<|Jn3 R U49 R R<|Jb 1 R<|Jw2 R hc47<|Jc1<|Jt<|Jt ?_
 cases h
 have h:=hk63
 refine Jb1 ?_
 cases h
 exact Jw1 _ ⟨K57,(s1.1,s1.2),an,ap,aq,ao,R,S58.wk R,f59,f60,f61,R⟩<|KM R
 obtain⟨o47,h,hk63⟩:=BI h;unfold dY at h
 have hc47:decide (v7<(p1.length:Int))=true:=Jn2 (by omega)
 refine Jq<|Jg3 [2,2,2,2] 2 R<|Jn3 R U49 R R<|Jb 1 R<|Jv2 R hc47<|Js<|Jp<|Jq<|Jv<|Jq<|Ob h λx32 hx32 h=>Ob h λx34 hx34 h=>Ob h λx35 hx35 h=>Jx1 (λL w'=>∃κ' b8 ai ae am al,L=[(1,.slice a1 p1.length u1),(2,.pointer (some ⟨b2,0,none⟩)),(4,.pointer (some ⟨b4,0,none⟩)),(6,.pointer (some ⟨b6,0,none⟩)),(7,vi v7),(8,.pointer (some ⟨b8,0,none⟩)),(9,.bool x35.2)]/\Stp [12,16,18,19,20] K57 w56 κ' w'/\Oc (Ep.own E6 2) 29 κ' w' 12 ai ae x35.1.Next/\Oc Pair.ep154 154 κ' w' 13 am al x35.1.Pairs/\Bc κ' w' 14 b8 100 [.slice ai x35.1.Next.length ae,.slice am x35.1.Pairs.length al]) ?_ ?_
 refine WC.rxt (κ:=K57) [0,2,10] none (by kernel_rfl) λw71 S72=>Jq1 (fuel:=8) [(3,2),(4,2),(5,2),(0,0),(1,0),(2,0),(6,0)] (by kernel_rfl) (by kernel_rfl) R<|Jn 2 R<|Jc3 R f10 hx32 U49 Z119 ?_
 have f73:=f24.stp (T7 S29 S34 S38 S42 S45 S58 S72) R R
 refine Jg R (Jd2 (cs:=[vi p0.In,vi p0.Out]) I25 Z25 R R R<|haC f73.cells R)<|Jg R (Jd2 (cs:=[.slice an s1.1.length ap,.slice aq s1.2.length ao]) I100 Z100 R R R<|haC (f61.stp S72 R R).cells R)<|Jg R (Jd2 (cs:=[vi p0.In,vi p0.Out]) I25 Z25 R R R<|haC f73.cells R) ?_
 obtain⟨cse76,hre76,hle76⟩:=((f10.stp (T8 S15 S29 S34 S38 S42 S45 S58 S72) R R)).gSt hx32
 obtain⟨ae76_0,ue76_0,ae76_1,ue76_1,rfl,fe76_0,fe76_1⟩:=Clause.un hre76
 refine Jg R (Jd2 (cs:=[vi x32.Kind,.slice ae76_0 x32.A.length ue76_0,.slice ae76_1 x32.B.length ue76_1]) I119 Z119 R R R<|haC hle76 R)<|Jp1<|WA.fork2 (fuel:=7) 7 12 (by kernel_rfl) R ?_ ?_
 refine Jh R R R C116 (mC (κ:=Mk K57) (p0:=p0) (p1:=x32) (Ji3 fe76_0) (Ji3 fe76_1) hx34) ?_
 rintro _ w77 ⟨k78,ay,ax,az,aA,rfl,e79,f80,f81⟩
 obtain⟨K82,S83,m84⟩:=Ji e79 12 R
 refine⟨(S83.cl R),?_⟩
 have f86:=f80.mx (cD (bD _) _) m84 R (R:12+2=14)
 have f87:=f81.mx Pair.no154 m84 R (R:12+3=15)
 refine Jp1<|WA.fork2 (fuel:=6) 8 12 (by kernel_rfl) R ?_ ?_
 refine Jh R R R C115 (jW (κ:=Mk K82) (p0:=p0) (p1:=(⟨s1.1,s1.2⟩:Det)) (p2:=x34) (Ji3 (f59.stp (S72.tr S83) R R).rdc) (Ji3 (f60.stp (S72.tr S83) R R).rdc) (Ji3 f86.rdc) (Ji3 f87.rdc) hx35) ?_
 rintro _ w90 ⟨k91,aa,ad,ac,ab,rfl,e92,f93,f94⟩
 obtain⟨K95,S96,m97⟩:=Ji e92 16 R
 exact⟨((S83.tr S96).cl R),Jp1<|Jq1 (fuel:=0) [(9,2),(10,2),(11,2),(12,1),(13,1),(14,2)] (by kernel_rfl) (by kernel_rfl) R<|Jn 3 R<|Jg1 (κ:=K95) 20 R R R R R X100 R λb8 w101 K102 S103 f104=>⟨((T3 S83 S96 S103).cl R),Jj1 (κ:=K102) 20 (vc:=[.slice aa x35.1.Next.length ad,.slice ac x35.1.Pairs.length ab]) R R R R R R R Z100 R R f104 R λw105 S106 f107=>⟨((T4 S83 S96 S103 S106).cl R),Jn 1 R<|Jp1<|Jr1 [] (by kernel_rfl) (by kernel_rfl) R<|Jo<|Jw1 _ ⟨(λb=>ren [(18,12),(19,13),(20,14)]<|K102 b),b8,aa,ad,ac,ab,R,(Jy2 ((T5 S72 S83 S96 S103 S106).wk R) [(18,12),(19,13),(20,14)] R),(((f93.mx (cD (bD _) _) m97 R (R:16+2=18)).stp (S103.tr S106) R R).map (ren [(18,12),(19,13),(20,14)]) R R),(((f94.mx Pair.no154 m97 R (R:16+3=19)).stp (S103.tr S106) R R).map (ren [(18,12),(19,13),(20,14)]) R R),(f107.map (ren [(18,12),(19,13),(20,14)]) R R)⟩<|KM R⟩⟩⟩
 refine Jg1 (κ:=K82) 16 R R R R R X100 R λb8 w110 K111 S112 f113=>⟨((S83.tr S112).cl R),Jp1<|Jq1 (fuel:=0) [(8,1),(9,2),(10,2),(11,2),(13,1),(14,2)] (by kernel_rfl) (by kernel_rfl) R<|Jh R R R C115 (jW (κ:=Mk K111) (p0:=p0) (p1:=(⟨s1.1,s1.2⟩:Det)) (p2:=x34) (Ji3 (f59.stp (T3 S72 S83 S112) R R).rdc) (Ji3 (f60.stp (T3 S72 S83 S112) R R).rdc) (Ji3 (f86.stp S112 R R).rdc) (Ji3 (f87.stp S112 R R).rdc) hx35) ?_⟩
 rintro _ w118 ⟨k119,aa,ad,ac,ab,rfl,e120,f121,f122⟩
 obtain⟨K123,S124,m125⟩:=Ji e120 17 R
 exact⟨((T3 S83 S112 S124).cl R),Jn 3 R<|Jj1 (κ:=K123) 16 (vc:=[.slice aa x35.1.Next.length ad,.slice ac x35.1.Pairs.length ab]) R R R R R R R Z100 R R (f113.stp S124 R R) R λw130 S131 f132=>⟨((T4 S83 S112 S124 S131).cl R),Jn 1 R<|Jp1<|Jr1 [] (by kernel_rfl) (by kernel_rfl) R<|Jo<|Jw1 _ ⟨(λb=>ren [(19,12),(20,13),(16,14)]<|K123 b),b8,aa,ad,ac,ab,R,(Jy2 ((T5 S72 S83 S112 S124 S131).wk R) [(19,12),(20,13),(16,14)] R),(((f121.mx (cD (bD _) _) m125 R (R:17+2=19)).stp S131 R R).map (ren [(19,12),(20,13),(16,14)]) R R),(((f122.mx Pair.no154 m125 R (R:17+3=20)).stp S131 R R).map (ren [(19,12),(20,13),(16,14)]) R R),(f132.map (ren [(19,12),(20,13),(16,14)]) R R)⟩<|KM R⟩⟩
 refine Jg1 (κ:=K57) 12 R R R R R X100 R λb8 w135 K136 S137 f138=>⟨(S137.cl R),Jp1<|Jq1 (fuel:=0) [(7,1),(8,1),(9,2),(10,2),(11,2),(13,1),(14,2)] (by kernel_rfl) (by kernel_rfl) R<|Jh R R R C116 (mC (κ:=Mk K136) (p0:=p0) (p1:=x32) (Ji3<|fe76_0.stp S137 R R) (Ji3<|fe76_1.stp S137 R R) hx34) ?_⟩
 rintro _ w141 ⟨k142,ay,ax,az,aA,rfl,e143,f144,f145⟩
 obtain⟨K146,S147,m148⟩:=Ji e143 13 R
 refine⟨((S137.tr S147).cl R),Jh R R R C115 (jW (κ:=Mk K146) (p0:=p0) (p1:=(⟨s1.1,s1.2⟩:Det)) (p2:=x34) (Ji3 (f59.stp (T3 S72 S137 S147) R R).rdc) (Ji3 (f60.stp (T3 S72 S137 S147) R R).rdc) (Ji3 (f144.mx (cD (bD _) _) m148 R (R:13+2=15)).rdc) (Ji3 (f145.mx Pair.no154 m148 R (R:13+3=16)).rdc) hx35) ?_⟩
 rintro _ w154 ⟨k155,aa,ad,ac,ab,rfl,e156,f157,f158⟩
 obtain⟨K159,S160,m161⟩:=Ji e156 17 R
 have S001:=(T3 S137 S147 S160)
 exact⟨(S001.cl R),Jn 3 R<|Jj1 (κ:=K159) 12 (vc:=[.slice aa x35.1.Next.length ad,.slice ac x35.1.Pairs.length ab]) R R R R R R R Z100 R R (f138.stp (S147.tr S160) R R) R λw166 S167 f168=>⟨((S001.tr S167).cl R),Jn 1 R<|Jp1<|Jr1 [] (by kernel_rfl) (by kernel_rfl) R<|Jo<|Jw1 _ ⟨(λb=>ren [(19,12),(20,13),(12,14)]<|K159 b),b8,aa,ad,ac,ab,R,(Jy2 ((T5 S72 S137 S147 S160 S167).wk R) [(19,12),(20,13),(12,14)] R),(((f157.mx (cD (bD _) _) m161 R (R:17+2=19)).stp S167 R R).map (ren [(19,12),(20,13),(12,14)]) R R),(((f158.mx Pair.no154 m161 R (R:17+3=20)).stp S167 R R).map (ren [(19,12),(20,13),(12,14)]) R R),(f168.map (ren [(19,12),(20,13),(12,14)]) R R)⟩<|KM R⟩⟩
 rintro _ w64 ⟨K65,b8,ai,ae,am,al,rfl,S66,f68,f69,f70⟩
 refine Jp<|Jq<|Je3 R ?_
 revert h
 cases ht171:(!x35.2)
 refine JF λh=>Jy R<|Js<|Jp<|Ja [1,1] R<|Jl tv R R R R (Jd2 (cs:=[.slice ai x35.1.Next.length ae,.slice am x35.1.Pairs.length al]) I100 Z100 R R R<|haE f70.cells)<|Jj1 (κ:=K65) 10 (vc:=[.slice ai x35.1.Next.length ae,.slice am x35.1.Pairs.length al]) R R R R R R R Z100 R R (f61.stp S66 R R) R λw178 S179 f180=>Tv<|Jo<|Jz<|Jp<|Jf3 R ?_
 have hw47:sh .i64 (v7+1)=v7+1:=wr1 hj47 (Jm2 hc47) hN47
 rw[hw47]
 have hc47:=Jm2 hc47
 cases h
 exact Jz1 λa ha=>⟨k,_,Ja3 _,⟨(λb=>ren [(12,9),(13,11)]<|K65 b),v7+1,(x35.1.Next,x35.1.Pairs),ai,ae,am,al,R,(Jy2 ((T3 S58 S66 S179).wk R) [(12,9),(13,11)] R),((f68.stp S179 R R).map (ren [(12,9),(13,11)]) R R),((f69.stp S179 R R).map (ren [(12,9),(13,11)]) R R),(f180.map (ren [(12,9),(13,11)]) R R),by omega,by omega,hk63⟩,(ha.mm R)⟩
 refine JT λh=>Jx R<|Je [2,1,2] R<|Jf R (bG (parts:=[]) (cells:=[.slice none 0 0,.slice none 0 0]) R R (by kernel_rfl))<|Jj1 (κ:=K65) 3 (vc:=[.slice none 0 0,.slice none 0 0]) R R R R R R R Z100 R R (f8.stp (T8 S15 S29 S34 S38 S42 S45 S58 S66) R R) R λw173 S174 f175=>Tv<|Jb 1 R<|Ju<|Jw<|Ja1<|Jw<|Jw ?_
 cases h
 obtain rfl:=Option.some.inj hk63
 have h:=yL hK48
 refine Ja1<|Jq2<|Jw<|Ja2 (l:=[.cell 4 100,.tmp 5]) V68 (bF R f175 I100 Z100 R<|Jp2 R R) R ?_
 cases h
 exact⟨K65,none,0,none,0,R,(hE.stp (T11 S3 S7 S15 S29 S34 S38 S42 S45 S58 S66 S174) R R),Ow.nil,Ow.nil⟩
 rintro _ w50 ⟨K51,s3,aj,af,ak,ah,rfl,S52,f53,f54,f55,rfl⟩
 have h:=yI hK48
 refine Jp<|Je [1,1,2] R<|Jl tv R R R R (Jd2 (cs:=[.slice aj s3.1.length af,.slice ak s3.2.length ah]) I100 Z100 R R R<|haE f55.cells)<|Jj1 (κ:=K51) 3 (vc:=[.slice aj s3.1.length af,.slice ak s3.2.length ah]) R R R R R R R Z100 R R (f8.stp (T7 S15 S29 S34 S38 S42 S45 S52) R R) R λw184 S185 f186=>Tv<|Jb 1 R<|Ju<|Ja2 (l:=[.cell 4 100,.tmp 5]) V68 (bF R f186 I100 Z100 R<|Jp2 R R) R ?_
 cases h
 exact⟨(λb=>ren [(9,2),(11,3)]<|K51 b),aj,af,ak,ah,R,((hE.stp (T10 S3 S7 S15 S29 S34 S38 S42 S45 S52 S185) R R).map (ren [(9,2),(11,3)]) R R),((f53.stp S185 R R).map (ren [(9,2),(11,3)]) R R),((f54.stp S185 R R).map (ren [(9,2),(11,3)]) R R)⟩
 refine JT λh=>Jx R<|Je [2,1,2] R<|Jf R (bG (parts:=[]) (cells:=[.slice none 0 0,.slice none 0 0]) R R (by kernel_rfl))<|Jj1 (κ:=K14) 3 (vc:=[.slice none 0 0,.slice none 0 0]) R R R R R R R Z100 R R (f8.stp S15 R R) R λw20 S21 f22=>Tv<|Jb 1 R<|Ju<|Jw<|Ja2 (l:=[.cell 4 100,.tmp 5]) V68 (bF R f22 I100 Z100 R<|Jp2 R R) R ?_
 cases h
 exact⟨K14,none,0,none,0,R,(hE.stp (T4 S3 S7 S15 S21) R R),Ow.nil,Ow.nil⟩
theorem mw {p0:Sig}{ax aI aU aP}{p1:Det}(g1_0:Rd (Rp.sl (Rp.int .i64)) κ w 0 ax aI p1.Next) (g1_1:Rd Pair.rp κ w 0 aU aP p1.Pairs){r:Arena×(List Pair)×Bool}(h:dh p0 p1=some r):Ret Tryz.prog 69 [.agg #[vi p0.In,vi p0.Out],.agg #[.slice ax p1.Next.length aI,.slice aU p1.Pairs.length aP]] w (λv w'=>∃(κ':Col) (ra0:Option Addr) (ru0:Nat) (ra1:Option Addr) (ru1:Nat) (ra2:Option Addr) (ru2:Nat),v= .tuple #[.agg #[.slice ra0 r.1.Owner.length ru0,.slice ra1 r.1.Next.length ru1],.slice ra2 r.2.1.length ru2,.bool r.2.2]/\Ent κ w κ' w'/\Oc E6 2 κ' w' 2 ra0 ru0 r.1.Owner/\Oc (Ep.fz (Rp.sl (Rp.int .i64))) 29 κ' w' 3 ra1 ru1 r.1.Next/\Oc Pair.ep154 154 κ' w' 4 ra2 ru2 r.2.1):=by
 unfold dh at h
 refine Jk3 κ F69 R N69 R λhE=>Je [1,1,1,2,2] R<|Jf1 (κ:=κ) 2 R R R R R R R λb2 w1 K2 S3 f4=>Tv<|Jf1 (κ:=K2) 3 R R R R R R R λb3 w5 K6 S7 f8=>Tv<|Jg1 (κ:=K6) 4 R R R R R X104 R λb4 w9 K10 S11 f12=>Tv<|Jb 2 R<|Jq<|Je [1,1,1,2] R ?_
 have f13:=f4.stp (S7.tr S11) R R
 refine Jl tv R R R R (Jd2 (cs:=[vi p0.In,vi p0.Out]) I25 Z25 R R R<|haE f13.cells) ?_
 have f14:=f8.stp S11 R R
 refine Jl tv R R R R (Jd2 (cs:=[.slice ax p1.Next.length aI,.slice aU p1.Pairs.length aP]) I100 Z100 R R R<|haE f14.cells)<|Ob h λx19 hx19 h=>?_
 have f15:=g1_0.stp (T3 S3 S7 S11) R R
 have f16:=g1_1.stp (T3 S3 S7 S11) R R
 refine Jh R R R C117 (j7 (κ:=Mk K10) (p0:=p0) (p1:=p1) (Ji3 f15) (Ji3 f16) hx19) ?_
 rintro _ w17 ⟨k18,rfl,e19⟩
 obtain⟨K20,S21,m22⟩:=Ji e19 5 R
 refine Tv<|Jb 1 R ?_
 revert h
 cases ht24:(!x19)
 refine JF λh=>Jy R<|Js<|Jp<|Je [2,1,2,2] R<|Jd3 R U100 R Z26 ?_
 have f35:=f14.stp S21 R R
 refine Jb3 R I26 (f35.ld 0 R R)<|Jn3 R U26 R R<|Jb 1 R<|Je [1,1,2] R ?_
 have f36:=f13.stp S21 R R
 refine Jl tv R R R R (Jd2 (cs:=[vi p0.In,vi p0.Out]) I25 Z25 R R R<|haE f36.cells)<|Ob h λx27 hx27 h=>Jh R R R C72 (dZ (κ:=Mk K20) (p0:=p0) hx27) ?_
 rintro _ w37 ⟨k38,rfl,e39⟩
 obtain⟨K40,S41,m42⟩:=Ji e39 7 R
 refine Tv<|Jb 1 R<|Je [2,1,1] R<|Jf R (bG (parts:=[]) (cells:=[.slice none 0 0,.slice none 0 0]) R R (by kernel_rfl))<|Jg1 (κ:=K40) 9 R R R R R X104 R λb9 w44 K45 S46 f47=>Tv<|Jj1 (κ:=K45) 9 (vc:=[.slice none 0 0,.slice none 0 0]) R R R R R R R Z104 R R f47 R λw48 S49 f50=>Tv<|Jd<|Jq<|Je3 R ?_
 have hN51:(p1.Next.length:Int)<=9223372036854775807:=f15.len_le
 refine Ob h λq2 hq53 hK52=>?_
 clear h
 refine Jx1 (λL w'=>∃κ',∃s3:(List Int)×(List<|List Int),∃aA aq aE av,L=[(2,.pointer (some ⟨b2,0,none⟩)),(3,.pointer (some ⟨b3,0,none⟩)),(4,.pointer (some ⟨b4,0,none⟩)),(7,vi (p1.Next.length:Int)),(8,vi x27),(9,.pointer (some ⟨b9,0,none⟩))]/\Stp [9,10,11,12,14] K45 w48 κ' w'/\Oc E6 2 κ' w' 10 aA aq s3.1/\Oc (Ep.fz<|Rp.sl<|Rp.int .i64) 29 κ' w' 11 aE av s3.2/\Bc κ' w' 9 b9 104 [.slice aA s3.1.length aq,.slice aE s3.2.length av]/\q2=yk s3) ?_ ?_
 refine Jv<|Jy1 (λk L w'=>∃κ' v10,∃s1:(List Int)×(List<|List Int),∃ap aC an ah,L=[(2,.pointer (some ⟨b2,0,none⟩)),(3,.pointer (some ⟨b3,0,none⟩)),(4,.pointer (some ⟨b4,0,none⟩)),(7,vi (p1.Next.length:Int)),(8,vi x27),(9,.pointer (some ⟨b9,0,none⟩)),(10,vi v10)]/\Stp [9,10,11,12,14] K45 w48 κ' w'/\Oc E6 2 κ' w' 10 ap aC s1.1/\Oc (Ep.fz<|Rp.sl<|Rp.int .i64) 29 κ' w' 11 an ah s1.2/\Bc κ' w' 9 b9 104 [.slice ap s1.1.length aC,.slice an s1.2.length ah]/\0<=v10/\yn ((p1.Next.length:Int)-v10)=k/\cntM (dX p1 x27) k v10 s1=some q2) ⟨_,_,⟨K45,0,((([]:List Int):(List Int)),(([]:List (List Int)):(List<|List Int))),none,0,none,0,R,Jj3,Ow.nil,Ow.nil,f50,(by decide),(by simp),hq53⟩,(KM R)⟩ ?_
 rintro k _ w60 ⟨K61,v10,s1,ap,aC,an,ah,rfl,S62,f63,f64,f65,hj51,hJ51,h⟩
 rcases k with _ | k
 have hk66:=h;obtain⟨o51,h⟩:=ca (yk (yl s1):(Arena×(List Pair)×Bool)⊕(((List Int)×(List (List Int)))⊕((List Int)×(List (List Int)))))
 have hc51:decide (v10<(p1.Next.length:Int))=false:=Jo2 (by omega)
 refine Jq<|Je3 R<|Jw2 R hc51<|Jc1<|Jt<|Jt ?_
 cases h
 have h:=hk66
 refine Jb1 ?_
 cases h
 exact Jw1 _ ⟨K61,(s1.1,s1.2),ap,aC,an,ah,R,S62.wk R,f63,f64,f65,R⟩<|KM R
 obtain⟨o51,h,hk66⟩:=BI h;unfold dX at h
 have hc51:decide (v10<(p1.Next.length:Int))=true:=Jn2 (by omega)
 refine Jq<|Je3 R<|Jv2 R hc51<|Js<|Jp<|Jq<|Jv<|Je [1,2] R<|Jo1 (κ:=K61) (E:=E6) 12 R R R R R Y29 a8 R λbj bf w67 K68 S69 f70=>Tv<|Jb 1 R<|Jq<|Je3 R<|Ob h λ_ hr71 h=>?_
 have hN71:=mu hr71
 refine Ob h λq5 hq73 hK72=>?_
 clear h
 refine Jx1 (λL w'=>∃κ',∃s6:(List Int),∃ak ao,L=[(2,.pointer (some ⟨b2,0,none⟩)),(3,.pointer (some ⟨b3,0,none⟩)),(4,.pointer (some ⟨b4,0,none⟩)),(7,vi (p1.Next.length:Int)),(8,vi x27),(9,.pointer (some ⟨b9,0,none⟩)),(10,vi v10),(11,.slice ak s6.length ao)]/\Stp [12] K68 w67 κ' w'/\Oc E6 2 κ' w' 12 ak ao s6/\q5=yk s6) ?_ ?_
 refine Jv<|Jy1 (λk L w'=>∃κ' v12,∃s4:(List Int),∃aD az,L=[(2,.pointer (some ⟨b2,0,none⟩)),(3,.pointer (some ⟨b3,0,none⟩)),(4,.pointer (some ⟨b4,0,none⟩)),(7,vi (p1.Next.length:Int)),(8,vi x27),(9,.pointer (some ⟨b9,0,none⟩)),(10,vi v10),(11,.slice aD s4.length az),(12,vi v12)]/\Stp [12] K68 w67 κ' w'/\Oc E6 2 κ' w' 12 aD az s4/\0<=v12/\yn (x27-v12)=k/\cntM (ek p1 x27 v10) k v12 s4=some q5) ⟨_,_,⟨K68,0,(([]:List Int):(List Int)),bj,bf,R,Jj3,f70,(by decide),(by simp),hq73⟩,(KM R)⟩ ?_
 rintro k _ w78 ⟨K79,v12,s4,aD,az,rfl,S80,f81,hj71,hJ71,h⟩
 rcases k with _ | k
 have hk82:=h;obtain⟨o71,h⟩:=ca (yk (yl s4):(Arena×(List Pair)×Bool)⊕(((List Int))⊕((List Int))))
 have hc71:decide (v12<x27)=false:=Jo2 (by omega)
 refine Jq<|Je3 R<|Jw2 R hc71<|Jc1<|Jt<|Jt ?_
 cases h
 have h:=hk82
 refine Jb1 ?_
 cases h
 exact Jw1 _ ⟨K79,s4,aD,az,R,S80.wk R,f81,R⟩<|KM R
 obtain⟨o71,h,hk82⟩:=BI h;unfold ek at h
 have hc71:decide (v12<x27)=true:=Jn2 (by omega)
 refine Jq<|Je3 R<|Jv2 R hc71<|Js<|Jp<|Jq<|Jv<|Jh3 [2,2,2,2,2,2,2,2,1,1,2] 8 R<|Jn1 (κ:=K79) (E:=E6) 13 [] (parts:=[(0,.tmp 47)]) (cells:=[vi<|IntKind.i64.wrap ((IntKind.i64.wrap ((p1.Next.length:Int)+(IntKind.i64.wrap<|v10 * x27)))+v12)]) (xs:=([(IntKind.i64.wrap ((IntKind.i64.wrap ((p1.Next.length:Int)+(IntKind.i64.wrap<|v10 * x27)))+v12))]:List Int)) R R R R R R Y29 a8 R R R R R R R R R R ⟨[vi<|IntKind.i64.wrap ((IntKind.i64.wrap ((p1.Next.length:Int)+(IntKind.i64.wrap<|v10 * x27)))+v12)],[],Zl K79 w78 [],Zl K79 w78 [],R,Zl.sp (l1:=[]) (l2:=[]) R,Zl.sr (l1:=[]) (l2:=[]),R,R⟩ λbm bl w83 K84 S85 f86=>Tv<|Ob h λx49 hx49 h=>Jm1 (κ:=K84) (E:=E6) 12 [] R R R R R R R R R Y29 a8 R R R R (f81.stp S85 R R) (Sl.srcP (bM _) f86.rdc) bH hx49 R λbd be w88 K89 S90 f91=>Tv<|Jc 1 R<|Jz<|Jp<|Jf3 R ?_
 have hw71:sh .i64 (v12+1)=v12+1:=wr1 hj71 (Jm2 hc71) hN71
 rw[hw71]
 have hc71:=Jm2 hc71
 cases h
 exact Jz1 λa ha=>⟨k,_,Ja3 _,⟨K89,v12+1,x49,bd,be,R,(T3 S80 S85 S90).wk R,f91,by omega,by omega,hk82⟩,(ha.mm R)⟩
 rintro _ w74 ⟨K75,s6,ak,ao,rfl,S76,f77,rfl⟩
 have h:=yI hK72
 refine Jp<|Je [2,1,1,1,2,1] R<|Jd3 R U104 R Z29 ?_
 have f92:=f65.stp (S69.tr S76) R R
 refine Jb3 R I29 (f92.ld 0 R R)<|Jn1 (κ:=K75) (E:=E6) 13 [] (parts:=[(0,.const (vi 1))]) (cells:=[vi 1]) (xs:=([1]:List Int)) R R R R R R Y29 a8 R R R R R R R R R R ⟨[vi 1],[],Zl K75 w74 [],Zl K75 w74 [],R,Zl.sp (l1:=[]) (l2:=[]) R,Zl.sr (l1:=[]) (l2:=[]),R,R⟩ λbq bp w93 K94 S95 f96=>Tv<|Ob h λx53 hx53 h=>Jm1 (κ:=K94) (E:=E6) 10 [] R R R R R R R R R Y29 a8 R R R R (f63.stp (T3 S69 S76 S95) R R) (Sl.srcP (bM _) f96.rdc) bH hx53 R λaR aL w98 K99 S100 f101=>Tv<|Jd3 R U104 R Z29<|Ji1 (κ:=K99) 9 (off:=0) (vc:=[.slice aR x53.length aL]) (cs':=[.slice aR x53.length aL,.slice an s1.2.length ah]) R R R R R R R Z29 R R (f92.stp (S95.tr S100) R R) R R λw103 S104 f105=>Tv<|Jd<|Ja [2,1,2,1,1,2,1] R<|Jd3 R U104 R Z26<|Jb3 R I26 (f105.ld 1 R R)<|Jn 1 R ?_
 obtain⟨K107,S108,z109⟩:=eR K99 w103 12
 refine Jn1 (κ:=K107) (E:=(Ep.fz<|Rp.sl<|Rp.int .i64)) 14 [] (parts:=[(0,.tmp 57)]) (cells:=[.slice ak s6.length ao]) (xs:=([s6]:List (List Int))) R R R R R R Y26 bK R R R R R R R R R R ⟨[.slice ak s6.length ao],[],Zl K107 w103 [],Zl K107 w103 [],R,Zl.sp (l1:=[]) (l2:=[]) R,Zl.sr (l1:=[]) (l2:=[]),⟨_,_,R,(Sl.z1<|Sl.st z109 (f77.stp (T3 S95 S100 S104) R R).rdc)⟩,R⟩ λbw bn w111 K112 S113 f114=>Tv<|Ob h λx59 hx59 h=>Jm1 (κ:=K112) (E:=(Ep.fz<|Rp.sl<|Rp.int .i64)) 11 [14] R R R R R R R R R Y26 bK R R R R (f64.stp (T7 S69 S76 S95 S100 S104 S108 S113) R R) f114.src (dz R) hx59 R λaX aV w116 K117 S118 f119=>Tv<|Jd3 R U104 R Z26<|Ji1 (κ:=K117) 9 (off:=1) (vc:=[.slice aX x59.length aV]) (cs':=[.slice aR x53.length aL,.slice aX x59.length aV]) R R R R R R R Z26 R R (f105.stp (T3 S108 S113 S118) R R) R R λw121 S122 f123=>Tv<|Jo<|Jz<|Jp<|Jf3 R ?_
 have hw51:sh .i64 (v10+1)=v10+1:=wr1 hj51 (Jm2 hc51) hN51
 rw[hw51]
 have hc51:=Jm2 hc51
 cases h
 exact Jz1 λa ha=>⟨k,_,Ja3 _,⟨K117,v10+1,(x53,x59),aR,aL,aX,aV,R,(T10 S62 S69 S76 S95 S100 S104 S108 S113 S118 S122).wk R,(f101.stp (T5 S104 S108 S113 S118 S122) R R),(f119.stp S122 R R),f123,by omega,by omega,hk66⟩,(ha.mm R)⟩
 rintro _ w54 ⟨K55,s3,aA,aq,aE,av,rfl,S56,f57,f58,f59,rfl⟩
 have h:=yI hK52
 refine Jp<|Jq<|Je3 R ?_
 have hN126:(p1.Next.length:Int)<=9223372036854775807:=f15.len_le
 refine Ob h λq8 hq128 hK127=>?_
 clear h
 refine Jx1 (λL w'=>∃κ',∃s9:(List Int)×(List<|List Int),∃ab ad ac aa,L=[(3,.pointer (some ⟨b3,0,none⟩)),(4,.pointer (some ⟨b4,0,none⟩)),(9,.pointer (some ⟨b9,0,none⟩))]/\Stp [9,10,11,16] K55 w54 κ' w'/\Oc E6 2 κ' w' 10 ab ad s9.1/\Oc (Ep.fz<|Rp.sl<|Rp.int .i64) 29 κ' w' 11 ac aa s9.2/\Bc κ' w' 9 b9 104 [.slice ab s9.1.length ad,.slice ac s9.2.length aa]/\q8=yk s9) ?_ ?_
 refine Jv<|Jy1 (λk L w'=>∃κ' v13,∃s7:(List Int)×(List<|List Int),∃af ai ae aj,L=[(2,.pointer (some ⟨b2,0,none⟩)),(3,.pointer (some ⟨b3,0,none⟩)),(4,.pointer (some ⟨b4,0,none⟩)),(7,vi (p1.Next.length:Int)),(8,vi x27),(9,.pointer (some ⟨b9,0,none⟩)),(13,vi v13)]/\Stp [9,10,11,16] K55 w54 κ' w'/\Oc E6 2 κ' w' 10 af ai s7.1/\Oc (Ep.fz<|Rp.sl<|Rp.int .i64) 29 κ' w' 11 ae aj s7.2/\Bc κ' w' 9 b9 104 [.slice af s7.1.length ai,.slice ae s7.2.length aj]/\0<=v13/\yn ((p1.Next.length:Int)-v13)=k/\cntM (em p0 p1 x27) k v13 s7=some q8) ⟨_,_,⟨K55,0,(s3.1,s3.2),aA,aq,aE,av,R,Jj3,f57,f58,f59,(by decide),(by simp),hq128⟩,(KM R)⟩ ?_
 rintro k _ w135 ⟨K136,v13,s7,af,ai,ae,aj,rfl,S137,f138,f139,f140,hj126,hJ126,h⟩
 rcases k with _ | k
 have hk141:=h;obtain⟨o126,h⟩:=ca (yk (yl s7):(Arena×(List Pair)×Bool)⊕(((List Int)×(List (List Int)))⊕((List Int)×(List (List Int)))))
 have hc126:decide (v13<(p1.Next.length:Int))=false:=Jo2 (by omega)
 refine Jq<|Je3 R<|Jw2 R hc126<|Jc1<|Jt<|Jt ?_
 cases h
 have h:=hk141
 refine Jb1 ?_
 cases h
 exact Jw1 _ ⟨K136,(s7.1,s7.2),af,ai,ae,aj,R,S137.wk R,f138,f139,f140,R⟩<|KM R
 obtain⟨o126,h,hk141⟩:=BI h;unfold em at h
 have hc126:decide (v13<(p1.Next.length:Int))=true:=Jn2 (by omega)
 refine Jq<|Je3 R<|Jv2 R hc126<|Js<|Jp<|Jq<|Jv<|Je3 R<|Ob h λ_ hr142 h=>?_
 have hN142:=mu hr142
 refine Ob h λq11 hq144 hK143=>?_
 clear h
 refine Jx1 (λL w'=>∃κ',∃s12:(List Int)×(List<|List Int),∃aw aN aM aF,L=[(2,.pointer (some ⟨b2,0,none⟩)),(3,.pointer (some ⟨b3,0,none⟩)),(4,.pointer (some ⟨b4,0,none⟩)),(7,vi (p1.Next.length:Int)),(8,vi x27),(9,.pointer (some ⟨b9,0,none⟩)),(13,vi v13)]/\Stp [9,10,11,16] K136 w135 κ' w'/\Oc E6 2 κ' w' 10 aw aN s12.1/\Oc (Ep.fz<|Rp.sl<|Rp.int .i64) 29 κ' w' 11 aM aF s12.2/\Bc κ' w' 9 b9 104 [.slice aw s12.1.length aN,.slice aM s12.2.length aF]/\q11=yk s12) ?_ ?_
 refine Jv<|Jy1 (λk L w'=>∃κ' v14,∃s10:(List Int)×(List<|List Int),∃aT aJ al am,L=[(2,.pointer (some ⟨b2,0,none⟩)),(3,.pointer (some ⟨b3,0,none⟩)),(4,.pointer (some ⟨b4,0,none⟩)),(7,vi (p1.Next.length:Int)),(8,vi x27),(9,.pointer (some ⟨b9,0,none⟩)),(13,vi v13),(14,vi v14)]/\Stp [9,10,11,16] K136 w135 κ' w'/\Oc E6 2 κ' w' 10 aT aJ s10.1/\Oc (Ep.fz<|Rp.sl<|Rp.int .i64) 29 κ' w' 11 al am s10.2/\Bc κ' w' 9 b9 104 [.slice aT s10.1.length aJ,.slice al s10.2.length am]/\0<=v14/\yn (x27-v14)=k/\cntM (ed p0 p1 v13) k v14 s10=some q11) ⟨_,_,⟨K136,0,(s7.1,s7.2),af,ai,ae,aj,R,Jj3,f138,f139,f140,(by decide),(by simp),hq144⟩,(KM R)⟩ ?_
 rintro k _ w151 ⟨K152,v14,s10,aT,aJ,al,am,rfl,S153,f154,f155,f156,hj142,hJ142,h⟩
 rcases k with _ | k
 have hk157:=h;obtain⟨o142,h⟩:=ca (yk (yl s10):(Arena×(List Pair)×Bool)⊕(((List Int)×(List (List Int)))⊕((List Int)×(List (List Int)))))
 have hc142:decide (v14<x27)=false:=Jo2 (by omega)
 refine Jq<|Je3 R<|Jw2 R hc142<|Jc1<|Jt<|Jt ?_
 cases h
 have h:=hk157
 refine Jb1 ?_
 cases h
 exact Jw1 _ ⟨K152,(s10.1,s10.2),aT,aJ,al,am,R,S153.wk R,f154,f155,f156,R⟩<|KM R
 obtain⟨o142,h,hk157⟩:=BI h;unfold ed at h
 have hc142:decide (v14<x27)=true:=Jn2 (by omega)
 refine Jq<|Je3 R<|Jv2 R hc142<|Js<|Jp<|Jq<|Jv<|Je [2,1,1,1,2,1] R<|Jd3 R U104 R Z29<|Jb3 R I29 (f156.ld 0 R R)<|Jn1 (κ:=K152) (E:=E6) 12 [] (parts:=[(0,.const (vi 0))]) (cells:=[vi 0]) (xs:=([0]:List Int)) R R R R R R Y29 a8 R R R R R R R R R R ⟨[vi 0],[],Zl K152 w151 [],Zl K152 w151 [],R,Zl.sp (l1:=[]) (l2:=[]) R,Zl.sr (l1:=[]) (l2:=[]),R,R⟩ λbu br w158 K159 S160 f161=>Tv<|Ob h λx74 hx74 h=>Jm1 (κ:=K159) (E:=E6) 10 [] R R R R R R R R R Y29 a8 R R R R (f154.stp S160 R R) (Sl.srcP (bM _) f161.rdc) bH hx74 R λaG aB w163 K164 S165 f166=>Tv<|Jd3 R U104 R Z29<|Ji1 (κ:=K164) 9 (off:=0) (vc:=[.slice aG x74.length aB]) (cs':=[.slice aG x74.length aB,.slice al s10.2.length am]) R R R R R R R Z29 R R (f156.stp (S160.tr S165) R R) R R λw168 S169 f170=>Tv<|Jd<|Js1 (κ:=K164) [2,3,9] (some 10) [(0,2),(4,2),(5,2),(1,0),(2,0),(3,0),(6,1),(7,1),(8,1),(9,2)] [(10,1)] (by kernel_rfl) (by kernel_rfl) λw172 S171=>Jd3 R U104 R Z26<|Jn 2 R ?_
 have f173:=f170.stp S171 R R
 have S001:=(T11 S21 S41 S46 S49 S56 S137 S153 S160 S165 S169 S171)
 have S002:=(T10 S41 S46 S49 S56 S137 S153 S160 S165 S169 S171)
 refine Jg R (Jc2 I26 R R<|hvC (f173.ld 1 R R) R)<|Jg R (Jd2 (cs:=[vi p0.In,vi p0.Out]) I25 Z25 R R R<|haC (f36.stp S002 R R).cells R)<|Jg R (Jd2 (cs:=[.slice ax p1.Next.length aI,.slice aU p1.Pairs.length aP]) I100 Z100 R R R<|haC (f35.stp S002 R R).cells R)<|Ob h λx82 hx82 h=>Jh R R R C118 (qB (κ:=λb=>mp [] 1<|K164 b) (p0:=p0) (p1:=p1) (Jl2 (f15.stp S001 R R) (mp [] 1) R R) (Jl2 (f16.stp S001 R R) (mp [] 1) R R) hx82) ?_
 rintro _ w178 ⟨k179,aZ,ba,rfl,e180,f181⟩
 obtain⟨K182,S183,m184,z185⟩:=Jj e180 13 R
 refine⟨(S183.cl R),Jn1 (κ:=K182) (E:=(Ep.fz<|Rp.sl<|Rp.int .i64)) 16 [] (parts:=[(0,.tmp 82)]) (cells:=[.slice aZ x82.length ba]) (xs:=([x82]:List (List Int))) R R R R R R Y26 bK R R R R R R R R R R ⟨[.slice aZ x82.length ba],[],Zl K182 w178 [],Zl K182 w178 [],R,Zl.sp (l1:=[]) (l2:=[]) R,Zl.sr (l1:=[]) (l2:=[]),⟨_,_,R,(Sl.z1<|f181.mx z185)⟩,R⟩ λbs bt w187 K188 S189 f190=>⟨((S183.tr S189).cl R),Ob h λx84 hx84 h=>Jm1 (κ:=K188) (E:=(Ep.fz<|Rp.sl<|Rp.int .i64)) 11 [16] R R R R R R R R R Y26 bK R R R R (f155.stp (T6 S160 S165 S169 S171 S183 S189) R R) f190.src (dz R) hx84 R λaY aW w192 K193 S194 f195=>⟨((T3 S183 S189 S194).cl R),Jd3 R U104 R Z26<|Jt1<|Ji1 (κ:=K193) 9 (off:=1) (vc:=[.slice aY x84.length aW]) (cs':=[.slice aG x74.length aB,.slice aY x84.length aW]) R R R R R R R Z26 R R (f173.stp (T3 S183 S189 S194) R R) R R λw197 S198 f199=>Tv<|Jo<|Jz<|Jp<|Jf3 R ?_⟩⟩⟩
 have hw142:sh .i64 (v14+1)=v14+1:=wr1 hj142 (Jm2 hc142) hN142
 rw[hw142]
 have hc142:=Jm2 hc142
 cases h
 exact Jz1 λa ha=>⟨k,_,Ja3 _,⟨K193,v14+1,(x74,x84),aG,aB,aY,aW,R,(T9 S153 S160 S165 S169 S171 S183 S189 S194 S198).wk R,(f166.stp (T6 S169 S171 S183 S189 S194 S198) R R),(f195.stp S198 R R),f199,by omega,by omega,hk157⟩,(ha.mm R)⟩
 rintro _ w145 ⟨K146,s12,aw,aN,aM,aF,rfl,S147,f148,f149,f150,rfl⟩
 have h:=yI hK143
 refine Jz<|Jp<|Jf3 R ?_
 have hw126:sh .i64 (v13+1)=v13+1:=wr1 hj126 (Jm2 hc126) hN126
 rw[hw126]
 have hc126:=Jm2 hc126
 cases h
 exact Jz1 λa ha=>⟨k,_,Ja3 _,⟨K146,v13+1,(s12.1,s12.2),aw,aN,aM,aF,R,(S137.tr S147).wk R,f148,f149,f150,by omega,by omega,hk141⟩,(ha.mm R)⟩
 rintro _ w129 ⟨K130,s9,ab,ad,ac,aa,rfl,S131,f132,f133,f134,rfl⟩
 have h:=yI hK127
 refine Jp<|Je [1,2] R<|Jo1 (κ:=K130) (E:=Pair.ep154) 12 R R R R R Y98 dG R λbg bc w202 K203 S204 f205=>Tv<|Jb 1 R<|Jq<|Je3 R ?_
 have hN206:(p1.Pairs.length:Int)<=9223372036854775807:=f16.len_le
 refine Ob h λq14 hq208 hK207=>?_
 clear h
 refine Jx1 (λL w'=>∃κ',∃s15:(List Pair),∃au ar,L=[(4,.pointer (some ⟨b4,0,none⟩)),(9,.pointer (some ⟨b9,0,none⟩)),(15,.slice au s15.length ar)]/\Stp [12,15,18,19] K203 w202 κ' w'/\Oc Pair.ep154 154 κ' w' 12 au ar s15/\q14=yk s15) ?_ ?_
 refine Jv<|Jy1 (λk L w'=>∃κ' v16,∃s13:(List Pair),∃ay aQ,L=[(3,.pointer (some ⟨b3,0,none⟩)),(4,.pointer (some ⟨b4,0,none⟩)),(9,.pointer (some ⟨b9,0,none⟩)),(15,.slice ay s13.length aQ),(16,vi v16)]/\Stp [12,15,18,19] K203 w202 κ' w'/\Oc Pair.ep154 154 κ' w' 12 ay aQ s13/\0<=v16/\yn ((p1.Pairs.length:Int)-v16)=k/\cntM (ea p1) k v16 s13=some q14) ⟨_,_,⟨K203,0,(([]:List Pair):(List Pair)),bg,bc,R,Jj3,f205,(by decide),(by simp),hq208⟩,(KM R)⟩ ?_
 rintro k _ w213 ⟨K214,v16,s13,ay,aQ,rfl,S215,f216,hj206,hJ206,h⟩
 rcases k with _ | k
 have hk217:=h;obtain⟨o206,h⟩:=ca (yk (yl s13):(Arena×(List Pair)×Bool)⊕(((List Pair))⊕((List Pair))))
 have hc206:decide (v16<(p1.Pairs.length:Int))=false:=Jo2 (by omega)
 refine Jq<|Jg3 [2,2,1,2,2] 1 R<|Jd3 R U100 R Z98<|Jb3 R I98 ((f35.stp (T7 S41 S46 S49 S56 S131 S204 S215) R R).ld 1 R R)<|Jn3 R U98 R R<|Jb 1 R<|Jw2 R hc206<|Jc1<|Jt<|Jt ?_
 cases h
 have h:=hk217
 refine Jb1 ?_
 cases h
 exact Jw1 _ ⟨K214,s13,ay,aQ,R,S215.wk R,f216,R⟩<|KM R
 obtain⟨o206,h,hk217⟩:=BI h;unfold ea at h
 have hc206:decide (v16<(p1.Pairs.length:Int))=true:=Jn2 (by omega)
 refine Jq<|Jg3 [2,2,1,2,2] 1 R<|Jd3 R U100 R Z98 ?_
 have f219:=f35.stp (T7 S41 S46 S49 S56 S131 S204 S215) R R
 refine Jb3 R I98 (f219.ld 1 R R)<|Jn3 R U98 R R<|Jb 1 R<|Jv2 R hc206<|Js<|Jp<|Jq<|Jv<|Js1 (κ:=K214) [0,3] none [(0,2),(1,2),(3,2),(8,2),(10,2),(2,0),(4,2),(5,2),(6,0),(9,0),(11,2),(12,2),(13,0),(7,1),(14,1),(15,2),(16,1),(17,1),(18,2)] [] (by kernel_rfl) (by kernel_rfl) λw221 S220=>Jn 1 R<|Jd3 R U100 R Z98<|Jn 1 R<|Jd3 R U100 R Z98<|Jn 1 R ?_
 have f222:=f219.stp S220 R R
 refine Jg R (Jc2 I98 R R<|hvC (f222.ld 1 R R) R)<|Ob h λx98 hx98 h=>Jc3 R f16 hx98 U98 Z154<|Jd3 R U154 R Z29 ?_
 have f223:=f16.stp (T9 S21 S41 S46 S49 S56 S131 S204 S215 S220) R R
 obtain⟨cse224,hre224,hle224⟩:=(f223).gSt hx98
 obtain⟨ae224_0,ue224_0,ae224_1,ue224_1,rfl,fe224_0,fe224_1⟩:=Pair.un hre224
 refine Jg R (Jc2 I29 R R<|hvC (λw' hw'=>hle224 w' hw' 0 _ R) R)<|Jg R (Jc2 I98 R R<|hvC (f222.ld 1 R R) R)<|Ob h λx105 hx105 h=>Jc3 R f223 hx105 U98 Z154<|Jd3 R U154 R Z29 ?_
 obtain⟨cse225,hre225,hle225⟩:=(f223).gSt hx105
 obtain⟨ae225_0,ue225_0,ae225_1,ue225_1,rfl,fe225_0,fe225_1⟩:=Pair.un hre225
 refine Jg R (Jc2 I29 R R<|hvC (λw' hw'=>hle225 w' hw' 1 _ R) R)<|Ob h λx101 hx101 h=>Jh R R R C56 (ck (κ:=Mk K214) (Ji3 fe224_0) hx101) ?_
 rintro _ w226 ⟨k227,aS,aO,rfl,e228,f229⟩
 obtain⟨K230,S231,m232⟩:=Ji e228 13 R
 refine⟨(S231.cl R),Ob h λx108 hx108 h=>Jh R R R C56 (ck (κ:=Mk K230) (Ji3<|fe225_1.stp S231 R R) hx108) ?_⟩
 rintro _ w236 ⟨k237,aK,aH,rfl,e238,f239⟩
 obtain⟨K240,S241,m242⟩:=Ji e238 16 R
 have S003:=(S231.tr S241)
 refine⟨(S003.cl R),Jf R (bG (parts:=[(0,.tmp 101),(1,.tmp 108)]) (cells:=[.slice aS x101.length aO,.slice aK x108.length aH]) R R (by kernel_rfl))<|Jn1 (κ:=K240) (E:=Pair.ep154) 19 [15,18] (parts:=[(0,.tmp 109)]) (cells:=[.slice aS x101.length aO,.slice aK x108.length aH]) (xs:=([(⟨x101,x108⟩:Pair)]:List Pair)) R R R R R R Y98 dG R R R R R R R R R R ⟨[.slice aS x101.length aO,.slice aK x108.length aH],[],Zl K240 w236 [15,18],Zl K240 w236 [],R,Zl.sp (l1:=[15,18]) (l2:=[]) R,Zl.sr (l1:=[15,18]) (l2:=[]),⟨[.slice aS x101.length aO],[.slice aK x108.length aH],Zl K240 w236 [15],Zl K240 w236 [18],R,Zl.sp (l1:=[15]) (l2:=[18]) R,Zl.sr (l1:=[15]) (l2:=[18]),⟨_,_,R,((f229.mx (bD _) m232 R (R:13+2=15)).stp S241 R R)⟩,⟨_,_,R,(f239.mx (bD _) m242 R (R:16+2=18))⟩⟩,R⟩ λbo bv w246 K247 S248 f249=>⟨((S003.tr S248).cl R),Ob h λx111 hx111 h=>Jm1 (κ:=K247) (E:=Pair.ep154) 12 [19] R R R R R R R R R Y98 dG R R R R (f216.stp (T4 S220 S231 S241 S248) R R) f249.src (dz R) hx111 R λbi bb w251 K252 S253 f254=>⟨((T3 S003 S248 S253).cl R),Jn 1 R<|Jt1<|Jo<|Jz<|Jp<|Jf3 R ?_⟩⟩⟩
 have hw206:sh .i64 (v16+1)=v16+1:=wr1 hj206 (Jm2 hc206) hN206
 rw[hw206]
 have hc206:=Jm2 hc206
 cases h
 exact Jz1 λa ha=>⟨k,_,Ja3 _,⟨K252,v16+1,x111,bi,bb,R,(T6 S215 S220 S231 S241 S248 S253).wk R,f254,by omega,by omega,hk217⟩,(ha.mm R)⟩
 rintro _ w209 ⟨K210,s15,au,ar,rfl,S211,f212,rfl⟩
 have h:=yI hK207
 refine Jp<|Je [1,2,1,2,2] R<|Jl tv R R R R (Jd2 (cs:=[.slice ab s9.1.length ad,.slice ac s9.2.length aa]) I104 Z104 R R R<|haE (f134.stp (S204.tr S211) R R).cells)<|Jn 1 R<|Jj1 (κ:=K210) 4 (vc:=[.slice ab s9.1.length ad,.slice ac s9.2.length aa]) R R R R R R R Z104 R R (f12.stp (T8 S21 S41 S46 S49 S56 S131 S204 S211) R R) R λw257 S258 f259=>Tv<|Jb 2 R<|Ju<|Ja2 (l:=[.cell 4 104,.tmp 5,.tmp 6]) V69 (bF R f259 I104 Z104 R<|Jp2 R<|Jp2 R R) R ?_
 cases h
 have S004:=(T3 S204 S211 S258)
 exact⟨(λb=>ren [(10,2),(11,3),(12,4)]<|K210 b),ab,ad,ac,aa,au,ar,R,((hE.stp (T12 S3 S7 S11 S21 S41 S46 S49 S56 S131 S204 S211 S258) R R).map (ren [(10,2),(11,3),(12,4)]) R R),((f132.stp S004 R R).map (ren [(10,2),(11,3),(12,4)]) R R),((f133.stp S004 R R).map (ren [(10,2),(11,3),(12,4)]) R R),((f212.stp S258 R R).map (ren [(10,2),(11,3),(12,4)]) R R)⟩
 refine JT λh=>Jx R<|Je [2,1,1,2,2] R<|Jf R (bG (parts:=[]) (cells:=[.slice none 0 0,.slice none 0 0]) R R (by kernel_rfl))<|Jo1 (κ:=K20) (E:=Pair.ep154) 7 R R R R R Y98 dG R λbh bk w25 K26 S27 f28=>Tv<|Jj1 (κ:=K26) 4 (vc:=[.slice none 0 0,.slice none 0 0]) R R R R R R R Z104 R R (f12.stp (S21.tr S27) R R) R λw30 S31 f32=>Tv<|Jb 2 R<|Ju<|Jw<|Ja2 (l:=[.cell 4 104,.tmp 5,.tmp 6]) V69 (bF R f32 I104 Z104 R<|Jp2 R<|Jp2 R R) R ?_
 cases h
 exact⟨(λb=>ren [(7,4)]<|K26 b),none,0,none,0,bh,bk,R,((hE.stp (T6 S3 S7 S11 S21 S27 S31) R R).map (ren [(7,4)]) R R),Ow.nil,Ow.nil,((f28.stp S31 R R).map (ren [(7,4)]) R R)⟩
theorem qr {ab ad aa af ac ae}{p0:Parity}{a1 u1}{p1:(List Int)}(g0_0_0:Rd (Rp.int .i64) κ w 0 ab ad p0.Arena.Owner) (g0_0_1:Rd (Rp.sl (Rp.int .i64)) κ w 0 aa af p0.Arena.Next) (g0_1:Rd (Rp.int .i64) κ w 0 ac ae p0.Prio) (g1:Rd (Rp.int .i64) κ w 0 a1 u1 p1){r:Bool}(h:kc p0 p1=some r):Ret Tryz.prog 173 [.agg #[.slice ab p0.Arena.Owner.length ad,.slice aa p0.Arena.Next.length af,.slice ac p0.Prio.length ae],.slice a1 p1.length u1] w (Pvb κ w r):=by
 unfold kc at h
 refine Jk3 κ F173 R N173 R λhE=>Je [1,2] R<|Jf1 (κ:=κ) 2 R R R R R R R λb2 w1 K2 S3 f4=>Tv<|Jb 1 R<|Je [1,2,1,2,2,2,1,1,2] R<|Jl tv R R R R (Jd2 (cs:=[.slice ab p0.Arena.Owner.length ad,.slice aa p0.Arena.Next.length af,.slice ac p0.Prio.length ae]) I108 Z108 R R R<|haE f4.cells)<|Jn 1 R<|Ob h λx10 hx10 h=>?_
 have f5:=g0_0_0.stp S3 R R
 have f6:=g0_0_1.stp S3 R R
 have f7:=g0_1.stp S3 R R
 refine Jh R R R C211 (sF (κ:=Mk K2) (p0:=p0) (Ji3 f5) (Ji3 f6) (Ji3 f7) (Ji3<|g1.stp S3 R R) hx10) ?_
 rintro _ w9 ⟨k10,ak,ah,aj,ai,al,am,rfl,e11,f12,f13,f14⟩
 obtain⟨K15,S16,m17⟩:=Ji e11 3 R
 refine Tv<|Jn 3 R<|Jg1 (κ:=K15) 8 R R R R R X108 R λb5 w22 K23 S24 f25=>Tv<|Jj1 (κ:=K23) 8 (vc:=[.slice ak x10.1.Arena.Owner.length ah,.slice aj x10.1.Arena.Next.length ai,.slice al x10.1.Prio.length am]) R R R R R R R Z108 R R f25 R λw26 S27 f28=>Tv<|Jb 1 R<|Jq<|Js1 (κ:=K23) [2,8] none [(0,2),(1,2),(2,0),(4,0),(3,1),(5,1),(6,1),(7,2),(8,2)] [] (by kernel_rfl) (by kernel_rfl) λw30 S29=>Jn 2 R<|Ob h λp20 h hK31=>Ju1 [(2,0),(4,0),(3,1),(5,1),(6,1),(7,2)] [(8,2)] (λL w'=>L=[(4,.bool false),(20,.bool p20)]/\∃κ',Stp [] K23 w30 κ' w') (Cl.refl _ _ _) ?_ ?_
 revert h
 cases ht32:x10.2
 refine JF λh=>Je1 R R R R<|Je1 R R R R<|Jd1 R R R R<|Jd1 R R R R<|Jd1 R R R R<|Jn 1 R ?_
 cases h
 exact Jv1 _ (Cl.refl _ _ _) ⟨R,_,Jj3⟩<|KM R
 have S001:=(T3 S24 S27 S29)
 refine JT λh=>Jg R (Jd2 (cs:=[.slice ak x10.1.Arena.Owner.length ah,.slice aj x10.1.Arena.Next.length ai,.slice al x10.1.Prio.length am]) I108 Z108 R R R<|haC (f28.stp S29 R R).cells R)<|Jg R (Jd2 (cs:=[.slice ab p0.Arena.Owner.length ad,.slice aa p0.Arena.Next.length af,.slice ac p0.Prio.length ae]) I108 Z108 R R R<|haC (f4.stp (T4 S16 S24 S27 S29) R R).cells R)<|Ob h λx16 hx16 h=>Jh R R R C174 (ny (κ:=Mk K23) (p0:=x10.1) (Ji3 ((f12.mx (bD _) m17 R (R:3+2=5)).stp S001 R R).rdc) (Ji3 ((f13.mx (cD (bD _) _) m17 R (R:3+3=6)).stp S001 R R).rdc) (Ji3 ((f14.mx (bD _) m17 R (R:3+4=7)).stp S001 R R).rdc) hx16) ?_
 rintro _ w38 ⟨k39,aq,ao,rfl,e40,f41⟩
 obtain⟨K42,S43,m44⟩:=Ji e40 9 R
 have S002:=(T5 S16 S24 S27 S29 S43)
 refine⟨(S43.cl R),Ob h λx18 hx18 h=>Jh R R R C174 (ny (κ:=Mk K42) (p0:=p0) (Ji3<|f5.stp S002 R R) (Ji3<|f6.stp S002 R R) (Ji3<|f7.stp S002 R R) hx18) ?_⟩
 rintro _ w50 ⟨k51,ap,an,rfl,e52,f53⟩
 obtain⟨K54,S55,m56⟩:=Ji e52 12 R
 refine⟨((S43.tr S55).cl R),Ob h λx19 hx19 h=>Jh R R R C212 (sw (κ:=Mk K54) (Ji3 ((f41.mx (bD _) m44 R (R:9+2=11)).stp S55 R R).rdc) (Ji3 (f53.mx (bD _) m56 R (R:12+2=14)).rdc) hx19) ?_⟩
 rintro _ w60 ⟨k61,rfl,e62⟩
 obtain⟨K63,S64,m65⟩:=Ji e62 15 R
 refine⟨((T3 S43 S55 S64).cl R),Jn 1 R ?_⟩
 cases h
 exact Jv1 _ ((T3 S43 S55 S64).cl R) ⟨R,_,(T3 S43 S55 S64).wk R⟩<|KM R
 rintro _ w67 _ ⟨rfl,K68,S69⟩
 have h:=hK31
 refine Jn 1 R<|Jt1<|Jd<|Ju<|Ja2 (l:=[.tmp 4]) V173 (Jp2 R R) R ?_
 cases h
 exact⟨K68,R,(hE.stp (T6 S3 S16 S24 S27 S29 S69) R R)⟩
theorem kx {af ak ae aj ah ai}{p0:Parity}{a1 u1}{p1:(List Int)}(g0_0_0:Rd (Rp.int .i64) κ w 0 af ak p0.Arena.Owner) (g0_0_1:Rd (Rp.sl (Rp.int .i64)) κ w 0 ae aj p0.Arena.Next) (g0_1:Rd (Rp.int .i64) κ w 0 ah ai p0.Prio) (g1:Rd (Rp.int .i64) κ w 0 a1 u1 p1){r:Answer×Bool}(h:jO p0 p1=some r):Ret Tryz.prog 126 [.agg #[.slice af p0.Arena.Owner.length ak,.slice ae p0.Arena.Next.length aj,.slice ah p0.Prio.length ai],.slice a1 p1.length u1] w (λv w'=>∃(κ':Col) (ra0:Option Addr) (ru0:Nat) (ra1:Option Addr) (ru1:Nat),v= .tuple #[.agg #[.slice ra0 r.1.Won.length ru0,.slice ra1 r.1.Plan.length ru1],.bool r.2]/\Ent κ w κ' w'/\Oc E6 2 κ' w' 2 ra0 ru0 r.1.Won/\Oc E6 2 κ' w' 3 ra1 ru1 r.1.Plan):=by
 unfold jO at h
 refine Jk3 κ F126 R N126 R λhE=>Je [1,1,2] R<|Jf1 (κ:=κ) 2 R R R R R R R λb2 w1 K2 S3 f4=>Tv<|Jg1 (κ:=K2) 3 R R R R R X113 R λb4 w5 K6 S7 f8=>Tv<|Jb 1 R<|Jq<|Je [1,2,1,2] R ?_
 have f9:=f4.stp S7 R R
 refine Jl tv R R R R (Jd2 (cs:=[.slice af p0.Arena.Owner.length ak,.slice ae p0.Arena.Next.length aj,.slice ah p0.Prio.length ai]) I108 Z108 R R R<|haE f9.cells)<|Jn 1 R<|Ob h λx15 hx15 h=>?_
 have f10:=g0_0_0.stp (S3.tr S7) R R
 have f11:=g0_0_1.stp (S3.tr S7) R R
 have f12:=g0_1.stp (S3.tr S7) R R
 have f13:=g1.stp (S3.tr S7) R R
 refine Jh R R R C173 (qr (κ:=Mk K6) (p0:=p0) (Ji3 f10) (Ji3 f11) (Ji3 f12) (Ji3 f13) hx15) ?_
 rintro _ w14 ⟨k15,rfl,e16⟩
 obtain⟨K17,S18,m19⟩:=Ji e16 4 R
 refine Tv<|Jb 1 R ?_
 revert h
 cases ht21:(!x15)
 refine JF λh=>Jy R<|Js<|Jp<|Je [1,1,2] R ?_
 have f27:=f9.stp S18 R R
 refine Jl tv R R R R (Jd2 (cs:=[.slice af p0.Arena.Owner.length ak,.slice ae p0.Arena.Next.length aj,.slice ah p0.Prio.length ai]) I108 Z108 R R R<|haE f27.cells)<|Ob h λx19 hx19 h=>?_
 have f28:=f10.stp S18 R R
 have f29:=f11.stp S18 R R
 have f30:=f12.stp S18 R R
 refine Jh R R R C174 (ny (κ:=Mk K17) (p0:=p0) (Ji3 f28) (Ji3 f29) (Ji3 f30) hx19) ?_
 rintro _ w31 ⟨k32,aa,ab,rfl,e33,f34⟩
 obtain⟨K35,S36,m37⟩:=Ji e33 6 R
 refine Tv<|?_
 have f39:=f34.mx (bD _) m37 R (R:6+2=8)
 refine Jb 1 R<|Je [1,1,1,1] R ?_
 have f40:=f27.stp S36 R R
 refine Jl tv R R R R (Jd2 (cs:=[.slice af p0.Arena.Owner.length ak,.slice ae p0.Arena.Next.length aj,.slice ah p0.Prio.length ai]) I108 Z108 R R R<|haE f40.cells)<|Ob h λx21 hx21 h=>?_
 have f41:=f28.stp S36 R R
 refine Jh R R R C175 (qT (κ:=λb=>mp [] 1<|K35 b) (p0:=p0) (Jl2 f41 (mp [] 1) R R) (Jl2 (f29.stp S36 R R) (mp [] 1) R R) (Jl2 (f30.stp S36 R R) (mp [] 1) R R) hx21) ?_
 rintro _ w44 ⟨k45,au,ay,ax,ar,az,aw,av,aA,ac,ad,rfl,e46,f47,f48,f49,f50,f51⟩
 obtain⟨K52,S53,m54,z55⟩:=Jj e46 9 R
 refine Tv<|Jg1 (κ:=K52) 16 R R R R R X191 R λb7 w61 K62 S63 f64=>Tv<|Jj1 (κ:=K62) 16 (vc:=[.slice au x21.owner.length ay,.slice ax x21.prio.length ar,.slice az x21.next.length aw,.slice av x21.prev.length aA,.slice ac x21.pick.length ad]) R R R R R R R Z191 R R f64 R λw65 S66 f67=>Tv<|Jd<|Jq<|Je3 R ?_
 have hN68:(p1.length:Int)<=9223372036854775807:=f13.len_le
 refine Ob h λq2 hq70 hK69=>?_
 clear h
 refine Jx1 (λL w'=>∃κ',∃s3:(List Int),L=[(2,.pointer (some ⟨b2,0,none⟩)),(4,.pointer (some ⟨b4,0,none⟩)),(6,.slice aa x19.length ab),(7,.pointer (some ⟨b7,0,none⟩))]/\Stp [15] K62 w65 κ' w'/\Oc E6 2 κ' w' 15 ac ad s3/\x21.pick.length=s3.length/\q2=yk s3) ?_ ?_
 refine Jv<|Jy1 (λk L w'=>∃κ' v8,∃s1:(List Int),L=[(1,.slice a1 p1.length u1),(2,.pointer (some ⟨b2,0,none⟩)),(4,.pointer (some ⟨b4,0,none⟩)),(6,.slice aa x19.length ab),(7,.pointer (some ⟨b7,0,none⟩)),(8,vi v8)]/\Stp [15] K62 w65 κ' w'/\Oc E6 2 κ' w' 15 ac ad s1/\x21.pick.length=s1.length/\0<=v8/\yn ((p1.length:Int)-v8)=k/\cntM (fO p0 p1 x19) k v8 s1=some q2) ⟨_,_,⟨K62,0,x21.pick,R,Jj3,((f51.mx (bD _) m54 R (R:9+6=15)).stp (S63.tr S66) R R),R,(by decide),(by simp),hq70⟩,(KM R)⟩ ?_
 rintro k _ w76 ⟨K77,v8,s1,rfl,S78,f79,hn80,hj68,hJ68,h⟩
 rcases k with _ | k
 have hk82:=h;obtain⟨o68,h⟩:=ca (yk (yl s1):(Answer×Bool)⊕(((List Int))⊕((List Int))))
 have hc68:decide (v8<(p1.length:Int))=false:=Jo2 (by omega)
 refine Jq<|Jg3 [2,2,2,2] 2 R<|Jn3 R U29 R R<|Jb 1 R<|Jw2 R hc68<|Jc1<|Jt<|Jt ?_
 cases h
 have h:=hk82
 refine Jb1 ?_
 cases h
 exact Jw1 _ ⟨K77,s1,R,S78.wk R,f79,hn80,R⟩<|KM R
 obtain⟨o68,h,hk82⟩:=BI h;unfold fO at h
 have hc68:decide (v8<(p1.length:Int))=true:=Jn2 (by omega)
 refine Jq<|Jg3 [2,2,2,2] 2 R<|Jn3 R U29 R R<|Jb 1 R<|Jv2 R hc68<|Js<|Jp<|Jq<|Jv<|Jq<|Jq<|Js1 (κ:=K77) [0,2,8] none [(0,2),(1,2),(2,2),(3,0),(4,2),(5,2),(6,2),(7,2),(8,2),(10,2),(11,2),(13,2),(9,0),(12,0),(14,2),(15,0),(16,2),(17,2)] [] (by kernel_rfl) (by kernel_rfl) λw84 S83=>Jn 2 R<|Ob h λx30 hx30 h=>Jc3 R f13 hx30 U29 Z2 ?_
 have f85:=f13.stp (T7 S18 S36 S53 S63 S66 S78 S83) R R
 refine Jg R (Jc2 I2 R R<|hvC (f85.gInt hx30) R)<|Jn 2 R<|Ob h λp45 h hK86=>Ju1 [(6,2),(7,2),(8,2),(10,2),(11,2),(13,2),(9,0),(12,0),(14,2),(15,0),(16,2),(17,2)] [] (λL w'=>L=[(1,.slice a1 p1.length u1),(2,.pointer (some ⟨b2,0,none⟩)),(4,.pointer (some ⟨b4,0,none⟩)),(6,.slice aa x19.length ab),(7,.pointer (some ⟨b7,0,none⟩)),(8,vi v8),(45,.bool p45)]/\∃κ',Stp [] K77 w84 κ' w') (Cl.refl _ _ _) ?_ ?_
 revert h
 cases ht87:(x30 !=(-1))
 refine JF λh=>Jn 6 R<|Je1 R R R R<|Je1 R R R R<|Jn 1 R<|Je1 R R R R<|Jn 2 R ?_
 cases h
 exact Jv1 _ (Cl.refl _ _ _) ⟨R,_,Jj3⟩<|KM R
 have S001:=(T5 S53 S63 S66 S78 S83)
 refine JT λh=>Jn 2 R<|Ob h λx36 hx36 h=>Jc3 R f39.rdc hx36 U29 Z2<|Jd3 R U108 R Z104<|Jd3 R U104 R Z29<|Jn 1 R<|Jg R (Jc2 I2 R R<|hvC ((f39.stp S001 R R).rdc.gInt hx36) R)<|Jg R (Jc2 I29 R R<|hvC ((f40.stp S001 R R).ld 0 R R) R)<|Ob h λx42 hx42 h=>Jc3 R f41 hx42 U29 Z2<|Jg R (Jc2 I2 R R<|hvC ((f41.stp S001 R R).gInt hx42) R)<|Jn 2 R ?_
 cases h
 exact Jv1 _ (Cl.refl _ _ _) ⟨R,_,Jj3⟩<|KM R
 rintro _ w91 _ ⟨rfl,K92,S93⟩
 have h:=hK86
 refine Jt1<|Jd ?_
 revert h
 cases ht94:p45
 refine JF λh=>Jy R<|Js<|Jp<|Js1 (κ:=K92) [0,16] none [(0,2),(2,2),(3,2),(4,2),(5,2),(1,0),(6,0),(7,2),(8,1)] [] (by kernel_rfl) (by kernel_rfl) λw101 S100=>Jd3 R U191 R Z29<|Jn 3 R<|Ob h λx52 hx52 h=>Jc3 R f85 hx52 U29 Z2<|Jg R (Jc2 I29 R R<|hvC ((f67.stp (T4 S78 S83 S93 S100) R R).ld 4 R R) R)<|Jg R (Jc2 I2 R R<|hvC ((f85.stp (S93.tr S100) R R).gInt hx52) R)<|Ob h λx54 hx54 h=>Jf R (Jf2 f79.rdc hx54 U29 Z2 R R hn80 R)<|Ob h λy296 hy296 h=>Jk1 (κ:=K92) (E:=E6) 15 [] R R R R R R R R Z2 R R R R (f79.stp (T3 S83 S93 S100) R R) hy296 λw105 K106 S107 f108=>⟨(S107.cl R),?_⟩
 have hn109:x21.pick.length=y296.length:=hn80.trans (Jt2 hy296).2.2.2.symm
 refine Jt1<|Jo<|Jz<|Jp<|Jf3 R ?_
 have hw68:sh .i64 (v8+1)=v8+1:=wr1 hj68 (Jm2 hc68) hN68
 rw[hw68]
 have hc68:=Jm2 hc68
 cases h
 exact Jz1 λa ha=>⟨k,_,Ja3 _,⟨K106,v8+1,y296,R,(T5 S78 S83 S93 S100 S107).wk R,f108,hn109,by omega,by omega,hk82⟩,(ha.mm R)⟩
 refine JT λh=>Jx R<|Je [2,1,2] R<|Jf R (bG (parts:=[]) (cells:=[.slice none 0 0,.slice none 0 0]) R R (by kernel_rfl))<|Jj1 (κ:=K92) 3 (vc:=[.slice none 0 0,.slice none 0 0]) R R R R R R R Z113 R R (f8.stp (T8 S18 S36 S53 S63 S66 S78 S83 S93) R R) R λw96 S97 f98=>Tv<|Jb 1 R<|Ju<|Jw<|Ja1<|Jw<|Jw ?_
 cases h
 obtain rfl:=Option.some.inj hk82
 have h:=yL hK69
 refine Ja1<|Jq2<|Jw<|Ja2 (l:=[.cell 4 113,.tmp 5]) V126 (bF R f98 I113 Z113 R<|Jp2 R R) R ?_
 cases h
 exact⟨K92,none,0,none,0,R,(hE.stp (T11 S3 S7 S18 S36 S53 S63 S66 S78 S83 S93 S97) R R),Ow.nil,Ow.nil⟩
 rintro _ w71 ⟨K72,s3,rfl,S73,f74,hn75,rfl⟩
 have h:=yI hK69
 refine Jp<|Jg3 [2,1,2] 1 R<|Ob h λx56 hx56 h=>?_
 have f110:=f39.stp (T4 S53 S63 S66 S73) R R
 refine Jh R R R C176 (m5 (κ:=Mk K72) (Ji3 f110.rdc) hx56) ?_
 rintro _ w111 ⟨k112,ao,am,rfl,e113,f114⟩
 obtain⟨K115,S116,m117⟩:=Ji e113 17 R
 refine Tv<|Jb 1 R<|Jg3 [2,1,2] 1 R<|Ob h λx58 hx58 h=>?_
 have f120:=f110.stp S116 R R
 refine Jh R R R C176 (m5 (κ:=Mk K115) (Ji3 f120.rdc) hx58) ?_
 rintro _ w121 ⟨k122,an,al,rfl,e123,f124⟩
 obtain⟨K125,S126,m127⟩:=Ji e123 20 R
 refine Tv<|Jb 1 R<|Jq<|Je3 R ?_
 obtain⟨K132,S133,z134⟩:=eR K125 w121 19
 obtain⟨K138,S139,z140⟩:=eR K132 w121 22
 have hN142:(x19.length:Int)<=9223372036854775807:=f120.len_le
 refine Ob h λq5 hq144 hK143=>?_
 clear h
 refine Jx1 (λL w'=>∃κ',∃s6:(List Int),L=[(4,.pointer (some ⟨b4,0,none⟩)),(6,.slice aa x19.length ab),(7,.pointer (some ⟨b7,0,none⟩))]/\Stp [15,25] K138 w121 κ' w'/\Oc E6 2 κ' w' 15 ac ad s6/\x21.pick.length=s6.length/\q5=yk s6) ?_ ?_
 refine Jv<|Jy1 (λk L w'=>∃κ' v11,∃s4:(List Int),L=[(2,.pointer (some ⟨b2,0,none⟩)),(4,.pointer (some ⟨b4,0,none⟩)),(6,.slice aa x19.length ab),(7,.pointer (some ⟨b7,0,none⟩)),(9,.slice ao x56.length am),(10,.slice an x58.length al),(11,vi v11)]/\Stp [15,25] K138 w121 κ' w'/\Oc E6 2 κ' w' 15 ac ad s4/\x21.pick.length=s4.length/\0<=v11/\yn ((x19.length:Int)-v11)=k/\cntM (fS p0 x19 x21 x56 x58) k v11 s4=some q5) ⟨_,_,⟨K138,0,s3,R,Jj3,(f74.stp (T4 S116 S126 S133 S139) R R),hn75,(by decide),(by simp),hq144⟩,(KM R)⟩ ?_
 rintro k _ w150 ⟨K151,v11,s4,rfl,S152,f153,hn154,hj142,hJ142,h⟩
 rcases k with _ | k
 have hk156:=h;obtain⟨o142,h⟩:=ca (yk (yl s4):(Answer×Bool)⊕(((List Int))⊕((List Int))))
 have hc142:decide (v11<(x19.length:Int))=false:=Jo2 (by omega)
 refine Jq<|Jg3 [2,2,2,2] 2 R<|Jn3 R U29 R R<|Jb 1 R<|Jw2 R hc142<|Jc1<|Jt<|Jt ?_
 cases h
 have h:=hk156
 refine Jb1 ?_
 cases h
 exact Jw1 _ ⟨K151,s4,R,S152.wk R,f153,hn154,R⟩<|KM R
 obtain⟨o142,h,hk156⟩:=BI h;unfold fS at h
 have hc142:decide (v11<(x19.length:Int))=true:=Jn2 (by omega)
 refine Jq<|Jg3 [2,2,2,2] 2 R<|Jn3 R U29 R R<|Jb 1 R<|Jv2 R hc142<|Js<|Jp<|Jq<|Jv<|Jq<|Jq<|Js1 (κ:=K151) [0,2,8,15,16] none [(0,2),(2,2),(1,0),(3,2),(4,0),(5,2),(6,2),(7,2),(8,2),(9,2),(11,2),(12,2),(14,2),(10,0),(13,0),(15,2),(16,0),(17,2),(18,2)] [] (by kernel_rfl) (by kernel_rfl) λw158 S157=>Jd3 R U191 R Z29<|Jn 1 R ?_
 have f159:=f67.stp (T7 S73 S116 S126 S133 S139 S152 S157) R R
 refine Jg R (Jc2 I29 R R<|hvC (f159.ld 4 R R) R)<|Ob h λx68 hx68 h=>Jf R (Jf2 f153.rdc hx68 U29 Z2 R R hn154 R) ?_
 have f160:=f153.stp S157 R R
 refine Jg R (Jc2 I2 R R<|hvC (f160.rdc.gInt hx68) R)<|Jn 2 R<|Ob h λp83 h hK161=>Ju1 [(7,2),(8,2),(9,2),(11,2),(12,2),(14,2),(10,0),(13,0),(15,2),(16,0),(17,2),(18,2)] [] (λL w'=>L=[(2,.pointer (some ⟨b2,0,none⟩)),(4,.pointer (some ⟨b4,0,none⟩)),(6,.slice aa x19.length ab),(7,.pointer (some ⟨b7,0,none⟩)),(9,.slice ao x56.length am),(10,.slice an x58.length al),(11,vi v11),(83,.bool p83)]/\∃κ',Stp [] K151 w158 κ' w') (Cl.refl _ _ _) ?_ ?_
 revert h
 cases ht162:decide (0<=x68)
 have S002:=(T10 S53 S63 S66 S73 S116 S126 S133 S139 S152 S157)
 refine JF λh=>Jn 2 R<|Ob h λx74 hx74 h=>Jc3 R f120.rdc hx74 U29 Z2<|Jd3 R U108 R Z104<|Jd3 R U104 R Z29<|Jn 1 R<|Jg R (Jc2 I2 R R<|hvC ((f120.stp (T5 S126 S133 S139 S152 S157) R R).rdc.gInt hx74) R)<|Jg R (Jc2 I29 R R<|hvC ((f40.stp S002 R R).ld 0 R R) R)<|Ob h λx80 hx80 h=>Jc3 R f41 hx80 U29 Z2<|Jg R (Jc2 I2 R R<|hvC ((f41.stp S002 R R).gInt hx80) R)<|Jn 2 R ?_
 cases h
 exact Jv1 _ (Cl.refl _ _ _) ⟨R,_,Jj3⟩<|KM R
 refine JT λh=>Jn 6 R<|Je1 R R R R<|Je1 R R R R<|Jn 1 R<|Je1 R R R R<|Jn 2 R ?_
 cases h
 exact Jv1 _ (Cl.refl _ _ _) ⟨R,_,Jj3⟩<|KM R
 rintro _ w166 _ ⟨rfl,K167,S168⟩
 have h:=hK161
 refine Jt1<|Jd ?_
 revert h
 cases ht169:p83
 refine JF λh=>Jy R<|Js<|Jp<|Je3 R<|Jq<|Jg3 [2,2,2,1,2] 2 R<|Ob h λx87 hx87 h=>Jc3 R f120.rdc hx87 U29 Z2<|Jb3 R I2 ((f120.stp (T6 S126 S133 S139 S152 S157 S168) R R).rdc.gInt hx87)<|Jb 1 R<|Ob h λq7 h hK172=>Jx1 (λL w'=>∃κ' ap aq,L=[(2,.pointer (some ⟨b2,0,none⟩)),(4,.pointer (some ⟨b4,0,none⟩)),(6,.slice aa x19.length ab),(7,.pointer (some ⟨b7,0,none⟩)),(9,.slice ao x56.length am),(10,.slice an x58.length al),(11,vi v11),(12,.slice ap q7.length aq)]/\Stp [] K167 w166 κ' w'/\Rd Rp.bool κ' w' 0 ap aq q7) ?_ ?_
 revert h
 cases ht177:(x87==1)
 refine JF λh=>Jy R<|Js ?_
 cases h
 exact Jw1 _ ⟨K167,ao,am,R,Jj3,((Sl.st z134 ((f114.mx ie m117 R (R:17+2=19)).stp S126 R R).rdc).stp (T4 S139 S152 S157 S168) R R)⟩<|KM R
 refine JT λh=>Jx R<|Jf3 R ?_
 cases h
 exact Jw1 _ ⟨K167,an,al,R,Jj3,((Sl.st z140 ((f124.mx ie m127 R (R:20+2=22)).stp S133 R R).rdc).stp (T3 S152 S157 S168) R R)⟩<|KM R
 rintro _ w173 ⟨K174,ap,aq,rfl,S175,f176⟩
 have h:=hK172
 refine Jp<|Js1 (κ:=K174) [16] none [(0,2),(2,2),(4,2),(5,2),(1,0),(3,0),(6,1),(7,2),(8,1)] [] (by kernel_rfl) (by kernel_rfl) λw181 S180=>Jd3 R U191 R Z29<|Jn 3 R ?_
 have f182:=f159.stp (T3 S168 S175 S180) R R
 have S003:=(T12 S63 S66 S73 S116 S126 S133 S139 S152 S157 S168 S175 S180)
 refine Jg R (Jc2 I29 R R<|hvC (f182.ld 4 R R) R)<|Jg R (Jd2 (cs:=[.slice au x21.owner.length ay,.slice ax x21.prio.length ar,.slice az x21.next.length aw,.slice av x21.prev.length aA,.slice ac x21.pick.length ad]) I191 Z191 R R R<|haC f182.cells R)<|Ob h λx97 hx97 h=>Jh R R R C177 (Ret.cast (by simp only[hn154,List.cons_append,List.nil_append])<|sT (κ:=λb=>mp [(15,2)] 0<|K174 b) (p0:=(⟨x21.owner,x21.prio,x21.next,x21.prev,s4⟩:l7Game)) (Jl2 ((f47.mx z55).stp S003 R R) (mp [(15,2)] 0) R R) (Jl2 ((f48.mx z55).stp S003 R R) (mp [(15,2)] 0) R R) (Jl2 ((f49.mx z55).stp S003 R R) (mp [(15,2)] 0) R R) (Jl2 ((f50.mx (cD (bD _) _) m54 R (R:9+5=14)).stp S003 R R).rdc (mp [(15,2)] 0) R R) ((f160.stp (T3 S168 S175 S180) R R).map (mp [(15,2)] 0) R R) (Jl2 (f176.stp S180 R R) (mp [(15,2)] 0) R R) hx97) ?_
 rintro _ w189 ⟨k190,rfl,e191,f192,hn193⟩
 obtain⟨K194,S195,m196⟩:=Ji e191 23 R
 refine⟨(S195.cl R),?_⟩
 have f198:=f192.mx (bD _) m196 R (R:23+2=25)
 refine Ob h λx98 hx98 h=>Jf R (Jf2 f198.rdc hx98 U29 Z2 R R (hn154.trans hn193) R)<|Ob h λy305 hy305 h=>Jk1 (κ:=K194) (E:=E6) 25 [] R R R R R R R R Z2 R R R R f198 hy305 λw199 K200 S201 f202=>⟨((S195.tr S201).cl R),?_⟩
 have hn203:x21.pick.length=y305.length:=(hn154.trans hn193).trans (Jt2 hy305).2.2.2.symm
 refine Jt1<|Jo<|Jz<|Jp<|Jf3 R ?_
 have hw142:sh .i64 (v11+1)=v11+1:=wr1 hj142 (Jm2 hc142) hN142
 rw[hw142]
 have hc142:=Jm2 hc142
 cases h
 exact Jz1 λa ha=>⟨k,_,Ja3 _,⟨(λb=>ren [(25,15)]<|K200 b),v11+1,y305,R,(Jy2 ((T7 S152 S157 S168 S175 S180 S195 S201).wk R) [(25,15)] R),(f202.map (ren [(25,15)]) R R),hn203,by omega,by omega,hk156⟩,(ha.mm R)⟩
 refine JT λh=>Jx R<|Jc1<|Jt<|Jb1<|Jp<|Jf3 R ?_
 have hw142:sh .i64 (v11+1)=v11+1:=wr1 hj142 (Jm2 hc142) hN142
 rw[hw142]
 have hc142:=Jm2 hc142
 cases h
 exact Jz1 λa ha=>⟨k,_,Ja3 _,⟨K167,v11+1,s4,R,(T3 S152 S157 S168).wk R,(f160.stp S168 R R),hn154,by omega,by omega,hk156⟩,(ha.mm R)⟩
 rintro _ w145 ⟨K146,s6,rfl,S147,f148,hn149,rfl⟩
 have h:=yI hK143
 refine Jp<|Jg3 [2,2,1,2,1,2] 1 R<|Jd3 R U191 R Z29<|Jb3 R I29 ((f67.stp (T6 S73 S116 S126 S133 S139 S147) R R).ld 4 R R)<|Jf R (bG (parts:=[(0,.tmp 99),(1,.tmp 101)]) (cells:=[.slice aa x19.length ab,.slice ac x21.pick.length ad]) R R (by kernel_rfl))<|Jj1 (κ:=K146) 3 (vc:=[.slice aa x19.length ab,.slice ac x21.pick.length ad]) R R R R R R R Z113 R R (f8.stp (T11 S18 S36 S53 S63 S66 S73 S116 S126 S133 S139 S147) R R) R λw206 S207 f208=>Tv<|Jb 1 R<|Ju<|Ja2 (l:=[.cell 4 113,.tmp 5]) V126 (bF R f208 I113 Z113 R<|Jp2 R R) R ?_
 cases h
 exact⟨(λb=>ren [(8,2),(15,3)]<|K146 b),aa,ab,ac,ad,(by simp only[hn149]),((hE.stp (T14 S3 S7 S18 S36 S53 S63 S66 S73 S116 S126 S133 S139 S147 S207) R R).map (ren [(8,2),(15,3)]) R R),((f120.stp (T5 S126 S133 S139 S147 S207) R R).map (ren [(8,2),(15,3)]) R R),((f148.stp S207 R R).map (ren [(8,2),(15,3)]) R R)⟩
 refine JT λh=>Jx R<|Je [2,1,2] R<|Jf R (bG (parts:=[]) (cells:=[.slice none 0 0,.slice none 0 0]) R R (by kernel_rfl))<|Jj1 (κ:=K17) 3 (vc:=[.slice none 0 0,.slice none 0 0]) R R R R R R R Z113 R R (f8.stp S18 R R) R λw23 S24 f25=>Tv<|Jb 1 R<|Ju<|Jw<|Ja2 (l:=[.cell 4 113,.tmp 5]) V126 (bF R f25 I113 Z113 R<|Jp2 R R) R ?_
 cases h
 exact⟨K17,none,0,none,0,R,(hE.stp (T4 S3 S7 S18 S24) R R),Ow.nil,Ow.nil⟩
theorem qu {p0:Sig}{aa ac ab ad}{p1:Det}{p2:Int}{p3:Int}(g1_0:Rd (Rp.sl (Rp.int .i64)) κ w 0 aa ac p1.Next) (g1_1:Rd Pair.rp κ w 0 ab ad p1.Pairs){r:Int}(h:jT p0 p1 p2 p3=some r):Ret Tryz.prog 145 [.agg #[vi p0.In,vi p0.Out],.agg #[.slice aa p1.Next.length ac,.slice ab p1.Pairs.length ad],vi p2,vi p3] w (Pvi κ w r):=by
 unfold jT at h
 refine Jk3 κ F145 R N145 R λhE=>Je [1,1,2] R<|Jf1 (κ:=κ) 2 R R R R R R R λb4 w1 K2 S3 f4=>Tv<|Jf1 (κ:=K2) 3 R R R R R R R λb5 w5 K6 S7 f8=>Tv<|Jb 1 R<|Je [2,1,2,2] R<|Jd3 R U100 R Z26<|Jb3 R I26 (f8.ld 0 R R)<|Jn3 R U26 R R<|Jb 1 R<|Jq<|Je [1,1,1,2,2,2,2,2,1,2,2,2,2,1,1,2,1,2,2] R ?_
 have f9:=f4.stp S7 R R
 refine Jl tv R R R R (Jd2 (cs:=[vi p0.In,vi p0.Out]) I25 Z25 R R R<|haE f9.cells)<|Jl tv R R R R (Jd2 (cs:=[.slice aa p1.Next.length ac,.slice ab p1.Pairs.length ad]) I100 Z100 R R R<|haE f8.cells)<|Ob h λx15 hx15 h=>Jh R R R C117 (j7 (κ:=Mk K6) (p0:=p0) (p1:=p1) (Ji3<|g1_0.stp (S3.tr S7) R R) (Ji3<|g1_1.stp (S3.tr S7) R R) hx15) ?_
 rintro _ w12 ⟨k13,rfl,e14⟩
 obtain⟨K15,S16,m17⟩:=Ji e14 4 R
 refine Tv<|Jn 2 R<|Ob h λp23 h hK19=>Ju1 [(5,2),(6,2),(7,2),(8,1),(9,2),(10,2)] [(11,2),(12,2),(13,1),(14,1),(15,2),(16,1),(17,2),(18,2)] (λL w'=>L=[(2,vi p2),(3,vi p3),(4,.pointer (some ⟨b4,0,none⟩)),(9,vi (p1.Next.length:Int)),(23,.bool p23)]/\∃κ',Stp [] K15 w12 κ' w') tv ?_ ?_
 revert h
 cases ht20:(!x15)
 refine JF λh=>Jn 3 R<|Ob h λx21 hx21 h=>Jh R R R C57 (cu (κ:=Mk K15) hx21) ?_
 rintro _ w21 ⟨k22,rfl,e23⟩
 obtain⟨K24,S25,m26⟩:=Ji e23 6 R
 refine Tv<|Jn 2 R ?_
 cases h
 exact Jv1 _ tv ⟨R,_,S25.wk R⟩<|KM R
 refine JT λh=>Jn 3 R<|Jd1 R R R R<|Jn 2 R ?_
 cases h
 exact Jv1 _ tv ⟨R,_,Jj3⟩<|KM R
 rintro _ w28 _ ⟨rfl,K29,S30⟩
 have h:=hK19
 refine Jn 1 R<|Ob h λp31 h hK31=>Ju1 [(12,2),(13,1),(14,1),(15,2),(16,1),(17,2),(18,2)] [] (λL w'=>L=[(2,vi p2),(3,vi p3),(4,.pointer (some ⟨b4,0,none⟩)),(9,vi (p1.Next.length:Int)),(31,.bool p31)]/\∃κ',Stp [] K29 w28 κ' w') tv ?_ ?_
 revert h
 cases ht32:p23
 refine JF λh=>Jn 1 R<|Jl tv R R R R (Jd2 (cs:=[vi p0.In,vi p0.Out]) I25 Z25 R R R<|haE (f9.stp (S16.tr S30) R R).cells)<|Ob h λx27 hx27 h=>Jh R R R C72 (dZ (κ:=Mk K29) (p0:=p0) hx27) ?_
 rintro _ w34 ⟨k35,rfl,e36⟩
 obtain⟨K37,S38,m39⟩:=Ji e36 6 R
 refine Tv<|Jn 1 R<|Ob h λx29 hx29 h=>Jh R R R C57 (cu (κ:=Mk K37) hx29) ?_
 rintro _ w41 ⟨k42,rfl,e43⟩
 obtain⟨K44,S45,m46⟩:=Ji e43 8 R
 refine Tv<|Jn 2 R ?_
 cases h
 exact Jv1 _ tv ⟨R,_,(S38.tr S45).wk R⟩<|KM R
 refine JT λh=>Jn 1 R<|Jd1 R R R R<|Jd1 R R R R<|Jn 1 R<|Jd1 R R R R<|Jn 2 R ?_
 cases h
 exact Jv1 _ tv ⟨R,_,Jj3⟩<|KM R
 rintro _ w48 _ ⟨rfl,K49,S50⟩
 have h:=hK31
 refine Jd ?_
 revert h
 cases ht51:p31
 refine JF λh=>Jy R<|Js<|Jp<|Jq<|Je3 R ?_
 revert h
 cases ht53:(p3==(-1))
 refine JF λh=>Jy R<|Js<|Jp<|Jg3 [2,2,1,1,2,2,2,2,2] 2 R<|Jl tv R R R R (Jd2 (cs:=[vi p0.In,vi p0.Out]) I25 Z25 R R R<|haE (f9.stp (T3 S16 S30 S50) R R).cells)<|Ob h λx38 hx38 h=>Jh R R R C72 (dZ (κ:=Mk K49) (p0:=p0) hx38) ?_
 rintro _ w56 ⟨k57,rfl,e58⟩
 obtain⟨K59,S60,m61⟩:=Ji e58 6 R
 refine Tv<|Jb 5 R<|Ju<|Ja2 (l:=[.tmp 8]) V145 (Jp2 R R) R ?_
 cases h
 exact⟨K59,R,(hE.stp (T6 S3 S7 S16 S30 S50 S60) R R)⟩
 refine JT λh=>Jx R<|Je3 R<|Ju<|Jw<|Ja2 (l:=[.tmp 8]) V145 (Jp2 R R) R ?_
 cases h
 exact⟨K49,R,(hE.stp (T5 S3 S7 S16 S30 S50) R R)⟩
 refine JT λh=>Jx R<|Je3 R<|Ju<|Jw<|Ja2 (l:=[.tmp 8]) V145 (Jp2 R R) R ?_
 cases h
 exact⟨K49,R,(hE.stp (T5 S3 S7 S16 S30 S50) R R)⟩
theorem pW {p0:Sig}{ak al am aj}{p1:Det}{p2:Int}{p3:Int}{p4:Int}(g1_0:Rd (Rp.sl (Rp.int .i64)) κ w 0 ak al p1.Next) (g1_1:Rd Pair.rp κ w 0 am aj p1.Pairs){r:(List Int)}(h:jm p0 p1 p2 p3 p4=some r):Ret Tryz.prog 146 [.agg #[vi p0.In,vi p0.Out],.agg #[.slice ak p1.Next.length al,.slice am p1.Pairs.length aj],vi p2,vi p3,vi p4] w (Pvs E6 2 κ w r):=by
 unfold jm at h
 refine Jk3 κ F146 R N146 R λhE=>Je [1,1,2] R<|Jf1 (κ:=κ) 2 R R R R R R R λb5 w1 K2 S3 f4=>Tv<|Jf1 (κ:=K2) 3 R R R R R R R λb6 w5 K6 S7 f8=>Tv<|Jb 1 R<|Je [1,2] R<|Jo1 (κ:=K6) (E:=E6) 4 R R R R R Y29 a8 R λai ae w9 K10 S11 f12=>Tv<|Jb 1 R<|Jq<|Je [1,1,1,2,2,2,2,1,2,2,1,2,2,2,2,1,1,2,1,2,2] R ?_
 have f13:=f4.stp (S7.tr S11) R R
 refine Jl tv R R R R (Jd2 (cs:=[vi p0.In,vi p0.Out]) I25 Z25 R R R<|haE f13.cells) ?_
 have f14:=f8.stp S11 R R
 refine Jl tv R R R R (Jd2 (cs:=[.slice ak p1.Next.length al,.slice am p1.Pairs.length aj]) I100 Z100 R R R<|haE f14.cells)<|Ob h λx16 hx16 h=>?_
 have f15:=g1_0.stp (T3 S3 S7 S11) R R
 refine Jh R R R C117 (j7 (κ:=Mk K10) (p0:=p0) (p1:=p1) (Ji3 f15) (Ji3<|g1_1.stp (T3 S3 S7 S11) R R) hx16) ?_
 rintro _ w17 ⟨k18,rfl,e19⟩
 obtain⟨K20,S21,m22⟩:=Ji e19 5 R
 refine Tv<|Jn 2 R<|Ob h λp26 h hK24=>Ju1 [(5,2),(6,2),(7,1),(8,2),(9,2),(10,1),(11,2),(12,2)] [(13,2),(14,2),(15,1),(16,1),(17,2),(18,1),(19,2),(20,2)] (λL w'=>L=[(2,vi p2),(3,vi p3),(4,vi p4),(5,.pointer (some ⟨b5,0,none⟩)),(6,.pointer (some ⟨b6,0,none⟩)),(11,.slice ai ([]:List Int).length ae),(26,.bool p26)]/\∃κ',Stp [] K20 w17 κ' w') tv ?_ ?_
 revert h
 cases ht25:(!x16)
 refine JF λh=>Jn 1 R<|Jd3 R U100 R Z26<|Jb3 R I26 ((f14.stp S21 R R).ld 0 R R)<|Jn3 R U26 R R<|Jn 1 R<|Ob h λx24 hx24 h=>Jh R R R C57 (cu (κ:=Mk K20) hx24) ?_
 rintro _ w27 ⟨k28,rfl,e29⟩
 obtain⟨K30,S31,m32⟩:=Ji e29 7 R
 refine Tv<|Jn 2 R ?_
 cases h
 exact Jv1 _ tv ⟨R,_,S31.wk R⟩<|KM R
 refine JT λh=>Jn 2 R<|Jd1 R R R R<|Jn 2 R<|Jd1 R R R R<|Jn 2 R ?_
 cases h
 exact Jv1 _ tv ⟨R,_,Jj3⟩<|KM R
 rintro _ w34 _ ⟨rfl,K35,S36⟩
 have h:=hK24
 refine Jn 1 R<|Ob h λp34 h hK37=>Ju1 [(14,2),(15,1),(16,1),(17,2),(18,1),(19,2),(20,2)] [] (λL w'=>L=[(2,vi p2),(3,vi p3),(4,vi p4),(5,.pointer (some ⟨b5,0,none⟩)),(6,.pointer (some ⟨b6,0,none⟩)),(11,.slice ai ([]:List Int).length ae),(34,.bool p34)]/\∃κ',Stp [] K35 w34 κ' w') tv ?_ ?_
 revert h
 cases ht38:p26
 refine JF λh=>Jn 1 R<|Jl tv R R R R (Jd2 (cs:=[vi p0.In,vi p0.Out]) I25 Z25 R R R<|haE (f13.stp (S21.tr S36) R R).cells)<|Ob h λx30 hx30 h=>Jh R R R C72 (dZ (κ:=Mk K35) (p0:=p0) hx30) ?_
 rintro _ w40 ⟨k41,rfl,e42⟩
 obtain⟨K43,S44,m45⟩:=Ji e42 7 R
 refine Tv<|Jn 1 R<|Ob h λx32 hx32 h=>Jh R R R C57 (cu (κ:=Mk K43) hx32) ?_
 rintro _ w47 ⟨k48,rfl,e49⟩
 obtain⟨K50,S51,m52⟩:=Ji e49 9 R
 refine Tv<|Jn 2 R ?_
 cases h
 exact Jv1 _ tv ⟨R,_,(S44.tr S51).wk R⟩<|KM R
 refine JT λh=>Jn 1 R<|Jd1 R R R R<|Jd1 R R R R<|Jn 1 R<|Jd1 R R R R<|Jn 2 R ?_
 cases h
 exact Jv1 _ tv ⟨R,_,Jj3⟩<|KM R
 rintro _ w54 _ ⟨rfl,K55,S56⟩
 have h:=hK37
 refine Jd ?_
 revert h
 cases ht57:p34
 refine JF λh=>Jy R<|Js<|Jp<|Jq<|Je3 R<|Ob h λq2 hq62 hK61=>?_
 clear h
 refine Jx1 (λL w'=>∃κ',∃s3:(List Int)×Int,∃ah ad,L=[(11,.slice ah s3.1.length ad)]/\Stp [4] K55 w54 κ' w'/\Oc E6 2 κ' w' 4 ah ad s3.1/\q2=yk s3) ?_ ?_
 refine Jv<|Jy1 (λk L w'=>∃κ',∃s1:(List Int)×Int,∃aa ab,L=[(2,vi p2),(3,vi p3),(4,vi p4),(5,.pointer (some ⟨b5,0,none⟩)),(6,.pointer (some ⟨b6,0,none⟩)),(11,.slice aa s1.1.length ab),(12,vi s1.2)]/\Stp [4] K55 w54 κ' w'/\Oc E6 2 κ' w' 4 aa ab s1.1/\bI (fi p0 p1 p2 p3 p4) k s1=some q2) ⟨_,_,⟨K55,((([]:List Int):(List Int)),(0:Int)),ai,ae,R,Jj3,(f12.stp (T3 S21 S36 S56) R R),hq62⟩,(KM R)⟩ ?_
 rintro k _ w67 ⟨K68,s1,aa,ab,rfl,S69,f70,h⟩
 rcases k with _ | k
 cases h
 obtain⟨o60,h,hk72⟩:=BI h;unfold fi at h
 refine Jq<|Jg3 [2,2,1,1,2] 1 R<|Jd3 R U25 R Z2 ?_
 have f73:=f13.stp (T4 S21 S36 S56 S69) R R
 refine Jb3 R I2 (f73.ld 1 R R)<|Ob h λx39 hx39 h=>Jh R R R C59 (cv (κ:=Mk K68) hx39) ?_
 rintro _ w74 ⟨k75,rfl,e76⟩
 obtain⟨K77,S78,m79⟩:=Ji e76 7 R
 refine Tv<|Jb 1 R ?_
 revert h
 cases ht81:decide (s1.2<x39)
 refine JF λh=>Jy R<|Jc1<|Jt<|Jt ?_
 cases h
 have h:=hk72
 refine Jb1 ?_
 cases h
 exact Jw1 _ ⟨K77,(s1.1,s1.2),aa,ab,R,(S69.tr S78).wk R,(f70.stp S78 R R),R⟩<|KM R
 refine JT λh=>Jx R<|Js<|Jp<|Jq<|Jv<|Jq<|Js1 (κ:=K77) [0,2,3] none [(0,2),(2,2),(6,2),(7,2),(11,2),(1,0),(3,2),(4,0),(5,0),(8,1),(9,2),(10,0),(12,2)] [] (by kernel_rfl) (by kernel_rfl) λw83 S82=>Jd3 R U100 R Z26<|Jn 4 R<|Jg R (Jc2 I26 R R<|hvC ((f14.stp (T6 S21 S36 S56 S69 S78 S82) R R).ld 0 R R) R)<|Ob h λx46 hx46 h=>Jc3 R f15 hx46 U26 Z29 ?_
 obtain⟨ax46,ux46,f86,hl87⟩:=(f15.stp (T6 S21 S36 S56 S69 S78 S82) R R).gSl hx46
 refine Jg R (Jc2 I29 R R<|hvC hl87 R)<|Jg R (Jd2 (cs:=[vi p0.In,vi p0.Out]) I25 Z25 R R R<|haC (f73.stp (S78.tr S82) R R).cells R)<|Ob h λx51 hx51 h=>Jh R R R C55 (iN (κ:=Mk K77) (p0:=p0) hx51) ?_
 rintro _ w89 ⟨k90,rfl,e91⟩
 obtain⟨K92,S93,m94⟩:=Ji e91 9 R
 refine⟨(S93.cl R),Ob h λx52 hx52 h=>Jc3 R f86 hx52 U29 Z2<|Jg R (Jc2 I2 R R<|hvC (f86.gInt hx52) R)<|Jn 1 R<|Jt1<|Jd<|Ob h λq4 h hK96=>Jx1 (λL w'=>∃κ' af ac,L=[(2,vi p2),(3,vi p3),(4,vi p4),(5,.pointer (some ⟨b5,0,none⟩)),(6,.pointer (some ⟨b6,0,none⟩)),(11,.slice af q4.length ac),(12,vi s1.2)]/\Stp [4] K92 w89 κ' w'/\Oc E6 2 κ' w' 4 af ac q4) ?_ ?_⟩
 revert h
 cases ht101:(x52==p4)
 refine JF λh=>Jy R<|Js ?_
 cases h
 exact Jw1 _ ⟨K92,aa,ab,R,Jj3,(f70.stp (T3 S78 S82 S93) R R)⟩<|KM R
 refine JT λh=>Jx R<|Jh3 [2,2,1,1,2] 2 R<|Jn1 (κ:=K92) (E:=E6) 11 [] (parts:=[(0,.tmp 57)]) (cells:=[vi s1.2]) (xs:=([s1.2]:List Int)) R R R R R R Y29 a8 R R R R R R R R R R ⟨[vi s1.2],[],Zl K92 w89 [],Zl K92 w89 [],R,Zl.sp (l1:=[]) (l2:=[]) R,Zl.sr (l1:=[]) (l2:=[]),R,R⟩ λap aq w102 K103 S104 f105=>Tv<|Ob h λx59 hx59 h=>Jm1 (κ:=K103) (E:=E6) 4 [] R R R R R R R R R Y29 a8 R R R R (f70.stp (T4 S78 S82 S93 S104) R R) (Sl.srcP (bM _) f105.rdc) bH hx59 R λao an w107 K108 S109 f110=>Tv<|Jc 1 R ?_
 cases h
 exact Jw1 _ ⟨K108,ao,an,R,(S104.tr S109).wk R,f110⟩<|KM R
 rintro _ w97 ⟨K98,af,ac,rfl,S99,f100⟩
 have h:=hK96
 refine Jz<|Jp<|Jf3 R ?_
 cases h
 exact Jz1 λa ha=>⟨k,_,Ja3 _,⟨K98,(q4,((IntKind.i64.wrap<|s1.2+1):Int)),af,ac,R,(T5 S69 S78 S82 S93 S99).wk R,f100,hk72⟩,(ha.mm R)⟩
 rintro _ w63 ⟨K64,s3,ah,ad,rfl,S65,f66,rfl⟩
 have h:=yI hK61
 refine Jp<|Je3 R<|Ju<|Ja2 (l:=[.tmp 10]) V146 (Jp2 R R) R ?_
 cases h
 exact⟨(λb=>ren [(4,2)]<|K64 b),ah,ad,R,((hE.stp (T7 S3 S7 S11 S21 S36 S56 S65) R R).map (ren [(4,2)]) R R),(f66.map (ren [(4,2)]) R R)⟩
 refine JT λh=>Jx R<|Je3 R<|Ju<|Jw<|Ja2 (l:=[.tmp 10]) V146 (Jp2 R R) R ?_
 cases h
 exact⟨(λb=>ren [(4,2)]<|K55 b),ai,ae,R,((hE.stp (T6 S3 S7 S11 S21 S36 S56) R R).map (ren [(4,2)]) R R),((f12.stp (T3 S21 S36 S56) R R).map (ren [(4,2)]) R R)⟩
theorem rB {p0:Sig}{av az aG aD}{p1:Det}{aN aL aJ aI aM aO}{p2:Parity}{a3 u3}{p3:(List Place)}{a4 u4}{p4:(List Int)}(g1_0:Rd (Rp.sl (Rp.int .i64)) κ w 0 av az p1.Next) (g1_1:Rd Pair.rp κ w 0 aG aD p1.Pairs) (g2_0_0:Rd (Rp.int .i64) κ w 0 aN aL p2.Arena.Owner) (g2_0_1:Rd (Rp.sl (Rp.int .i64)) κ w 0 aJ aI p2.Arena.Next) (g2_1:Rd (Rp.int .i64) κ w 0 aM aO p2.Prio) (g3:Rd Place.rp κ w 0 a3 u3 p3) (g4:Rd (Rp.int .i64) κ w 0 a4 u4 p4){r:Machine×Bool}(h:kK p0 p1 p2 p3 p4=some r):Ret Tryz.prog 89 [.agg #[vi p0.In,vi p0.Out],.agg #[.slice av p1.Next.length az,.slice aG p1.Pairs.length aD],.agg #[.slice aN p2.Arena.Owner.length aL,.slice aJ p2.Arena.Next.length aI,.slice aM p2.Prio.length aO],.slice a3 p3.length u3,.slice a4 p4.length u4] w (λv w'=>∃(κ':Col) (ra0:Option Addr) (ru0:Nat) (ra1:Option Addr) (ru1:Nat),v= .tuple #[.agg #[.slice ra0 r.1.Next.length ru0,.slice ra1 r.1.Out.length ru1],.bool r.2]/\Ent κ w κ' w'/\Oc (Ep.own E6 2) 29 κ' w' 2 ra0 ru0 r.1.Next/\Oc (Ep.own E6 2) 29 κ' w' 3 ra1 ru1 r.1.Out):=by
 unfold kK at h
 refine Jk3 κ F89 R N89 R λhE=>Je [1,1,1,1,2] R<|Jf1 (κ:=κ) 2 R R R R R R R λb5 w1 K2 S3 f4=>Tv<|Jf1 (κ:=K2) 3 R R R R R R R λb6 w5 K6 S7 f8=>Tv<|Jf1 (κ:=K6) 4 R R R R R R R λb7 w9 K10 S11 f12=>Tv<|Jg1 (κ:=K10) 5 R R R R R X28 R λb10 w13 K14 S15 f16=>Tv<|Jb 1 R<|Je [1,2] R<|Jn1 (κ:=K14) (E:=E6) 6 [] (parts:=[(0,.const (vi 0))]) (cells:=[vi 0]) (xs:=([0]:List Int)) R R R R R R Y29 a8 R R R R R R R R R R ⟨[vi 0],[],Zl K14 w13 [],Zl K14 w13 [],R,Zl.sp (l1:=[]) (l2:=[]) R,Zl.sr (l1:=[]) (l2:=[]),R,R⟩ λaY aZ w17 K18 S19 f20=>Tv<|Jb 1 R<|Je [2,1,1] R<|Jf R (bG (parts:=[]) (cells:=[.slice none 0 0,.slice none 0 0]) R R (by kernel_rfl))<|Jg1 (κ:=K18) 7 R R R R R X28 R λb13 w21 K22 S23 f24=>Tv<|Jj1 (κ:=K22) 7 (vc:=[.slice none 0 0,.slice none 0 0]) R R R R R R R Z28 R R f24 R λw25 S26 f27=>Tv<|Jd<|Jq<|Je3 R<|Ob h λq2 hq30 hK29=>?_
 clear h
 refine Jx1 (λL w'=>∃κ',∃s3:(List Int)×Int×(List<|List Int)×(List<|List Int),∃aQ aP ac aa ab ad,L=[(10,.pointer (some ⟨b10,0,none⟩)),(13,.pointer (some ⟨b13,0,none⟩))]/\Stp [6,7,8,9,10,11,12,13] K22 w25 κ' w'/\Oc E6 2 κ' w' 6 aQ aP s3.1/\Oc (Ep.own E6 2) 29 κ' w' 8 ac aa s3.2.2.1/\Oc (Ep.own E6 2) 29 κ' w' 9 ab ad s3.2.2.2/\Bc κ' w' 7 b13 28 [.slice ac s3.2.2.1.length aa,.slice ab s3.2.2.2.length ad]/\q2=yk s3) ?_ ?_
 refine Jv<|Jy1 (λk L w'=>∃κ',∃s1:(List Int)×Int×(List<|List Int)×(List<|List Int),∃ae al aE aw ar af,L=[(3,.slice a3 p3.length u3),(4,.slice a4 p4.length u4),(5,.pointer (some ⟨b5,0,none⟩)),(6,.pointer (some ⟨b6,0,none⟩)),(7,.pointer (some ⟨b7,0,none⟩)),(10,.pointer (some ⟨b10,0,none⟩)),(12,.slice ae s1.1.length al),(13,.pointer (some ⟨b13,0,none⟩)),(14,vi s1.2.1)]/\Stp [6,7,8,9,10,11,12,13] K22 w25 κ' w'/\Oc E6 2 κ' w' 6 ae al s1.1/\Oc (Ep.own E6 2) 29 κ' w' 8 aE aw s1.2.2.1/\Oc (Ep.own E6 2) 29 κ' w' 9 ar af s1.2.2.2/\Bc κ' w' 7 b13 28 [.slice aE s1.2.2.1.length aw,.slice ar s1.2.2.2.length af]/\bI (fx p0 p1 p2 p3 p4) k s1=some q2) ⟨_,_,⟨K22,((([0]:List Int):(List Int)),(0:Int),(([]:List (List Int)):(List<|List Int)),(([]:List (List Int)):(List<|List Int))),aY,aZ,none,0,none,0,R,Jj3,(f20.stp (S23.tr S26) R R),Ow.nil,Ow.nil,f27,hq30⟩,(KM R)⟩ ?_
 rintro k _ w38 ⟨K39,s1,ae,al,aE,aw,ar,af,rfl,S40,f41,f42,f43,f44,h⟩
 rcases k with _ | k
 cases h
 obtain⟨o28,h,hk46⟩:=BI h;unfold fx at h
 refine Jq<|Jg3 [2,2,2,2] 2 R<|Jn3 R U29 R R<|Jb 1 R ?_
 revert h
 cases ht47:decide (s1.2.1<(s1.1.length:Int))
 refine JF λh=>Jy R<|Jc1<|Jt<|Jt ?_
 cases h
 have h:=hk46
 refine Jb1 ?_
 cases h
 exact Jw1 _ ⟨K39,(s1.1,s1.2.1,s1.2.2.1,s1.2.2.2),ae,al,aE,aw,ar,af,R,S40.wk R,f41,f42,f43,f44,R⟩<|KM R
 refine JT λh=>Jx R<|Js<|Jp<|Jq<|Jv<|Jg3 [2,2,2,2,1,2,2,1,2] 3 R<|Ob h λx31 hx31 h=>Jc3 R f41.rdc hx31 U29 Z2<|Jb3 R I2 (f41.rdc.gInt hx31)<|Ob h λx33 hx33 h=>Jc3 R g3 hx33 U109 Z116<|Jd3 R U116 R Z2 ?_
 have f48:=g3.stp (T8 S3 S7 S11 S15 S19 S23 S26 S40) R R
 obtain⟨cse49,hre49,hle49⟩:=(f48).gSt hx33
 obtain⟨ae49_0,ue49_0,rfl,fe49_0⟩:=Place.un hre49
 refine Jb3 R I2 (λw' hw'=>hle49 w' hw' 0 _ R)<|Jb 1 R<|Je [1,2] R<|Jo1 (κ:=K39) (E:=E6) 10 R R R R R Y29 a8 R λaV aR w50 K51 S52 f53=>Tv<|Jb 1 R<|Je [1,2] R<|Jo1 (κ:=K51) (E:=E6) 11 R R R R R Y29 a8 R λbb ba w54 K55 S56 f57=>Tv<|Jb 1 R<|Jq<|Je3 R<|Ob h λq5 hq60 hK59=>?_
 clear h
 refine Jx1 (λL w'=>∃κ',∃s6:(List Int)×(List Int)×(List Int)×Int,∃aA aF ak ah ai aq,L=[(3,.slice a3 p3.length u3),(4,.slice a4 p4.length u4),(5,.pointer (some ⟨b5,0,none⟩)),(6,.pointer (some ⟨b6,0,none⟩)),(7,.pointer (some ⟨b7,0,none⟩)),(10,.pointer (some ⟨b10,0,none⟩)),(12,.slice aA s6.1.length aF),(13,.pointer (some ⟨b13,0,none⟩)),(14,vi s1.2.1),(16,.slice ak s6.2.1.length ah),(17,.slice ai s6.2.2.1.length aq)]/\Stp [6,10,11] K55 w54 κ' w'/\Oc E6 2 κ' w' 6 aA aF s6.1/\Oc E6 2 κ' w' 10 ak ah s6.2.1/\Oc E6 2 κ' w' 11 ai aq s6.2.2.1/\q5=yk s6) ?_ ?_
 refine Jv<|Jy1 (λk L w'=>∃κ',∃s4:(List Int)×(List Int)×(List Int)×Int,∃am aj ao au an ap,L=[(3,.slice a3 p3.length u3),(4,.slice a4 p4.length u4),(5,.pointer (some ⟨b5,0,none⟩)),(6,.pointer (some ⟨b6,0,none⟩)),(7,.pointer (some ⟨b7,0,none⟩)),(10,.pointer (some ⟨b10,0,none⟩)),(12,.slice am s4.1.length aj),(13,.pointer (some ⟨b13,0,none⟩)),(14,vi s1.2.1),(15,vi x33.At),(16,.slice ao s4.2.1.length au),(17,.slice an s4.2.2.1.length ap),(18,vi s4.2.2.2)]/\Stp [6,10,11] K55 w54 κ' w'/\Oc E6 2 κ' w' 6 am aj s4.1/\Oc E6 2 κ' w' 10 ao au s4.2.1/\Oc E6 2 κ' w' 11 an ap s4.2.2.1/\bI (ey p0 p1 p2 p3 p4 s1 x33) k s4=some q5) ⟨_,_,⟨K55,(s1.1,(([]:List Int):(List Int)),(([]:List Int):(List Int)),(0:Int)),ae,al,aV,aR,bb,ba,R,Jj3,(f41.stp (S52.tr S56) R R),(f53.stp S56 R R),f57,hq60⟩,(KM R)⟩ ?_
 rintro k _ w67 ⟨K68,s4,am,aj,ao,au,an,ap,rfl,S69,f70,f71,f72,h⟩
 rcases k with _ | k
 cases h
 obtain⟨o58,h,hk75⟩:=BI h;unfold ey at h
 refine Jq<|Jg3 [2,1,1,2] 1 R ?_
 have f76:=f4.stp (T10 S7 S11 S15 S19 S23 S26 S40 S52 S56 S69) R R
 refine Jl tv R R R R (Jd2 (cs:=[vi p0.In,vi p0.Out]) I25 Z25 R R R<|haE f76.cells)<|Ob h λx40 hx40 h=>Jh R R R C103 (mt (κ:=Mk K68) (p0:=p0) hx40) ?_
 rintro _ w77 ⟨k78,rfl,e79⟩
 obtain⟨K80,S81,m82⟩:=Ji e79 12 R
 refine Tv<|Jb 1 R ?_
 revert h
 cases ht84:decide (s4.2.2.2<x40)
 refine JF λh=>Jy R<|Jc1<|Jt<|Jt ?_
 cases h
 have h:=hk75
 refine Jb1 ?_
 cases h
 exact Jw1 _ ⟨K80,(s4.1,s4.2.1,s4.2.2.1,s4.2.2.2),am,aj,ao,au,an,ap,R,(S69.tr S81).wk R,(f70.stp S81 R R),(f71.stp S81 R R),(f72.stp S81 R R),R⟩<|KM R
 refine JT λh=>Jx R<|Js<|Jp<|Jq<|Jv<|Jq<|Js1 (κ:=K80) [0,2,3,4,6] none [(0,2),(2,2),(3,2),(4,2),(5,2),(9,2),(10,2),(1,0),(6,0),(7,0),(8,0),(11,1),(12,1),(13,2),(14,0),(15,2)] [] (by kernel_rfl) (by kernel_rfl) λw86 S85=>Jn 4 R<|Ob h λx49 hx49 h=>Jc3 R f70.rdc hx49 U29 Z2<|Jn 2 R<|Jg R (Jd2 (cs:=[.slice aN p2.Arena.Owner.length aL,.slice aJ p2.Arena.Next.length aI,.slice aM p2.Prio.length aO]) I108 Z108 R R R<|haC (f12.stp (T10 S15 S19 S23 S26 S40 S52 S56 S69 S81 S85) R R).cells R) ?_
 have f88:=f70.stp (S81.tr S85) R R
 refine Jg R (Jc2 I2 R R<|hvC (f88.rdc.gInt hx49) R) ?_
 have f89:=f76.stp (S81.tr S85) R R
 refine Jg R (Jd2 (cs:=[vi p0.In,vi p0.Out]) I25 Z25 R R R<|haC f89.cells R) ?_
 have f90:=f8.stp (T11 S11 S15 S19 S23 S26 S40 S52 S56 S69 S81 S85) R R
 refine Jg R (Jd2 (cs:=[.slice av p1.Next.length az,.slice aG p1.Pairs.length aD]) I100 Z100 R R R<|haC f90.cells R)<|Ob h λx55 hx55 h=>?_
 have f91:=g1_0.stp (T13 S3 S7 S11 S15 S19 S23 S26 S40 S52 S56 S69 S81 S85) R R
 have f92:=g1_1.stp (T13 S3 S7 S11 S15 S19 S23 S26 S40 S52 S56 S69 S81 S85) R R
 refine Jh R R R C145 (qu (κ:=Mk K80) (p0:=p0) (p1:=p1) (Ji3 f91) (Ji3 f92) hx55) ?_
 rintro _ w93 ⟨k94,rfl,e95⟩
 obtain⟨K96,S97,m98⟩:=Ji e95 14 R
 refine⟨(S97.cl R),Ob h λx56 hx56 h=>?_⟩
 have f103:=f48.stp (T6 S52 S56 S69 S81 S85 S97) R R
 have S001:=(T14 S3 S7 S11 S15 S19 S23 S26 S40 S52 S56 S69 S81 S85 S97)
 refine Jh R R R C144 (tR (κ:=Mk K96) (p0:=p2) (Ji3<|g2_0_0.stp S001 R R) (Ji3<|g2_0_1.stp S001 R R) (Ji3<|g2_1.stp S001 R R) (Ji3 f103) hx56) ?_
 rintro _ w104 ⟨k105,rfl,e106⟩
 obtain⟨K107,S108,m109⟩:=Ji e106 16 R
 refine⟨((S97.tr S108).cl R),Ob h λx57 hx57 h=>Jc3 R g4 hx57 U29 Z2<|Jg R (Jc2 I2 R R<|hvC ((g4.stp (T13 S3 S7 S11 S15 S19 S23 S26 S40 S52 S56 S69 S81 S85) R R).gInt hx57) R)<|Jn 1 R<|Jt1<|Jd<|Jq<|Jg3 [2,2,1,2] 2 R<|Ob h λx61 hx61 h=>?_⟩
 have f112:=f88.stp (S97.tr S108) R R
 refine Jh R R R C75 (lc (κ:=Mk K107) (Ji3 f112.rdc) hx61) ?_
 rintro _ w113 ⟨k114,rfl,e115⟩
 obtain⟨K116,S117,m118⟩:=Ji e115 18 R
 refine Tv<|Jb 1 R<|Ob h λq7 h hK120=>Jx1 (λL w'=>∃κ' ay aC,L=[(3,.slice a3 p3.length u3),(4,.slice a4 p4.length u4),(5,.pointer (some ⟨b5,0,none⟩)),(6,.pointer (some ⟨b6,0,none⟩)),(7,.pointer (some ⟨b7,0,none⟩)),(10,.pointer (some ⟨b10,0,none⟩)),(12,.slice ay q7.length aC),(13,.pointer (some ⟨b13,0,none⟩)),(14,vi s1.2.1),(15,vi x33.At),(16,.slice ao s4.2.1.length au),(17,.slice an s4.2.2.1.length ap),(18,vi s4.2.2.2),(19,vi x57)]/\Stp [6] K116 w113 κ' w'/\Oc E6 2 κ' w' 6 ay aC q7) ?_ ?_
 revert h
 cases ht125:decide (x61<0)
 refine JF λh=>Jy R<|Js ?_
 cases h
 exact Jw1 _ ⟨K116,am,aj,R,Jj3,(f112.stp S117 R R)⟩<|KM R
 refine JT λh=>Jx R<|Jh3 [2,2,1,1,2] 2 R<|Jn1 (κ:=K116) (E:=E6) 20 [] (parts:=[(0,.tmp 64)]) (cells:=[vi x57]) (xs:=([x57]:List Int)) R R R R R R Y29 a8 R R R R R R R R R R ⟨[vi x57],[],Zl K116 w113 [],Zl K116 w113 [],R,Zl.sp (l1:=[]) (l2:=[]) R,Zl.sr (l1:=[]) (l2:=[]),R,R⟩ λbo be w126 K127 S128 f129=>Tv<|Ob h λx66 hx66 h=>Jm1 (κ:=K127) (E:=E6) 6 [] R R R R R R R R R Y29 a8 R R R R (f112.stp (S117.tr S128) R R) (Sl.srcP (bM _) f129.rdc) bH hx66 R λbc aX w131 K132 S133 f134=>Tv<|Jc 1 R ?_
 cases h
 exact Jw1 _ ⟨K132,bc,aX,R,(S128.tr S133).wk R,f134⟩<|KM R
 rintro _ w121 ⟨K122,ay,aC,rfl,S123,f124⟩
 have h:=hK120
 refine Jp<|Jg3 [2,2,2,1,1,1,2] 3 R<|Ob h λx70 hx70 h=>Jh R R R C75 (lc (κ:=Mk K122) (Ji3 f124.rdc) hx70) ?_
 rintro _ w136 ⟨k137,rfl,e138⟩
 obtain⟨K139,S140,m141⟩:=Ji e138 20 R
 have S002:=(T5 S97 S108 S117 S123 S140)
 refine Tv<|Jn1 (κ:=K139) (E:=E6) 22 [] (parts:=[(0,.tmp 70)]) (cells:=[vi x70]) (xs:=([x70]:List Int)) R R R R R R Y29 a8 R R R R R R R R R R ⟨[vi x70],[],Zl K139 w136 [],Zl K139 w136 [],R,Zl.sp (l1:=[]) (l2:=[]) R,Zl.sr (l1:=[]) (l2:=[]),R,R⟩ λbg bd w143 K144 S145 f146=>Tv<|Ob h λx72 hx72 h=>Jm1 (κ:=K144) (E:=E6) 10 [] R R R R R R R R R Y29 a8 R R R R (f71.stp (T8 S81 S85 S97 S108 S117 S123 S140 S145) R R) (Sl.srcP (bM _) f146.rdc) bH hx72 R λaU aT w148 K149 S150 f151=>Tv<|Jb 1 R<|Js1 (κ:=K149) [0,2,3] none [(0,2),(3,2),(4,2),(5,2),(6,2),(7,2),(8,2),(1,0),(2,0),(9,0),(10,1),(11,2),(12,1),(13,1),(14,1),(15,2)] [] (by kernel_rfl) (by kernel_rfl) λw153 S152=>Jn 5 R<|Ob h λx80 hx80 h=>Jc3 R f103 hx80 U109 Z116<|Jd3 R U116 R Z2<|Jg R (Jd2 (cs:=[vi p0.In,vi p0.Out]) I25 Z25 R R R<|haC (f89.stp (T4 S002 S145 S150 S152) R R).cells R)<|Jg R (Jd2 (cs:=[.slice av p1.Next.length az,.slice aG p1.Pairs.length aD]) I100 Z100 R R R<|haC (f90.stp (T4 S002 S145 S150 S152) R R).cells R) ?_
 obtain⟨cse157,hre157,hle157⟩:=((f103.stp (T7 S108 S117 S123 S140 S145 S150 S152) R R)).gSt hx80
 obtain⟨ae157_0,ue157_0,rfl,fe157_0⟩:=Place.un hre157
 have S003:=(T8 S97 S108 S117 S123 S140 S145 S150 S152)
 refine Jg R (Jc2 I2 R R<|hvC (λw' hw'=>hle157 w' hw' 0 _ R) R)<|Ob h λx83 hx83 h=>Jh R R R C146 (pW (κ:=Mk K149) (p0:=p0) (p1:=p1) (Ji3<|f91.stp S003 R R) (Ji3<|f92.stp S003 R R) hx83) ?_
 rintro _ w160 ⟨k161,bn,bk,rfl,e162,f163⟩
 obtain⟨K164,S165,m166⟩:=Ji e162 23 R
 refine⟨(S165.cl R),?_⟩
 have f168:=f163.mx (bD _) m166 R (R:23+2=25)
 refine Ob h λx84 hx84 h=>Jc3 R f168.rdc hx84 U29 Z2<|Jl (S165.cl R) R R R R (Jc2 I2 R R<|hvE<|f168.rdc.gInt hx84)<|Jn1 (κ:=K164) (E:=E6) 26 [] (parts:=[(0,.tmp 85)]) (cells:=[vi x84]) (xs:=([x84]:List Int)) R R R R R R Y29 a8 R R R R R R R R R R ⟨[vi x84],[],Zl K164 w160 [],Zl K164 w160 [],R,Zl.sp (l1:=[]) (l2:=[]) R,Zl.sr (l1:=[]) (l2:=[]),R,R⟩ λbm bh w169 K170 S171 f172=>⟨((S165.tr S171).cl R),Ob h λx87 hx87 h=>Jm1 (κ:=K170) (E:=E6) 11 [] R R R R R R R R R Y29 a8 R R R R (f72.stp (T12 S81 S85 S97 S108 S117 S123 S140 S145 S150 S152 S165 S171) R R) (Sl.srcP (bM _) f172.rdc) bH hx87 R λaS aW w174 K175 S176 f177=>⟨((T3 S165 S171 S176).cl R),Jn 1 R<|Jt1<|Jo<|Jz<|Jp<|Jf3 R ?_⟩⟩
 cases h
 exact Jz1 λa ha=>⟨k,_,Ja3 _,⟨K175,(q7,x72,x87,((IntKind.i64.wrap<|s4.2.2.2+1):Int)),ay,aC,aU,aT,aS,aW,R,(T14 S69 S81 S85 S97 S108 S117 S123 S140 S145 S150 S152 S165 S171 S176).wk R,(f124.stp (T7 S140 S145 S150 S152 S165 S171 S176) R R),(f151.stp (T4 S152 S165 S171 S176) R R),f177,hk75⟩,(ha.mm R)⟩
 rintro _ w61 ⟨K62,s6,aA,aF,ak,ah,ai,aq,rfl,S63,f64,f65,f66,rfl⟩
 have h:=yI hK59
 refine Jp<|Jq<|Jg3 [2,2,2] 1 R<|Jn3 R U29 R R<|Jb 1 R ?_
 revert h
 cases ht183:decide (48<(s6.1.length:Int))
 refine JF λh=>Jy R<|Js<|Jp<|Je [2,1,2,1,1,2,1] R<|Jd3 R U28 R Z26 ?_
 have f189:=f44.stp (T3 S52 S56 S63) R R
 refine Jb3 R I26 (f189.ld 0 R R)<|Jn 1 R<|Jn1 (κ:=K62) (E:=(Ep.own E6 2)) 12 [10] (parts:=[(0,.tmp 94)]) (cells:=[.slice ak s6.2.1.length ah]) (xs:=([s6.2.1]:List (List Int))) R R R R R R Y26 bK R R R R R R R R R R ⟨[.slice ak s6.2.1.length ah],[],Zl K62 w61 [10],Zl K62 w61 [],R,Zl.sp (l1:=[10]) (l2:=[]) R,Zl.sr (l1:=[10]) (l2:=[]),⟨_,_,R,f65⟩,R⟩ λbf bj w190 K191 S192 f193=>Tv<|Ob h λx96 hx96 h=>Jm1 (κ:=K191) (E:=(Ep.own E6 2)) 8 [12] R R R R R R R R R Y26 bK R R R R (f42.stp (T4 S52 S56 S63 S192) R R) f193.src (dz R) hx96 R λaB ax w195 K196 S197 f198=>Tv<|Jd3 R U28 R Z26<|Ji1 (κ:=K196) 7 (off:=0) (vc:=[.slice aB x96.length ax]) (cs':=[.slice aB x96.length ax,.slice ar s1.2.2.2.length af]) R R R R R R R Z26 R R (f189.stp (S192.tr S197) R R) R R λw200 S201 f202=>Tv<|Jd<|Ja [2,1,2,1,1,2,1] R<|Jd3 R U28 R Z26<|Jb3 R I26 (f202.ld 1 R R)<|Jn 1 R<|Jn1 (κ:=K196) (E:=(Ep.own E6 2)) 13 [11] (parts:=[(0,.tmp 100)]) (cells:=[.slice ai s6.2.2.1.length aq]) (xs:=([s6.2.2.1]:List (List Int))) R R R R R R Y26 bK R R R R R R R R R R ⟨[.slice ai s6.2.2.1.length aq],[],Zl K196 w200 [11],Zl K196 w200 [],R,Zl.sp (l1:=[11]) (l2:=[]) R,Zl.sr (l1:=[11]) (l2:=[]),⟨_,_,R,(f66.stp (T3 S192 S197 S201) R R)⟩,R⟩ λbi bl w204 K205 S206 f207=>Tv<|Ob h λx102 hx102 h=>Jm1 (κ:=K205) (E:=(Ep.own E6 2)) 9 [13] R R R R R R R R R Y26 bK R R R R (f43.stp (T7 S52 S56 S63 S192 S197 S201 S206) R R) f207.src (dz R) hx102 R λaK aH w209 K210 S211 f212=>Tv<|Jd3 R U28 R Z26<|Ji1 (κ:=K210) 7 (off:=1) (vc:=[.slice aK x102.length aH]) (cs':=[.slice aB x96.length ax,.slice aK x102.length aH]) R R R R R R R Z26 R R (f202.stp (S206.tr S211) R R) R R λw214 S215 f216=>Tv<|Jo<|Jz<|Jp<|Jf3 R ?_
 cases h
 exact Jz1 λa ha=>⟨k,_,Ja3 _,⟨K210,(s6.1,((IntKind.i64.wrap<|s1.2.1+1):Int),x96,x102),aA,aF,aB,ax,aK,aH,R,(T10 S40 S52 S56 S63 S192 S197 S201 S206 S211 S215).wk R,(f64.stp (T6 S192 S197 S201 S206 S211 S215) R R),(f198.stp (T4 S201 S206 S211 S215) R R),(f212.stp S215 R R),f216,hk46⟩,(ha.mm R)⟩
 refine JT λh=>Jx R<|Je [2,1,2] R<|Jf R (bG (parts:=[]) (cells:=[.slice none 0 0,.slice none 0 0]) R R (by kernel_rfl))<|Jj1 (κ:=K62) 5 (vc:=[.slice none 0 0,.slice none 0 0]) R R R R R R R Z28 R R (f16.stp (T7 S19 S23 S26 S40 S52 S56 S63) R R) R λw185 S186 f187=>Tv<|Jb 1 R<|Ju<|Jw<|Ja1<|Jw<|Jw ?_
 cases h
 obtain rfl:=Option.some.inj hk46
 have h:=yL hK29
 refine Ja1<|Jq2<|Jw<|Ja2 (l:=[.cell 10 28,.tmp 11]) V89 (bF R f187 I28 Z28 R<|Jp2 R R) R ?_
 cases h
 exact⟨K62,none,0,none,0,R,(hE.stp (T12 S3 S7 S11 S15 S19 S23 S26 S40 S52 S56 S63 S186) R R),Ow.nil,Ow.nil⟩
 rintro _ w31 ⟨K32,s3,aQ,aP,ac,aa,ab,ad,rfl,S33,f34,f35,f36,f37,rfl⟩
 have h:=yI hK29
 refine Jp<|Je [1,1,2] R<|Jl tv R R R R (Jd2 (cs:=[.slice ac s3.2.2.1.length aa,.slice ab s3.2.2.2.length ad]) I28 Z28 R R R<|haE f37.cells)<|Jj1 (κ:=K32) 5 (vc:=[.slice ac s3.2.2.1.length aa,.slice ab s3.2.2.2.length ad]) R R R R R R R Z28 R R (f16.stp (T4 S19 S23 S26 S33) R R) R λw221 S222 f223=>Tv<|Jb 1 R<|Ju<|Ja2 (l:=[.cell 10 28,.tmp 11]) V89 (bF R f223 I28 Z28 R<|Jp2 R R) R ?_
 cases h
 exact⟨(λb=>ren [(8,2),(9,3)]<|K32 b),ac,aa,ab,ad,R,((hE.stp (T9 S3 S7 S11 S15 S19 S23 S26 S33 S222) R R).map (ren [(8,2),(9,3)]) R R),((f35.stp S222 R R).map (ren [(8,2),(9,3)]) R R),((f36.stp S222 R R).map (ren [(8,2),(9,3)]) R R)⟩
end Go.Proofs.YtpcjbkgbnoocaaaGreat
