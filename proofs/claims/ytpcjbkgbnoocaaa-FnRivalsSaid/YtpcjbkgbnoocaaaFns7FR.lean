/- The walks, part 7. By program. -/
import Derived.Test.YtpcjbkgbnoocaaaFns6FR
set_option linter.unusedVariables false
set_option linter.unusedSimpArgs false
open Go.IntKind renaming wrap → sh
open Sum renaming inr → vq, inl → vr
open Int renaming toNat → vu
namespace Go.Proofs.Ytpcjbkgbnoocaaa
open Go Go.Wk Go.Proofs
set_option maxRecDepth 100000
set_option maxHeartbeats 1000000
variable {w:World}{κ:Col}
theorem kA {aa ab}{p0:l1Cur}{p1:Sig}{p2:Int}{b0}(g0_0:Rd (Rp.int .u8) κ w 0 aa ab p0.b) (gb0:Bc κ w 2 b0 56 [.slice aa p0.b.length ab,vi p0.i,vi p0.h]){r:(List Clause)×Int×Int}(h:fM p0 p1 p2=some r):Ret Try.prog 32 [.pointer (some ⟨b0,0,none⟩),.agg #[vi p1.In,vi p1.Out],vi p2] w (λv w'=>∃(κ':Col) (ra0:Option Addr) (ru0:Nat),v= .slice ra0 r.1.length ru0/\Ent κ w κ' w'/\Oc Clause.ep92 92 κ' w' 3 ra0 ru0 r.1/\Bc κ' w' 2 b0 56 [.slice aa p0.b.length ab,vi r.2.1,vi r.2.2]):=by
 unfold fM at h
 refine Jk3 κ F32 R N32 R λhE=>Je [1,2] R<|Jf1 (κ:=κ) 3 R R R R R R R λb4 w1 K2 S3 f4=>Tv<|Jb 1 R<|Je [1,2] R<|Jo1 (κ:=K2) (E:=Clause.ep92) 4 R R R R R Y62 jX R λa9 u9 w5 K6 S7 f8=>Tv<|Jb 1 R<|Jq<|Jg3 [2,2,2,1,2] 3 R<|Ob h λx13 hx13 h=>?_
 have f9:=g0_0.stp (S3.tr S7) R R
 refine Jh R R R C29 (bU (κ:=λb=>mp [(2,2)] 0<|K6 b) (p0:=p0) (Jl2 f9 (mp [(2,2)] 0) R R) ((gb0.stp (S3.tr S7) R R).map (mp [(2,2)] 0) R R) hx13) ?_
 rintro _ w11 ⟨k12,rfl,e13,f14⟩
 obtain⟨K15,S16,m17⟩:=Ji e13 5 R
 refine Tv<|Jb 1 R<|Ob h λq2 hq22 hK21=>?_
 clear h
 refine Jx1 (λL w'=>∃κ',∃s3:(List Clause)×Int×Int×Int,∃al ak,L=[(0,.pointer (some ⟨b0,0,none⟩)),(4,.pointer (some ⟨b4,0,none⟩)),(7,.slice al s3.1.length ak)]/\Stp [4,7,10,11,12,13] K15 w11 κ' w'/\Oc Clause.ep92 92 κ' w' 4 al ak s3.1/\Bc κ' w' 7 b0 56 [.slice aa p0.b.length ab,vi s3.2.2.1,vi s3.2.2.2]/\q2=vq s3) ?_ ?_
 refine Jv<|Jy1 (λk L w'=>∃κ',∃s1:(List Clause)×Int×Int×Int,∃an am,L=[(0,.pointer (some ⟨b0,0,none⟩)),(4,.pointer (some ⟨b4,0,none⟩)),(7,.slice an s1.1.length am),(8,vi s1.2.1)]/\Stp [4,7,10,11,12,13] K15 w11 κ' w'/\Oc Clause.ep92 92 κ' w' 4 an am s1.1/\Bc κ' w' 7 b0 56 [.slice aa p0.b.length ab,vi s1.2.2.1,vi s1.2.2.2]/\bP (ec p0 p1) k s1=some q2) ⟨_,_,⟨K15,((([]:List Clause):(List Clause)),x13.1,x13.2.1,x13.2.2),a9,u9,R,Jj3,(f8.stp S16 R R),(f14.mx m17 R (R:5+2=7)),hq22⟩,(KM R)⟩ ?_
 rintro k _ w28 ⟨K29,s1,an,am,rfl,S30,f31,f32,h⟩
 rcases k with _ | k
 cases h
 obtain⟨o20,h,hk34⟩:=BI h;unfold ec at h
 refine Jq<|Je3 R ?_
 revert h
 cases ht35:decide (0<s1.2.1)
 refine JF λh=>Jy R<|Jc1<|Jt<|Jt ?_
 cases h
 have h:=hk34
 refine Jb1 ?_
 cases h
 exact Jw1 _ ⟨K29,(s1.1,s1.2.1,s1.2.2.1,s1.2.2.2),an,am,R,S30.wk R,f31,f32,R⟩<|KM R
 refine JT λh=>Jx R<|Js<|Jp<|Jq<|Jv<|Jh3 [2,2,1,1,1,1,2] 2 R<|Jl tv R R R R (Jd2 (cs:=[vi p1.In,vi p1.Out]) I25 Z25 R R R<|haE (f4.stp (T3 S7 S16 S30) R R).cells)<|Ob h λx21 hx21 h=>Jh R R R C50 (mr (κ:=λb=>mp [(7,2)] 0<|K29 b) (p1:=p1) (p0:=(⟨p0.b,s1.2.2.1,s1.2.2.2⟩:l1Cur)) (Jl2 (f9.stp (S16.tr S30) R R) (mp [(7,2)] 0) R R) (f32.map (mp [(7,2)] 0) R R) hx21) ?_
 rintro _ w38 ⟨k39,ae,ad,aj,af,rfl,e40,f41,f42,f43⟩
 obtain⟨K44,S45,m46⟩:=Ji e40 8 R
 refine Tv<|Jn1 (κ:=K44) (E:=Clause.ep92) 13 [11,12] (parts:=[(0,.tmp 21)]) (cells:=[vi x21.1.Kind,.slice ae x21.1.A.length ad,.slice aj x21.1.B.length af]) (xs:=([x21.1]:List Clause)) R R R R R R Y62 jX R R R R R R R R R R ⟨[vi x21.1.Kind,.slice ae x21.1.A.length ad,.slice aj x21.1.B.length af],[],Zl K44 w38 [11,12],Zl K44 w38 [],R,Zl.sp (l1:=[11,12]) (l2:=[]) R,Zl.sr (l1:=[11,12]) (l2:=[]),⟨[vi x21.1.Kind],[.slice ae x21.1.A.length ad,.slice aj x21.1.B.length af],Zl K44 w38 [],Zl K44 w38 [11,12],R,Zl.sp (l1:=[]) (l2:=[11,12]) R,Zl.sr (l1:=[]) (l2:=[11,12]),R,⟨[.slice ae x21.1.A.length ad],[.slice aj x21.1.B.length af],Zl K44 w38 [11],Zl K44 w38 [12],R,Zl.sp (l1:=[11]) (l2:=[12]) R,Zl.sr (l1:=[11]) (l2:=[12]),⟨_,_,R,(f41.mx (bE _) m46 R (R:8+3=11))⟩,⟨_,_,R,(f42.mx (bE _) m46 R (R:8+4=12))⟩⟩⟩,R⟩ λaz aA w51 K52 S53 f54=>Tv<|Ob h λx23 hx23 h=>Jm1 (κ:=K52) (E:=Clause.ep92) 4 [13] R R R R R R R R R Y62 jX R R R R (f31.stp (S45.tr S53) R R) f54.src (fk R) hx23 R λaw ar w56 K57 S58 f59=>Tv<|Jc 1 R<|Jz<|Jp<|Jf3 R ?_
 cases h
 exact Jz1 λa ha=>⟨k,_,Ja3 _,⟨(λb=>ren [(10,7)]<|K57 b),(x23,((IntKind.i64.wrap<|s1.2.1-1):Int),x21.2.1,x21.2.2),aw,ar,R,(Jy2 ((T4 S30 S45 S53 S58).wk R) [(10,7)] R),(f59.map (ren [(10,7)]) R R),(((f43.mx m46 R (R:8+2=10)).stp (S53.tr S58) R R).map (ren [(10,7)]) R R),hk34⟩,(ha.mm R)⟩
 rintro _ w23 ⟨K24,s3,al,ak,rfl,S25,f26,f27,rfl⟩
 have h:=yI hK21
 refine Jp<|Jq<|Jg3 [2,1] 1 R<|Ob h λx25 hx25 h=>?_
 have f61:=f9.stp (S16.tr S25) R R
 refine Jh R R R C28 (cR (κ:=λb=>mp [(7,2)] 0<|K24 b) (p0:=(⟨p0.b,s3.2.2.1,s3.2.2.2⟩:l1Cur)) (Jl2 f61 (mp [(7,2)] 0) R R) (f27.map (mp [(7,2)] 0) R R) hx25) ?_
 rintro _ w62 ⟨k63,rfl,e64,f65⟩
 obtain⟨K66,S67,m68⟩:=Ji e64 8 R
 refine Tv<|?_
 have f70:=f65.mx m68 R (R:8+2=10)
 refine Jd<|Ob h λq4 h hK71=>Jx1 (λL w'=>∃κ' aq ai,L=[(0,.pointer (some ⟨b0,0,none⟩)),(7,.slice aq q4.1.length ai)]/\Stp [4,10,13,14,15,16] K66 w62 κ' w'/\Oc Clause.ep92 92 κ' w' 4 aq ai q4.1/\Bc κ' w' 10 b0 56 [.slice aa p0.b.length ab,vi q4.2.1,vi q4.2.2]) ?_ ?_
 revert h
 cases ht77:x25.1
 refine JF λh=>Jy R<|Js ?_
 cases h
 exact Jw1 _ ⟨K66,al,ak,R,Jj3,(f26.stp S67 R R),f70⟩<|KM R
 refine JT λh=>Jx R<|Jh3 [2,2,1,1,1,1,2] 2 R<|Jl tv R R R R (Jd2 (cs:=[vi p1.In,vi p1.Out]) I25 Z25 R R R<|haE (f4.stp (T4 S7 S16 S25 S67) R R).cells)<|Ob h λx29 hx29 h=>Jh R R R C51 (nq (κ:=λb=>mp [(10,2)] 0<|K66 b) (p1:=p1) (p0:=(⟨p0.b,x25.2.1,x25.2.2⟩:l1Cur)) (Jl2 (f61.stp S67 R R) (mp [(10,2)] 0) R R) (f70.map (mp [(10,2)] 0) R R) hx29) ?_
 rintro _ w80 ⟨k81,ap,ac,ah,ao,rfl,e82,f83,f84,f85⟩
 obtain⟨K86,S87,m88⟩:=Ji e82 11 R
 refine Tv<|Jn1 (κ:=K86) (E:=Clause.ep92) 16 [14,15] (parts:=[(0,.tmp 29)]) (cells:=[vi x29.1.Kind,.slice ap x29.1.A.length ac,.slice ah x29.1.B.length ao]) (xs:=([x29.1]:List Clause)) R R R R R R Y62 jX R R R R R R R R R R ⟨[vi x29.1.Kind,.slice ap x29.1.A.length ac,.slice ah x29.1.B.length ao],[],Zl K86 w80 [14,15],Zl K86 w80 [],R,Zl.sp (l1:=[14,15]) (l2:=[]) R,Zl.sr (l1:=[14,15]) (l2:=[]),⟨[vi x29.1.Kind],[.slice ap x29.1.A.length ac,.slice ah x29.1.B.length ao],Zl K86 w80 [],Zl K86 w80 [14,15],R,Zl.sp (l1:=[]) (l2:=[14,15]) R,Zl.sr (l1:=[]) (l2:=[14,15]),R,⟨[.slice ap x29.1.A.length ac],[.slice ah x29.1.B.length ao],Zl K86 w80 [14],Zl K86 w80 [15],R,Zl.sp (l1:=[14]) (l2:=[15]) R,Zl.sr (l1:=[14]) (l2:=[15]),⟨_,_,R,(f83.mx (bE _) m88 R (R:11+3=14))⟩,⟨_,_,R,(f84.mx (bE _) m88 R (R:11+4=15))⟩⟩⟩,R⟩ λax ay w93 K94 S95 f96=>Tv<|Ob h λx31 hx31 h=>Jm1 (κ:=K94) (E:=Clause.ep92) 4 [16] R R R R R R R R R Y62 jX R R R R (f26.stp (T3 S67 S87 S95) R R) f96.src (fk R) hx31 R λau av w98 K99 S100 f101=>Tv<|Jc 1 R ?_
 cases h
 exact Jw1 _ ⟨(λb=>ren [(13,10)]<|K99 b),au,av,R,(Jy2 ((T3 S87 S95 S100).wk R) [(13,10)] R),(f101.map (ren [(13,10)]) R R),(((f85.mx m88 R (R:11+2=13)).stp (S95.tr S100) R R).map (ren [(13,10)]) R R)⟩<|KM R
 rintro _ w72 ⟨K73,aq,ai,rfl,S74,f75,f76⟩
 have h:=hK71
 refine Jp<|Je3 R<|Ju<|Ja2 (l:=[.tmp 6]) V32 (Jp2 R R) R ?_
 cases h
 exact⟨(λb=>ren [(4,3),(10,2)]<|K73 b),aq,ai,R,((hE.stp (T6 S3 S7 S16 S25 S67 S74) R R).map (ren [(4,3),(10,2)]) R R),(f75.map (ren [(4,3),(10,2)]) R R),(f76.map (ren [(4,3),(10,2)]) R R)⟩
theorem iT {p0:Sig}{ad ab ai ae}{p1:Det}{aa af ah ac}{p2:Det}(g1_0:Rd (Rp.sl (Rp.int .i64)) κ w 0 ad ab p1.Next) (g1_1:Rd Pair.rp κ w 0 ai ae p1.Pairs) (g2_0:Rd (Rp.sl (Rp.int .i64)) κ w 0 aa af p2.Next) (g2_1:Rd Pair.rp κ w 0 ah ac p2.Pairs){r:Det×Bool}(h:g6 p0 p1 p2=some r):Ret Try.prog 55 [.agg #[vi p0.In,vi p0.Out],.agg #[.slice ad p1.Next.length ab,.slice ai p1.Pairs.length ae],.agg #[.slice aa p2.Next.length af,.slice ah p2.Pairs.length ac]] w (λv w'=>∃(κ':Col) (ra0:Option Addr) (ru0:Nat) (ra1:Option Addr) (ru1:Nat),v= .tuple #[.agg #[.slice ra0 r.1.Next.length ru0,.slice ra1 r.1.Pairs.length ru1],.bool r.2]/\Ent κ w κ' w'/\Oc (Ep.own E6 2) 26 κ' w' 2 ra0 ru0 r.1.Next/\Oc Pair.ep102 102 κ' w' 3 ra1 ru1 r.1.Pairs):=by
 unfold g6 at h
 refine Jk3 κ F55 R N55 R λhE=>Je [1,1,1,1,2] R<|Jf1 (κ:=κ) 2 R R R R R R R λb3 w1 K2 S3 f4=>Tv<|Jf1 (κ:=K2) 3 R R R R R R R λb4 w5 K6 S7 f8=>Tv<|Jf1 (κ:=K6) 4 R R R R R R R λb5 w9 K10 S11 f12=>Tv<|Jg1 (κ:=K10) 5 R R R R R X71 R λb6 w13 K14 S15 f16=>Tv<|Jb 1 R<|Jq<|Je [1,1,1,2,2,1,1,1,2,2,2,2,1,2,2,1,2,2,2,2] R ?_
 have f17:=f4.stp (T3 S7 S11 S15) R R
 refine Jl tv R R R R (Jd2 (cs:=[vi p0.In,vi p0.Out]) I25 Z25 R R R<|haE f17.cells) ?_
 have f18:=f8.stp (S11.tr S15) R R
 refine Jl tv R R R R (Jd2 (cs:=[.slice ad p1.Next.length ab,.slice ai p1.Pairs.length ae]) I71 Z71 R R R<|haE f18.cells)<|Ob h λx10 hx10 h=>?_
 have f19:=g1_0.stp (T4 S3 S7 S11 S15) R R
 have f20:=g1_1.stp (T4 S3 S7 S11 S15) R R
 refine Jh R R R C57 (lP (κ:=Mk K14) (p0:=p0) (p1:=p1) (Ji3 f19) (Ji3 f20) hx10) ?_
 rintro _ w21 ⟨k22,rfl,e23⟩
 obtain⟨K24,S25,m26⟩:=Ji e23 6 R
 refine Tv<|Jn 2 R<|Ob h λp17 h hK28=>Ju1 [(5,1),(6,1),(7,1),(8,2),(9,2)] [(10,2),(11,2),(12,1),(13,2),(14,2),(15,1),(16,2),(17,2),(18,2),(19,2)] (λL w'=>L=[(3,.pointer (some ⟨b3,0,none⟩)),(4,.pointer (some ⟨b4,0,none⟩)),(5,.pointer (some ⟨b5,0,none⟩)),(6,.pointer (some ⟨b6,0,none⟩)),(17,.bool p17)]/\∃κ',Stp [] K24 w21 κ' w') tv ?_ ?_
 revert h
 cases ht29:(!x10)
 have S001:=(T5 S3 S7 S11 S15 S25)
 refine JF λh=>Jl tv R R R R (Jd2 (cs:=[vi p0.In,vi p0.Out]) I25 Z25 R R R<|haE (f17.stp S25 R R).cells)<|Jl tv R R R R (Jd2 (cs:=[.slice aa p2.Next.length af,.slice ah p2.Pairs.length ac]) I71 Z71 R R R<|haE (f12.stp (S15.tr S25) R R).cells)<|Ob h λx15 hx15 h=>Jh R R R C57 (lP (κ:=Mk K24) (p0:=p0) (p1:=p2) (Ji3<|g2_0.stp S001 R R) (Ji3<|g2_1.stp S001 R R) hx15) ?_
 rintro _ w34 ⟨k35,rfl,e36⟩
 obtain⟨K37,S38,m39⟩:=Ji e36 8 R
 refine Tv<|Jn 2 R ?_
 cases h
 exact Jv1 _ tv ⟨R,_,S38.wk R⟩<|KM R
 refine JT λh=>Jd1 R R R R<|Jd1 R R R R<|Jd1 R R R R<|Jn 2 R ?_
 cases h
 exact Jv1 _ tv ⟨R,_,Jj3⟩<|KM R
 rintro _ w41 _ ⟨rfl,K42,S43⟩
 have h:=hK28
 refine Jn 1 R<|Ob h λp27 h hK44=>Ju1 [(11,2),(12,1),(13,2),(14,2),(15,1),(16,2),(17,2),(18,2),(19,2)] [] (λL w'=>L=[(3,.pointer (some ⟨b3,0,none⟩)),(4,.pointer (some ⟨b4,0,none⟩)),(5,.pointer (some ⟨b5,0,none⟩)),(6,.pointer (some ⟨b6,0,none⟩)),(27,.bool p27)]/\∃κ',Stp [] K42 w41 κ' w') tv ?_ ?_
 revert h
 cases ht45:p17
 refine JF λh=>Jd3 R U71 R Z69<|Jb3 R I69 ((f18.stp (S25.tr S43) R R).ld 1 R R)<|Jn3 R U69 R R<|Jd3 R U71 R Z69<|Jb3 R I69 ((f12.stp (T3 S15 S25 S43) R R).ld 1 R R)<|Jn3 R U69 R R<|Jn 3 R ?_
 cases h
 exact Jv1 _ tv ⟨R,_,Jj3⟩<|KM R
 refine JT λh=>Jn 1 R<|Jd1 R R R R<|Jn 2 R<|Jd1 R R R R<|Jn 4 R ?_
 cases h
 exact Jv1 _ tv ⟨R,_,Jj3⟩<|KM R
 rintro _ w48 _ ⟨rfl,K49,S50⟩
 have h:=hK44
 refine Jd ?_
 revert h
 cases ht51:p27
 refine JF λh=>Jy R<|Js<|Jp<|Jq<|Js1 (κ:=K49) [2,3,4] none [(0,0),(1,0),(2,0),(3,1),(4,1),(5,2),(6,2),(7,1),(8,2)] [] (by kernel_rfl) (by kernel_rfl) λw58 S57=>Jg R (Jd2 (cs:=[.slice ad p1.Next.length ab,.slice ai p1.Pairs.length ae]) I71 Z71 R R R<|haC (f18.stp (T4 S25 S43 S50 S57) R R).cells R)<|Jg R (Jd2 (cs:=[.slice aa p2.Next.length af,.slice ah p2.Pairs.length ac]) I71 Z71 R R R<|haC (f12.stp (T5 S15 S25 S43 S50 S57) R R).cells R)<|Jg R (Jd2 (cs:=[vi p0.In,vi p0.Out]) I25 Z25 R R R<|haC (f17.stp (T4 S25 S43 S50 S57) R R).cells R)<|Ob h λx32 hx32 h=>Jh R R R C54 (dH (κ:=Mk K49) (p0:=p0) hx32) ?_
 rintro _ w62 ⟨k63,rfl,e64⟩
 obtain⟨K65,S66,m67⟩:=Ji e64 8 R
 have S002:=(T9 S3 S7 S11 S15 S25 S43 S50 S57 S66)
 have S003:=(T5 S25 S43 S50 S57 S66)
 refine⟨(S66.cl R),Ob h λx33 hx33 h=>Jh R R R C72 (nQ (κ:=Mk K65) (p0:=p1) (p1:=p2) (Ji3<|f19.stp S003 R R) (Ji3<|f20.stp S003 R R) (Ji3<|g2_0.stp S002 R R) (Ji3<|g2_1.stp S002 R R) hx33) ?_⟩
 rintro _ w73 ⟨k74,al,am,ak,aj,rfl,e75,f76,f77⟩
 obtain⟨K78,S79,m80⟩:=Ji e75 10 R
 refine⟨((S66.tr S79).cl R),Jn 2 R<|Jj1 (κ:=K78) 5 (vc:=[.slice al x33.1.Next.length am,.slice ak x33.1.Pairs.length aj]) R R R R R R R Z71 R R (f16.stp (T6 S25 S43 S50 S57 S66 S79) R R) R λw85 S86 f87=>⟨((T3 S66 S79 S86).cl R),Jn 1 R<|Jt1<|Jd<|Ju<|Ja2 (l:=[.cell 6 71,.tmp 7]) V55 (bH R f87 I71 Z71 R<|Jp2 R R) R ?_⟩⟩
 cases h
 exact⟨(λb=>ren [(12,2),(13,3)]<|K78 b),al,am,ak,aj,R,((hE.stp (T11 S3 S7 S11 S15 S25 S43 S50 S57 S66 S79 S86) R R).map (ren [(12,2),(13,3)]) R R),(((f76.mx (dB (bE _) _) m80 R (R:10+2=12)).stp S86 R R).map (ren [(12,2),(13,3)]) R R),(((f77.mx Pair.no102 m80 R (R:10+3=13)).stp S86 R R).map (ren [(12,2),(13,3)]) R R)⟩
 refine JT λh=>Jx R<|Je [2,1,2] R<|Jf R (bF (parts:=[]) (cells:=[.slice none 0 0,.slice none 0 0]) R R (by kernel_rfl))<|Jj1 (κ:=K49) 5 (vc:=[.slice none 0 0,.slice none 0 0]) R R R R R R R Z71 R R (f16.stp (T3 S25 S43 S50) R R) R λw53 S54 f55=>Tv<|Jb 1 R<|Ju<|Jw<|Ja2 (l:=[.cell 6 71,.tmp 7]) V55 (bH R f55 I71 Z71 R<|Jp2 R R) R ?_
 cases h
 exact⟨K49,none,0,none,0,R,(hE.stp (T8 S3 S7 S11 S15 S25 S43 S50 S54) R R),Ow.nil,Ow.nil⟩
theorem nB {p0:Sig}{a1 u1}{p1:(List Clause)}(g1:Rd Clause.rp κ w 0 a1 u1 p1){r:Det×Bool}(h:dS p0 p1=some r):Ret Try.prog 43 [.agg #[vi p0.In,vi p0.Out],.slice a1 p1.length u1] w (λv w'=>∃(κ':Col) (ra0:Option Addr) (ru0:Nat) (ra1:Option Addr) (ru1:Nat),v= .tuple #[.agg #[.slice ra0 r.1.Next.length ru0,.slice ra1 r.1.Pairs.length ru1],.bool r.2]/\Ent κ w κ' w'/\Oc (Ep.own E6 2) 26 κ' w' 2 ra0 ru0 r.1.Next/\Oc Pair.ep102 102 κ' w' 3 ra1 ru1 r.1.Pairs):=by
 unfold dS at h
 refine Jk3 κ F43 R N43 R λhE=>Je [1,1,2] R<|Jf1 (κ:=κ) 2 R R R R R R R λb2 w1 K2 S3 f4=>Tv<|Jg1 (κ:=K2) 3 R R R R R X71 R λb4 w5 K6 S7 f8=>Tv<|Jb 1 R<|Jq<|Je [1,2,1,2] R ?_
 have f9:=f4.stp S7 R R
 refine Jl tv R R R R (Jd2 (cs:=[vi p0.In,vi p0.Out]) I25 Z25 R R R<|haE f9.cells)<|Jn 1 R<|Ob h λx12 hx12 h=>?_
 have f10:=g1.stp (S3.tr S7) R R
 refine Jh R R R C53 (n8 (κ:=Mk K6) (p0:=p0) (Ji3 f10) hx12) ?_
 rintro _ w11 ⟨k12,rfl,e13⟩
 obtain⟨K14,S15,m16⟩:=Ji e13 4 R
 refine Tv<|Jb 1 R ?_
 revert h
 cases ht18:(!x12)
 refine JF λh=>Jy R<|Js<|Jp<|Je [1,1,1,1,2,1,1] R ?_
 have f24:=f9.stp S15 R R
 refine Jl tv R R R R (Jd2 (cs:=[vi p0.In,vi p0.Out]) I25 Z25 R R R<|haE f24.cells)<|Ob h λx16 hx16 h=>Jh R R R C54 (dH (κ:=Mk K14) (p0:=p0) hx16) ?_
 rintro _ w25 ⟨k26,rfl,e27⟩
 obtain⟨K28,S29,m30⟩:=Ji e27 6 R
 refine Tv<|Ob h λx17 hx17 h=>Jl1 (κ:=K28) (E:=E6) (z:=(0:Int)) 8 R R R R R R R Y26 a8 R R R R R (λ_ _ _=>R) (Ju2 hx17) λav aw w32 K33 S34 f35=>Tv<|Jn1 (κ:=K33) (E:=(Ep.own E6 2)) 9 [8] (parts:=[(0,.tmp 17)]) (cells:=[.slice av x17.length aw]) (xs:=([x17]:List (List Int))) R R R R R R Y27 bZ R R R R R R R R R R ⟨[.slice av x17.length aw],[],Zl K33 w32 [8],Zl K33 w32 [],R,Zl.sp (l1:=[8]) (l2:=[]) R,Zl.sr (l1:=[8]) (l2:=[]),⟨_,_,R,f35⟩,R⟩ λar au w36 K37 S38 f39=>Tv<|Jf R (bF (parts:=[(0,.tmp 18)]) (cells:=[.slice ar ([x17]:List (List Int)).length au,.slice none 0 0]) R R (by kernel_rfl))<|Jg1 (κ:=K37) 10 R R R R R X71 R λb6 w40 K41 S42 f43=>Tv<|Jj1 (κ:=K41) 10 (vc:=[.slice ar ([x17]:List (List Int)).length au,.slice none 0 0]) R R R R R R R Z71 R R f43 R λw44 S45 f46=>Tv<|Jd<|Jq<|Je3 R ?_
 have hN47:(p1.length:Int)<=9223372036854775807:=f10.len_le
 refine Ob h λq2 hq49 hK48=>?_
 clear h
 refine Jx1 (λL w'=>∃κ',∃s3:(List<|List Int)×(List Pair),∃aj af am ae,L=[(4,.pointer (some ⟨b4,0,none⟩)),(6,.pointer (some ⟨b6,0,none⟩))]/\Stp [10,12,13,16,18,19,20] K41 w44 κ' w'/\Oc (Ep.own E6 2) 26 κ' w' 9 aj af s3.1/\Oc Pair.ep102 102 κ' w' 11 am ae s3.2/\Bc κ' w' 10 b6 71 [.slice aj s3.1.length af,.slice am s3.2.length ae]/\q2=vq s3) ?_ ?_
 refine Jv<|Jy1 (λk L w'=>∃κ' v7,∃s1:(List<|List Int)×(List Pair),∃aq ao ap an,L=[(1,.slice a1 p1.length u1),(2,.pointer (some ⟨b2,0,none⟩)),(4,.pointer (some ⟨b4,0,none⟩)),(6,.pointer (some ⟨b6,0,none⟩)),(7,vi v7)]/\Stp [10,12,13,16,18,19,20] K41 w44 κ' w'/\Oc (Ep.own E6 2) 26 κ' w' 9 aq ao s1.1/\Oc Pair.ep102 102 κ' w' 11 ap an s1.2/\Bc κ' w' 10 b6 71 [.slice aq s1.1.length ao,.slice ap s1.2.length an]/\0<=v7/\vu ((p1.length:Int)-v7)=k/\cntM (dw p0 p1) k v7 s1=some q2) ⟨_,_,⟨K41,0,((([x17]:List (List Int)):(List<|List Int)),(([]:List Pair):(List Pair))),ar,au,none,0,R,Jj3,(f39.stp (S42.tr S45) R R),Ow.nil,f46,(by decide),(by simp),hq49⟩,(KM R)⟩ ?_
 rintro k _ w56 ⟨K57,v7,s1,aq,ao,ap,an,rfl,S58,f59,f60,f61,hj47,hJ47,h⟩
 rcases k with _ | k
 have hk63:=h;obtain⟨o47,h⟩:=cc (vq (vr s1):(Det×Bool)⊕(((List (List Int))×(List Pair))⊕((List (List Int))×(List Pair))))
 have hc47:decide (v7<(p1.length:Int))=false:=Jo2 (by omega)
 refine Jq<|Jg3 [2,2,2,2] 2 R<|Jn3 R U62 R R<|Jb 1 R<|Jw2 R hc47<|Jc1<|Jt<|Jt ?_
 cases h
 have h:=hk63
 refine Jb1 ?_
 cases h
 exact Jw1 _ ⟨K57,(s1.1,s1.2),aq,ao,ap,an,R,S58.wk R,f59,f60,f61,R⟩<|KM R
 obtain⟨o47,h,hk63⟩:=BI h;unfold dw at h
 have hc47:decide (v7<(p1.length:Int))=true:=Jn2 (by omega)
 refine Jq<|Jg3 [2,2,2,2] 2 R<|Jn3 R U62 R R<|Jb 1 R<|Jv2 R hc47<|Js<|Jp<|Jq<|Jv<|Jq<|Ob h λx32 hx32 h=>Ob h λx34 hx34 h=>Ob h λx35 hx35 h=>Jx1 (λL w'=>∃κ' b8 ah ai ak al,L=[(1,.slice a1 p1.length u1),(2,.pointer (some ⟨b2,0,none⟩)),(4,.pointer (some ⟨b4,0,none⟩)),(6,.pointer (some ⟨b6,0,none⟩)),(7,vi v7),(8,.pointer (some ⟨b8,0,none⟩)),(9,.bool x35.2)]/\Stp [12,16,18,19,20] K57 w56 κ' w'/\Oc (Ep.own E6 2) 26 κ' w' 12 ah ai x35.1.Next/\Oc Pair.ep102 102 κ' w' 13 ak al x35.1.Pairs/\Bc κ' w' 14 b8 71 [.slice ah x35.1.Next.length ai,.slice ak x35.1.Pairs.length al]) ?_ ?_
 refine WC.rxt (κ:=K57) [0,2,10] none (by kernel_rfl) λw71 S72=>Jq1 (fuel:=8) [(3,2),(4,2),(5,2),(0,0),(1,0),(2,0),(6,0)] (by kernel_rfl) (by kernel_rfl) R<|Jn 2 R<|Jc3 R f10 hx32 U62 Z92 ?_
 have f73:=f24.stp (T7 S29 S34 S38 S42 S45 S58 S72) R R
 refine Jg R (Jd2 (cs:=[vi p0.In,vi p0.Out]) I25 Z25 R R R<|haC f73.cells R)<|Jg R (Jd2 (cs:=[.slice aq s1.1.length ao,.slice ap s1.2.length an]) I71 Z71 R R R<|haC (f61.stp S72 R R).cells R)<|Jg R (Jd2 (cs:=[vi p0.In,vi p0.Out]) I25 Z25 R R R<|haC f73.cells R) ?_
 obtain⟨cse76,hre76,hle76⟩:=((f10.stp (T8 S15 S29 S34 S38 S42 S45 S58 S72) R R)).gSt hx32
 obtain⟨ae76_0,ue76_0,ae76_1,ue76_1,rfl,fe76_0,fe76_1⟩:=Clause.un hre76
 refine Jg R (Jd2 (cs:=[vi x32.Kind,.slice ae76_0 x32.A.length ue76_0,.slice ae76_1 x32.B.length ue76_1]) I92 Z92 R R R<|haC hle76 R)<|Jp1<|WA.fork2 (fuel:=7) 7 12 (by kernel_rfl) R ?_ ?_
 refine Jh R R R C56 (kV (κ:=Mk K57) (p0:=p0) (p1:=x32) (Ji3 fe76_0) (Ji3 fe76_1) hx34) ?_
 rintro _ w77 ⟨k78,az,aA,ay,ax,rfl,e79,f80,f81⟩
 obtain⟨K82,S83,m84⟩:=Ji e79 12 R
 refine⟨(S83.cl R),?_⟩
 have f86:=f80.mx (dB (bE _) _) m84 R (R:12+2=14)
 have f87:=f81.mx Pair.no102 m84 R (R:12+3=15)
 refine Jp1<|WA.fork2 (fuel:=6) 8 12 (by kernel_rfl) R ?_ ?_
 refine Jh R R R C55 (iT (κ:=Mk K82) (p0:=p0) (p1:=(⟨s1.1,s1.2⟩:Det)) (p2:=x34) (Ji3 (f59.stp (S72.tr S83) R R).rdc) (Ji3 (f60.stp (S72.tr S83) R R).rdc) (Ji3 f86.rdc) (Ji3 f87.rdc) hx35) ?_
 rintro _ w90 ⟨k91,ab,ac,aa,ad,rfl,e92,f93,f94⟩
 obtain⟨K95,S96,m97⟩:=Ji e92 16 R
 exact⟨((S83.tr S96).cl R),Jp1<|Jq1 (fuel:=0) [(9,2),(10,2),(11,2),(12,1),(13,1),(14,2)] (by kernel_rfl) (by kernel_rfl) R<|Jn 3 R<|Jg1 (κ:=K95) 20 R R R R R X71 R λb8 w101 K102 S103 f104=>⟨((T3 S83 S96 S103).cl R),Jj1 (κ:=K102) 20 (vc:=[.slice ab x35.1.Next.length ac,.slice aa x35.1.Pairs.length ad]) R R R R R R R Z71 R R f104 R λw105 S106 f107=>⟨((T4 S83 S96 S103 S106).cl R),Jn 1 R<|Jp1<|Jr1 [] (by kernel_rfl) (by kernel_rfl) R<|Jo<|Jw1 _ ⟨(λb=>ren [(18,12),(19,13),(20,14)]<|K102 b),b8,ab,ac,aa,ad,R,(Jy2 ((T5 S72 S83 S96 S103 S106).wk R) [(18,12),(19,13),(20,14)] R),(((f93.mx (dB (bE _) _) m97 R (R:16+2=18)).stp (S103.tr S106) R R).map (ren [(18,12),(19,13),(20,14)]) R R),(((f94.mx Pair.no102 m97 R (R:16+3=19)).stp (S103.tr S106) R R).map (ren [(18,12),(19,13),(20,14)]) R R),(f107.map (ren [(18,12),(19,13),(20,14)]) R R)⟩<|KM R⟩⟩⟩
 refine Jg1 (κ:=K82) 16 R R R R R X71 R λb8 w110 K111 S112 f113=>⟨((S83.tr S112).cl R),Jp1<|Jq1 (fuel:=0) [(8,1),(9,2),(10,2),(11,2),(13,1),(14,2)] (by kernel_rfl) (by kernel_rfl) R<|Jh R R R C55 (iT (κ:=Mk K111) (p0:=p0) (p1:=(⟨s1.1,s1.2⟩:Det)) (p2:=x34) (Ji3 (f59.stp (T3 S72 S83 S112) R R).rdc) (Ji3 (f60.stp (T3 S72 S83 S112) R R).rdc) (Ji3 (f86.stp S112 R R).rdc) (Ji3 (f87.stp S112 R R).rdc) hx35) ?_⟩
 rintro _ w118 ⟨k119,ab,ac,aa,ad,rfl,e120,f121,f122⟩
 obtain⟨K123,S124,m125⟩:=Ji e120 17 R
 exact⟨((T3 S83 S112 S124).cl R),Jn 3 R<|Jj1 (κ:=K123) 16 (vc:=[.slice ab x35.1.Next.length ac,.slice aa x35.1.Pairs.length ad]) R R R R R R R Z71 R R (f113.stp S124 R R) R λw130 S131 f132=>⟨((T4 S83 S112 S124 S131).cl R),Jn 1 R<|Jp1<|Jr1 [] (by kernel_rfl) (by kernel_rfl) R<|Jo<|Jw1 _ ⟨(λb=>ren [(19,12),(20,13),(16,14)]<|K123 b),b8,ab,ac,aa,ad,R,(Jy2 ((T5 S72 S83 S112 S124 S131).wk R) [(19,12),(20,13),(16,14)] R),(((f121.mx (dB (bE _) _) m125 R (R:17+2=19)).stp S131 R R).map (ren [(19,12),(20,13),(16,14)]) R R),(((f122.mx Pair.no102 m125 R (R:17+3=20)).stp S131 R R).map (ren [(19,12),(20,13),(16,14)]) R R),(f132.map (ren [(19,12),(20,13),(16,14)]) R R)⟩<|KM R⟩⟩
 refine Jg1 (κ:=K57) 12 R R R R R X71 R λb8 w135 K136 S137 f138=>⟨(S137.cl R),Jp1<|Jq1 (fuel:=0) [(7,1),(8,1),(9,2),(10,2),(11,2),(13,1),(14,2)] (by kernel_rfl) (by kernel_rfl) R<|Jh R R R C56 (kV (κ:=Mk K136) (p0:=p0) (p1:=x32) (Ji3<|fe76_0.stp S137 R R) (Ji3<|fe76_1.stp S137 R R) hx34) ?_⟩
 rintro _ w141 ⟨k142,az,aA,ay,ax,rfl,e143,f144,f145⟩
 obtain⟨K146,S147,m148⟩:=Ji e143 13 R
 refine⟨((S137.tr S147).cl R),Jh R R R C55 (iT (κ:=Mk K146) (p0:=p0) (p1:=(⟨s1.1,s1.2⟩:Det)) (p2:=x34) (Ji3 (f59.stp (T3 S72 S137 S147) R R).rdc) (Ji3 (f60.stp (T3 S72 S137 S147) R R).rdc) (Ji3 (f144.mx (dB (bE _) _) m148 R (R:13+2=15)).rdc) (Ji3 (f145.mx Pair.no102 m148 R (R:13+3=16)).rdc) hx35) ?_⟩
 rintro _ w154 ⟨k155,ab,ac,aa,ad,rfl,e156,f157,f158⟩
 obtain⟨K159,S160,m161⟩:=Ji e156 17 R
 have S001:=(T3 S137 S147 S160)
 exact⟨(S001.cl R),Jn 3 R<|Jj1 (κ:=K159) 12 (vc:=[.slice ab x35.1.Next.length ac,.slice aa x35.1.Pairs.length ad]) R R R R R R R Z71 R R (f138.stp (S147.tr S160) R R) R λw166 S167 f168=>⟨((S001.tr S167).cl R),Jn 1 R<|Jp1<|Jr1 [] (by kernel_rfl) (by kernel_rfl) R<|Jo<|Jw1 _ ⟨(λb=>ren [(19,12),(20,13),(12,14)]<|K159 b),b8,ab,ac,aa,ad,R,(Jy2 ((T5 S72 S137 S147 S160 S167).wk R) [(19,12),(20,13),(12,14)] R),(((f157.mx (dB (bE _) _) m161 R (R:17+2=19)).stp S167 R R).map (ren [(19,12),(20,13),(12,14)]) R R),(((f158.mx Pair.no102 m161 R (R:17+3=20)).stp S167 R R).map (ren [(19,12),(20,13),(12,14)]) R R),(f168.map (ren [(19,12),(20,13),(12,14)]) R R)⟩<|KM R⟩⟩
 rintro _ w64 ⟨K65,b8,ah,ai,ak,al,rfl,S66,f68,f69,f70⟩
 refine Jp<|Jq<|Je3 R ?_
 revert h
 cases ht171:(!x35.2)
 refine JF λh=>Jy R<|Js<|Jp<|Ja [1,1] R<|Jl tv R R R R (Jd2 (cs:=[.slice ah x35.1.Next.length ai,.slice ak x35.1.Pairs.length al]) I71 Z71 R R R<|haE f70.cells)<|Jj1 (κ:=K65) 10 (vc:=[.slice ah x35.1.Next.length ai,.slice ak x35.1.Pairs.length al]) R R R R R R R Z71 R R (f61.stp S66 R R) R λw178 S179 f180=>Tv<|Jo<|Jz<|Jp<|Jf3 R ?_
 have hw47:sh .i64 (v7+1)=v7+1:=wr1 hj47 (Jm2 hc47) hN47
 rw[hw47]
 have hc47:=Jm2 hc47
 cases h
 exact Jz1 λa ha=>⟨k,_,Ja3 _,⟨(λb=>ren [(12,9),(13,11)]<|K65 b),v7+1,(x35.1.Next,x35.1.Pairs),ah,ai,ak,al,R,(Jy2 ((T3 S58 S66 S179).wk R) [(12,9),(13,11)] R),((f68.stp S179 R R).map (ren [(12,9),(13,11)]) R R),((f69.stp S179 R R).map (ren [(12,9),(13,11)]) R R),(f180.map (ren [(12,9),(13,11)]) R R),by omega,by omega,hk63⟩,(ha.mm R)⟩
 refine JT λh=>Jx R<|Je [2,1,2] R<|Jf R (bF (parts:=[]) (cells:=[.slice none 0 0,.slice none 0 0]) R R (by kernel_rfl))<|Jj1 (κ:=K65) 3 (vc:=[.slice none 0 0,.slice none 0 0]) R R R R R R R Z71 R R (f8.stp (T8 S15 S29 S34 S38 S42 S45 S58 S66) R R) R λw173 S174 f175=>Tv<|Jb 1 R<|Ju<|Jw<|Ja1<|Jw<|Jw ?_
 cases h
 obtain rfl:=Option.some.inj hk63
 have h:=yL hK48
 refine Ja1<|Jq2<|Jw<|Ja2 (l:=[.cell 4 71,.tmp 5]) V43 (bH R f175 I71 Z71 R<|Jp2 R R) R ?_
 cases h
 exact⟨K65,none,0,none,0,R,(hE.stp (T11 S3 S7 S15 S29 S34 S38 S42 S45 S58 S66 S174) R R),Ow.nil,Ow.nil⟩
 rintro _ w50 ⟨K51,s3,aj,af,am,ae,rfl,S52,f53,f54,f55,rfl⟩
 have h:=yI hK48
 refine Jp<|Je [1,1,2] R<|Jl tv R R R R (Jd2 (cs:=[.slice aj s3.1.length af,.slice am s3.2.length ae]) I71 Z71 R R R<|haE f55.cells)<|Jj1 (κ:=K51) 3 (vc:=[.slice aj s3.1.length af,.slice am s3.2.length ae]) R R R R R R R Z71 R R (f8.stp (T7 S15 S29 S34 S38 S42 S45 S52) R R) R λw184 S185 f186=>Tv<|Jb 1 R<|Ju<|Ja2 (l:=[.cell 4 71,.tmp 5]) V43 (bH R f186 I71 Z71 R<|Jp2 R R) R ?_
 cases h
 exact⟨(λb=>ren [(9,2),(11,3)]<|K51 b),aj,af,am,ae,R,((hE.stp (T10 S3 S7 S15 S29 S34 S38 S42 S45 S52 S185) R R).map (ren [(9,2),(11,3)]) R R),((f53.stp S185 R R).map (ren [(9,2),(11,3)]) R R),((f54.stp S185 R R).map (ren [(9,2),(11,3)]) R R)⟩
 refine JT λh=>Jx R<|Je [2,1,2] R<|Jf R (bF (parts:=[]) (cells:=[.slice none 0 0,.slice none 0 0]) R R (by kernel_rfl))<|Jj1 (κ:=K14) 3 (vc:=[.slice none 0 0,.slice none 0 0]) R R R R R R R Z71 R R (f8.stp S15 R R) R λw20 S21 f22=>Tv<|Jb 1 R<|Ju<|Jw<|Ja2 (l:=[.cell 4 71,.tmp 5]) V43 (bH R f22 I71 Z71 R<|Jp2 R R) R ?_
 cases h
 exact⟨K14,none,0,none,0,R,(hE.stp (T4 S3 S7 S15 S21) R R),Ow.nil,Ow.nil⟩
theorem nT {p0:Sig}{aK aQ aG ay}{p1:Det}(g1_0:Rd (Rp.sl (Rp.int .i64)) κ w 0 aK aQ p1.Next) (g1_1:Rd Pair.rp κ w 0 aG ay p1.Pairs){r:Arena×(List Pair)×Bool}(h:dg p0 p1=some r):Ret Try.prog 44 [.agg #[vi p0.In,vi p0.Out],.agg #[.slice aK p1.Next.length aQ,.slice aG p1.Pairs.length ay]] w (λv w'=>∃(κ':Col) (ra0:Option Addr) (ru0:Nat) (ra1:Option Addr) (ru1:Nat) (ra2:Option Addr) (ru2:Nat),v= .tuple #[.agg #[.slice ra0 r.1.Owner.length ru0,.slice ra1 r.1.Next.length ru1],.slice ra2 r.2.1.length ru2,.bool r.2.2]/\Ent κ w κ' w'/\Oc E6 2 κ' w' 2 ra0 ru0 r.1.Owner/\Oc (Ep.fz (Rp.sl (Rp.int .i64))) 26 κ' w' 3 ra1 ru1 r.1.Next/\Oc Pair.ep102 102 κ' w' 4 ra2 ru2 r.2.1):=by
 unfold dg at h
 refine Jk3 κ F44 R N44 R λhE=>Je [1,1,1,2,2] R<|Jf1 (κ:=κ) 2 R R R R R R R λb2 w1 K2 S3 f4=>Tv<|Jf1 (κ:=K2) 3 R R R R R R R λb3 w5 K6 S7 f8=>Tv<|Jg1 (κ:=K6) 4 R R R R R X75 R λb4 w9 K10 S11 f12=>Tv<|Jb 2 R<|Jq<|Je [1,1,1,2] R ?_
 have f13:=f4.stp (S7.tr S11) R R
 refine Jl tv R R R R (Jd2 (cs:=[vi p0.In,vi p0.Out]) I25 Z25 R R R<|haE f13.cells) ?_
 have f14:=f8.stp S11 R R
 refine Jl tv R R R R (Jd2 (cs:=[.slice aK p1.Next.length aQ,.slice aG p1.Pairs.length ay]) I71 Z71 R R R<|haE f14.cells)<|Ob h λx19 hx19 h=>?_
 have f15:=g1_0.stp (T3 S3 S7 S11) R R
 have f16:=g1_1.stp (T3 S3 S7 S11) R R
 refine Jh R R R C57 (lP (κ:=Mk K10) (p0:=p0) (p1:=p1) (Ji3 f15) (Ji3 f16) hx19) ?_
 rintro _ w17 ⟨k18,rfl,e19⟩
 obtain⟨K20,S21,m22⟩:=Ji e19 5 R
 refine Tv<|Jb 1 R ?_
 revert h
 cases ht24:(!x19)
 refine JF λh=>Jy R<|Js<|Jp<|Je [2,1,2,2] R<|Jd3 R U71 R Z27 ?_
 have f35:=f14.stp S21 R R
 refine Jb3 R I27 (f35.ld 0 R R)<|Jn3 R U27 R R<|Jb 1 R<|Je [1,1,2] R ?_
 have f36:=f13.stp S21 R R
 refine Jl tv R R R R (Jd2 (cs:=[vi p0.In,vi p0.Out]) I25 Z25 R R R<|haE f36.cells)<|Ob h λx27 hx27 h=>Jh R R R C25 (iH (κ:=Mk K20) (p0:=p0) hx27) ?_
 rintro _ w37 ⟨k38,rfl,e39⟩
 obtain⟨K40,S41,m42⟩:=Ji e39 7 R
 refine Tv<|Jb 1 R<|Je [2,1,1] R<|Jf R (bF (parts:=[]) (cells:=[.slice none 0 0,.slice none 0 0]) R R (by kernel_rfl))<|Jg1 (κ:=K40) 9 R R R R R X75 R λb9 w44 K45 S46 f47=>Tv<|Jj1 (κ:=K45) 9 (vc:=[.slice none 0 0,.slice none 0 0]) R R R R R R R Z75 R R f47 R λw48 S49 f50=>Tv<|Jd<|Jq<|Je3 R ?_
 have hN51:(p1.Next.length:Int)<=9223372036854775807:=f15.len_le
 refine Ob h λq2 hq53 hK52=>?_
 clear h
 refine Jx1 (λL w'=>∃κ',∃s3:(List Int)×(List<|List Int),∃aF aD aU az,L=[(2,.pointer (some ⟨b2,0,none⟩)),(3,.pointer (some ⟨b3,0,none⟩)),(4,.pointer (some ⟨b4,0,none⟩)),(7,vi (p1.Next.length:Int)),(8,vi x27),(9,.pointer (some ⟨b9,0,none⟩))]/\Stp [9,10,11,12,14] K45 w48 κ' w'/\Oc E6 2 κ' w' 10 aF aD s3.1/\Oc (Ep.fz<|Rp.sl<|Rp.int .i64) 26 κ' w' 11 aU az s3.2/\Bc κ' w' 9 b9 75 [.slice aF s3.1.length aD,.slice aU s3.2.length az]/\q2=vq s3) ?_ ?_
 refine Jv<|Jy1 (λk L w'=>∃κ' v10,∃s1:(List Int)×(List<|List Int),∃aM aJ an af,L=[(2,.pointer (some ⟨b2,0,none⟩)),(3,.pointer (some ⟨b3,0,none⟩)),(4,.pointer (some ⟨b4,0,none⟩)),(7,vi (p1.Next.length:Int)),(8,vi x27),(9,.pointer (some ⟨b9,0,none⟩)),(10,vi v10)]/\Stp [9,10,11,12,14] K45 w48 κ' w'/\Oc E6 2 κ' w' 10 aM aJ s1.1/\Oc (Ep.fz<|Rp.sl<|Rp.int .i64) 26 κ' w' 11 an af s1.2/\Bc κ' w' 9 b9 75 [.slice aM s1.1.length aJ,.slice an s1.2.length af]/\0<=v10/\vu ((p1.Next.length:Int)-v10)=k/\cntM (dD p1 x27) k v10 s1=some q2) ⟨_,_,⟨K45,0,((([]:List Int):(List Int)),(([]:List (List Int)):(List<|List Int))),none,0,none,0,R,Jj3,Ow.nil,Ow.nil,f50,(by decide),(by simp),hq53⟩,(KM R)⟩ ?_
 rintro k _ w60 ⟨K61,v10,s1,aM,aJ,an,af,rfl,S62,f63,f64,f65,hj51,hJ51,h⟩
 rcases k with _ | k
 have hk66:=h;obtain⟨o51,h⟩:=cc (vq (vr s1):(Arena×(List Pair)×Bool)⊕(((List Int)×(List (List Int)))⊕((List Int)×(List (List Int)))))
 have hc51:decide (v10<(p1.Next.length:Int))=false:=Jo2 (by omega)
 refine Jq<|Je3 R<|Jw2 R hc51<|Jc1<|Jt<|Jt ?_
 cases h
 have h:=hk66
 refine Jb1 ?_
 cases h
 exact Jw1 _ ⟨K61,(s1.1,s1.2),aM,aJ,an,af,R,S62.wk R,f63,f64,f65,R⟩<|KM R
 obtain⟨o51,h,hk66⟩:=BI h;unfold dD at h
 have hc51:decide (v10<(p1.Next.length:Int))=true:=Jn2 (by omega)
 refine Jq<|Je3 R<|Jv2 R hc51<|Js<|Jp<|Jq<|Jv<|Je [1,2] R<|Jo1 (κ:=K61) (E:=E6) 12 R R R R R Y26 a8 R λbf be w67 K68 S69 f70=>Tv<|Jb 1 R<|Jq<|Je3 R<|Ob h λ_ hr71 h=>?_
 have hN71:=lZ hr71
 refine Ob h λq5 hq73 hK72=>?_
 clear h
 refine Jx1 (λL w'=>∃κ',∃s6:(List Int),∃ak ah,L=[(2,.pointer (some ⟨b2,0,none⟩)),(3,.pointer (some ⟨b3,0,none⟩)),(4,.pointer (some ⟨b4,0,none⟩)),(7,vi (p1.Next.length:Int)),(8,vi x27),(9,.pointer (some ⟨b9,0,none⟩)),(10,vi v10),(11,.slice ak s6.length ah)]/\Stp [12] K68 w67 κ' w'/\Oc E6 2 κ' w' 12 ak ah s6/\q5=vq s6) ?_ ?_
 refine Jv<|Jy1 (λk L w'=>∃κ' v12,∃s4:(List Int),∃aN aI,L=[(2,.pointer (some ⟨b2,0,none⟩)),(3,.pointer (some ⟨b3,0,none⟩)),(4,.pointer (some ⟨b4,0,none⟩)),(7,vi (p1.Next.length:Int)),(8,vi x27),(9,.pointer (some ⟨b9,0,none⟩)),(10,vi v10),(11,.slice aN s4.length aI),(12,vi v12)]/\Stp [12] K68 w67 κ' w'/\Oc E6 2 κ' w' 12 aN aI s4/\0<=v12/\vu (x27-v12)=k/\cntM (dK p1 x27 v10) k v12 s4=some q5) ⟨_,_,⟨K68,0,(([]:List Int):(List Int)),bf,be,R,Jj3,f70,(by decide),(by simp),hq73⟩,(KM R)⟩ ?_
 rintro k _ w78 ⟨K79,v12,s4,aN,aI,rfl,S80,f81,hj71,hJ71,h⟩
 rcases k with _ | k
 have hk82:=h;obtain⟨o71,h⟩:=cc (vq (vr s4):(Arena×(List Pair)×Bool)⊕(((List Int))⊕((List Int))))
 have hc71:decide (v12<x27)=false:=Jo2 (by omega)
 refine Jq<|Je3 R<|Jw2 R hc71<|Jc1<|Jt<|Jt ?_
 cases h
 have h:=hk82
 refine Jb1 ?_
 cases h
 exact Jw1 _ ⟨K79,s4,aN,aI,R,S80.wk R,f81,R⟩<|KM R
 obtain⟨o71,h,hk82⟩:=BI h;unfold dK at h
 have hc71:decide (v12<x27)=true:=Jn2 (by omega)
 refine Jq<|Je3 R<|Jv2 R hc71<|Js<|Jp<|Jq<|Jv<|Jh3 [2,2,2,2,2,2,2,2,1,1,2] 8 R<|Jn1 (κ:=K79) (E:=E6) 13 [] (parts:=[(0,.tmp 47)]) (cells:=[vi<|IntKind.i64.wrap ((IntKind.i64.wrap ((p1.Next.length:Int)+(IntKind.i64.wrap<|v10 * x27)))+v12)]) (xs:=([(IntKind.i64.wrap ((IntKind.i64.wrap ((p1.Next.length:Int)+(IntKind.i64.wrap<|v10 * x27)))+v12))]:List Int)) R R R R R R Y26 a8 R R R R R R R R R R ⟨[vi<|IntKind.i64.wrap ((IntKind.i64.wrap ((p1.Next.length:Int)+(IntKind.i64.wrap<|v10 * x27)))+v12)],[],Zl K79 w78 [],Zl K79 w78 [],R,Zl.sp (l1:=[]) (l2:=[]) R,Zl.sr (l1:=[]) (l2:=[]),R,R⟩ λbs bo w83 K84 S85 f86=>Tv<|Ob h λx49 hx49 h=>Jm1 (κ:=K84) (E:=E6) 12 [] R R R R R R R R R Y26 a8 R R R R (f81.stp S85 R R) (Sl.srcP (cb _) f86.rdc) bJ hx49 R λbj bc w88 K89 S90 f91=>Tv<|Jc 1 R<|Jz<|Jp<|Jf3 R ?_
 have hw71:sh .i64 (v12+1)=v12+1:=wr1 hj71 (Jm2 hc71) hN71
 rw[hw71]
 have hc71:=Jm2 hc71
 cases h
 exact Jz1 λa ha=>⟨k,_,Ja3 _,⟨K89,v12+1,x49,bj,bc,R,(T3 S80 S85 S90).wk R,f91,by omega,by omega,hk82⟩,(ha.mm R)⟩
 rintro _ w74 ⟨K75,s6,ak,ah,rfl,S76,f77,rfl⟩
 have h:=yI hK72
 refine Jp<|Je [2,1,1,1,2,1] R<|Jd3 R U75 R Z26 ?_
 have f92:=f65.stp (S69.tr S76) R R
 refine Jb3 R I26 (f92.ld 0 R R)<|Jn1 (κ:=K75) (E:=E6) 13 [] (parts:=[(0,.const (vi 1))]) (cells:=[vi 1]) (xs:=([1]:List Int)) R R R R R R Y26 a8 R R R R R R R R R R ⟨[vi 1],[],Zl K75 w74 [],Zl K75 w74 [],R,Zl.sp (l1:=[]) (l2:=[]) R,Zl.sr (l1:=[]) (l2:=[]),R,R⟩ λbn bw w93 K94 S95 f96=>Tv<|Ob h λx53 hx53 h=>Jm1 (κ:=K94) (E:=E6) 10 [] R R R R R R R R R Y26 a8 R R R R (f63.stp (T3 S69 S76 S95) R R) (Sl.srcP (cb _) f96.rdc) bJ hx53 R λau aH w98 K99 S100 f101=>Tv<|Jd3 R U75 R Z26<|Ji1 (κ:=K99) 9 (off:=0) (vc:=[.slice au x53.length aH]) (cs':=[.slice au x53.length aH,.slice an s1.2.length af]) R R R R R R R Z26 R R (f92.stp (S95.tr S100) R R) R R λw103 S104 f105=>Tv<|Jd<|Ja [2,1,2,1,1,2,1] R<|Jd3 R U75 R Z27<|Jb3 R I27 (f105.ld 1 R R)<|Jn 1 R ?_
 obtain⟨K107,S108,z109⟩:=kz K99 w103 12
 refine Jn1 (κ:=K107) (E:=(Ep.fz<|Rp.sl<|Rp.int .i64)) 14 [] (parts:=[(0,.tmp 57)]) (cells:=[.slice ak s6.length ah]) (xs:=([s6]:List (List Int))) R R R R R R Y27 bZ R R R R R R R R R R ⟨[.slice ak s6.length ah],[],Zl K107 w103 [],Zl K107 w103 [],R,Zl.sp (l1:=[]) (l2:=[]) R,Zl.sr (l1:=[]) (l2:=[]),⟨_,_,R,(Sl.z1<|Sl.st z109 (f77.stp (T3 S95 S100 S104) R R).rdc)⟩,R⟩ λbt bl w111 K112 S113 f114=>Tv<|Ob h λx59 hx59 h=>Jm1 (κ:=K112) (E:=(Ep.fz<|Rp.sl<|Rp.int .i64)) 11 [14] R R R R R R R R R Y27 bZ R R R R (f64.stp (T7 S69 S76 S95 S100 S104 S108 S113) R R) f114.src (fk R) hx59 R λaW aX w116 K117 S118 f119=>Tv<|Jd3 R U75 R Z27<|Ji1 (κ:=K117) 9 (off:=1) (vc:=[.slice aW x59.length aX]) (cs':=[.slice au x53.length aH,.slice aW x59.length aX]) R R R R R R R Z27 R R (f105.stp (T3 S108 S113 S118) R R) R R λw121 S122 f123=>Tv<|Jo<|Jz<|Jp<|Jf3 R ?_
 have hw51:sh .i64 (v10+1)=v10+1:=wr1 hj51 (Jm2 hc51) hN51
 rw[hw51]
 have hc51:=Jm2 hc51
 cases h
 exact Jz1 λa ha=>⟨k,_,Ja3 _,⟨K117,v10+1,(x53,x59),au,aH,aW,aX,R,(T10 S62 S69 S76 S95 S100 S104 S108 S113 S118 S122).wk R,(f101.stp (T5 S104 S108 S113 S118 S122) R R),(f119.stp S122 R R),f123,by omega,by omega,hk66⟩,(ha.mm R)⟩
 rintro _ w54 ⟨K55,s3,aF,aD,aU,az,rfl,S56,f57,f58,f59,rfl⟩
 have h:=yI hK52
 refine Jp<|Jq<|Je3 R ?_
 have hN126:(p1.Next.length:Int)<=9223372036854775807:=f15.len_le
 refine Ob h λq8 hq128 hK127=>?_
 clear h
 refine Jx1 (λL w'=>∃κ',∃s9:(List Int)×(List<|List Int),∃aa ad ac ab,L=[(3,.pointer (some ⟨b3,0,none⟩)),(4,.pointer (some ⟨b4,0,none⟩)),(9,.pointer (some ⟨b9,0,none⟩))]/\Stp [9,10,11,16] K55 w54 κ' w'/\Oc E6 2 κ' w' 10 aa ad s9.1/\Oc (Ep.fz<|Rp.sl<|Rp.int .i64) 26 κ' w' 11 ac ab s9.2/\Bc κ' w' 9 b9 75 [.slice aa s9.1.length ad,.slice ac s9.2.length ab]/\q8=vq s9) ?_ ?_
 refine Jv<|Jy1 (λk L w'=>∃κ' v13,∃s7:(List Int)×(List<|List Int),∃al ae am ai,L=[(2,.pointer (some ⟨b2,0,none⟩)),(3,.pointer (some ⟨b3,0,none⟩)),(4,.pointer (some ⟨b4,0,none⟩)),(7,vi (p1.Next.length:Int)),(8,vi x27),(9,.pointer (some ⟨b9,0,none⟩)),(13,vi v13)]/\Stp [9,10,11,16] K55 w54 κ' w'/\Oc E6 2 κ' w' 10 al ae s7.1/\Oc (Ep.fz<|Rp.sl<|Rp.int .i64) 26 κ' w' 11 am ai s7.2/\Bc κ' w' 9 b9 75 [.slice al s7.1.length ae,.slice am s7.2.length ai]/\0<=v13/\vu ((p1.Next.length:Int)-v13)=k/\cntM (dC p0 p1 x27) k v13 s7=some q8) ⟨_,_,⟨K55,0,(s3.1,s3.2),aF,aD,aU,az,R,Jj3,f57,f58,f59,(by decide),(by simp),hq128⟩,(KM R)⟩ ?_
 rintro k _ w135 ⟨K136,v13,s7,al,ae,am,ai,rfl,S137,f138,f139,f140,hj126,hJ126,h⟩
 rcases k with _ | k
 have hk141:=h;obtain⟨o126,h⟩:=cc (vq (vr s7):(Arena×(List Pair)×Bool)⊕(((List Int)×(List (List Int)))⊕((List Int)×(List (List Int)))))
 have hc126:decide (v13<(p1.Next.length:Int))=false:=Jo2 (by omega)
 refine Jq<|Je3 R<|Jw2 R hc126<|Jc1<|Jt<|Jt ?_
 cases h
 have h:=hk141
 refine Jb1 ?_
 cases h
 exact Jw1 _ ⟨K136,(s7.1,s7.2),al,ae,am,ai,R,S137.wk R,f138,f139,f140,R⟩<|KM R
 obtain⟨o126,h,hk141⟩:=BI h;unfold dC at h
 have hc126:decide (v13<(p1.Next.length:Int))=true:=Jn2 (by omega)
 refine Jq<|Je3 R<|Jv2 R hc126<|Js<|Jp<|Jq<|Jv<|Je3 R<|Ob h λ_ hr142 h=>?_
 have hN142:=lZ hr142
 refine Ob h λq11 hq144 hK143=>?_
 clear h
 refine Jx1 (λL w'=>∃κ',∃s12:(List Int)×(List<|List Int),∃aB aS aq aR,L=[(2,.pointer (some ⟨b2,0,none⟩)),(3,.pointer (some ⟨b3,0,none⟩)),(4,.pointer (some ⟨b4,0,none⟩)),(7,vi (p1.Next.length:Int)),(8,vi x27),(9,.pointer (some ⟨b9,0,none⟩)),(13,vi v13)]/\Stp [9,10,11,16] K136 w135 κ' w'/\Oc E6 2 κ' w' 10 aB aS s12.1/\Oc (Ep.fz<|Rp.sl<|Rp.int .i64) 26 κ' w' 11 aq aR s12.2/\Bc κ' w' 9 b9 75 [.slice aB s12.1.length aS,.slice aq s12.2.length aR]/\q11=vq s12) ?_ ?_
 refine Jv<|Jy1 (λk L w'=>∃κ' v14,∃s10:(List Int)×(List<|List Int),∃aw ax aj ao,L=[(2,.pointer (some ⟨b2,0,none⟩)),(3,.pointer (some ⟨b3,0,none⟩)),(4,.pointer (some ⟨b4,0,none⟩)),(7,vi (p1.Next.length:Int)),(8,vi x27),(9,.pointer (some ⟨b9,0,none⟩)),(13,vi v13),(14,vi v14)]/\Stp [9,10,11,16] K136 w135 κ' w'/\Oc E6 2 κ' w' 10 aw ax s10.1/\Oc (Ep.fz<|Rp.sl<|Rp.int .i64) 26 κ' w' 11 aj ao s10.2/\Bc κ' w' 9 b9 75 [.slice aw s10.1.length ax,.slice aj s10.2.length ao]/\0<=v14/\vu (x27-v14)=k/\cntM (dE p0 p1 v13) k v14 s10=some q11) ⟨_,_,⟨K136,0,(s7.1,s7.2),al,ae,am,ai,R,Jj3,f138,f139,f140,(by decide),(by simp),hq144⟩,(KM R)⟩ ?_
 rintro k _ w151 ⟨K152,v14,s10,aw,ax,aj,ao,rfl,S153,f154,f155,f156,hj142,hJ142,h⟩
 rcases k with _ | k
 have hk157:=h;obtain⟨o142,h⟩:=cc (vq (vr s10):(Arena×(List Pair)×Bool)⊕(((List Int)×(List (List Int)))⊕((List Int)×(List (List Int)))))
 have hc142:decide (v14<x27)=false:=Jo2 (by omega)
 refine Jq<|Je3 R<|Jw2 R hc142<|Jc1<|Jt<|Jt ?_
 cases h
 have h:=hk157
 refine Jb1 ?_
 cases h
 exact Jw1 _ ⟨K152,(s10.1,s10.2),aw,ax,aj,ao,R,S153.wk R,f154,f155,f156,R⟩<|KM R
 obtain⟨o142,h,hk157⟩:=BI h;unfold dE at h
 have hc142:decide (v14<x27)=true:=Jn2 (by omega)
 refine Jq<|Je3 R<|Jv2 R hc142<|Js<|Jp<|Jq<|Jv<|Je [2,1,1,1,2,1] R<|Jd3 R U75 R Z26<|Jb3 R I26 (f156.ld 0 R R)<|Jn1 (κ:=K152) (E:=E6) 12 [] (parts:=[(0,.const (vi 0))]) (cells:=[vi 0]) (xs:=([0]:List Int)) R R R R R R Y26 a8 R R R R R R R R R R ⟨[vi 0],[],Zl K152 w151 [],Zl K152 w151 [],R,Zl.sp (l1:=[]) (l2:=[]) R,Zl.sr (l1:=[]) (l2:=[]),R,R⟩ λbr bm w158 K159 S160 f161=>Tv<|Ob h λx74 hx74 h=>Jm1 (κ:=K159) (E:=E6) 10 [] R R R R R R R R R Y26 a8 R R R R (f154.stp S160 R R) (Sl.srcP (cb _) f161.rdc) bJ hx74 R λaP aE w163 K164 S165 f166=>Tv<|Jd3 R U75 R Z26<|Ji1 (κ:=K164) 9 (off:=0) (vc:=[.slice aP x74.length aE]) (cs':=[.slice aP x74.length aE,.slice aj s10.2.length ao]) R R R R R R R Z26 R R (f156.stp (S160.tr S165) R R) R R λw168 S169 f170=>Tv<|Jd<|Js1 (κ:=K164) [2,3,9] (some 10) [(0,2),(4,2),(5,2),(1,0),(2,0),(3,0),(6,1),(7,1),(8,1),(9,2)] [(10,1)] (by kernel_rfl) (by kernel_rfl) λw172 S171=>Jd3 R U75 R Z27<|Jn 2 R ?_
 have f173:=f170.stp S171 R R
 have S001:=(T11 S21 S41 S46 S49 S56 S137 S153 S160 S165 S169 S171)
 have S002:=(T10 S41 S46 S49 S56 S137 S153 S160 S165 S169 S171)
 refine Jg R (Jc2 I27 R R<|hvC (f173.ld 1 R R) R)<|Jg R (Jd2 (cs:=[vi p0.In,vi p0.Out]) I25 Z25 R R R<|haC (f36.stp S002 R R).cells R)<|Jg R (Jd2 (cs:=[.slice aK p1.Next.length aQ,.slice aG p1.Pairs.length ay]) I71 Z71 R R R<|haC (f35.stp S002 R R).cells R)<|Ob h λx82 hx82 h=>Jh R R R C58 (oB (κ:=λb=>mp [] 1<|K164 b) (p0:=p0) (p1:=p1) (Jl2 (f15.stp S001 R R) (mp [] 1) R R) (Jl2 (f16.stp S001 R R) (mp [] 1) R R) hx82) ?_
 rintro _ w178 ⟨k179,aZ,ba,rfl,e180,f181⟩
 obtain⟨K182,S183,m184,z185⟩:=Jj e180 13 R
 refine⟨(S183.cl R),Jn1 (κ:=K182) (E:=(Ep.fz<|Rp.sl<|Rp.int .i64)) 16 [] (parts:=[(0,.tmp 82)]) (cells:=[.slice aZ x82.length ba]) (xs:=([x82]:List (List Int))) R R R R R R Y27 bZ R R R R R R R R R R ⟨[.slice aZ x82.length ba],[],Zl K182 w178 [],Zl K182 w178 [],R,Zl.sp (l1:=[]) (l2:=[]) R,Zl.sr (l1:=[]) (l2:=[]),⟨_,_,R,(Sl.z1<|f181.mx z185)⟩,R⟩ λbu bp w187 K188 S189 f190=>⟨((S183.tr S189).cl R),Ob h λx84 hx84 h=>Jm1 (κ:=K188) (E:=(Ep.fz<|Rp.sl<|Rp.int .i64)) 11 [16] R R R R R R R R R Y27 bZ R R R R (f155.stp (T6 S160 S165 S169 S171 S183 S189) R R) f190.src (fk R) hx84 R λaY aV w192 K193 S194 f195=>⟨((T3 S183 S189 S194).cl R),Jd3 R U75 R Z27<|Jt1<|Ji1 (κ:=K193) 9 (off:=1) (vc:=[.slice aY x84.length aV]) (cs':=[.slice aP x74.length aE,.slice aY x84.length aV]) R R R R R R R Z27 R R (f173.stp (T3 S183 S189 S194) R R) R R λw197 S198 f199=>Tv<|Jo<|Jz<|Jp<|Jf3 R ?_⟩⟩⟩
 have hw142:sh .i64 (v14+1)=v14+1:=wr1 hj142 (Jm2 hc142) hN142
 rw[hw142]
 have hc142:=Jm2 hc142
 cases h
 exact Jz1 λa ha=>⟨k,_,Ja3 _,⟨K193,v14+1,(x74,x84),aP,aE,aY,aV,R,(T9 S153 S160 S165 S169 S171 S183 S189 S194 S198).wk R,(f166.stp (T6 S169 S171 S183 S189 S194 S198) R R),(f195.stp S198 R R),f199,by omega,by omega,hk157⟩,(ha.mm R)⟩
 rintro _ w145 ⟨K146,s12,aB,aS,aq,aR,rfl,S147,f148,f149,f150,rfl⟩
 have h:=yI hK143
 refine Jz<|Jp<|Jf3 R ?_
 have hw126:sh .i64 (v13+1)=v13+1:=wr1 hj126 (Jm2 hc126) hN126
 rw[hw126]
 have hc126:=Jm2 hc126
 cases h
 exact Jz1 λa ha=>⟨k,_,Ja3 _,⟨K146,v13+1,(s12.1,s12.2),aB,aS,aq,aR,R,(S137.tr S147).wk R,f148,f149,f150,by omega,by omega,hk141⟩,(ha.mm R)⟩
 rintro _ w129 ⟨K130,s9,aa,ad,ac,ab,rfl,S131,f132,f133,f134,rfl⟩
 have h:=yI hK127
 refine Jp<|Je [1,2] R<|Jo1 (κ:=K130) (E:=Pair.ep102) 12 R R R R R Y69 dZ R λbg bd w202 K203 S204 f205=>Tv<|Jb 1 R<|Jq<|Je3 R ?_
 have hN206:(p1.Pairs.length:Int)<=9223372036854775807:=f16.len_le
 refine Ob h λq14 hq208 hK207=>?_
 clear h
 refine Jx1 (λL w'=>∃κ',∃s15:(List Pair),∃av aL,L=[(4,.pointer (some ⟨b4,0,none⟩)),(9,.pointer (some ⟨b9,0,none⟩)),(15,.slice av s15.length aL)]/\Stp [12,15,18,19] K203 w202 κ' w'/\Oc Pair.ep102 102 κ' w' 12 av aL s15/\q14=vq s15) ?_ ?_
 refine Jv<|Jy1 (λk L w'=>∃κ' v16,∃s13:(List Pair),∃aT ap,L=[(3,.pointer (some ⟨b3,0,none⟩)),(4,.pointer (some ⟨b4,0,none⟩)),(9,.pointer (some ⟨b9,0,none⟩)),(15,.slice aT s13.length ap),(16,vi v16)]/\Stp [12,15,18,19] K203 w202 κ' w'/\Oc Pair.ep102 102 κ' w' 12 aT ap s13/\0<=v16/\vu ((p1.Pairs.length:Int)-v16)=k/\cntM (dG p1) k v16 s13=some q14) ⟨_,_,⟨K203,0,(([]:List Pair):(List Pair)),bg,bd,R,Jj3,f205,(by decide),(by simp),hq208⟩,(KM R)⟩ ?_
 rintro k _ w213 ⟨K214,v16,s13,aT,ap,rfl,S215,f216,hj206,hJ206,h⟩
 rcases k with _ | k
 have hk217:=h;obtain⟨o206,h⟩:=cc (vq (vr s13):(Arena×(List Pair)×Bool)⊕(((List Pair))⊕((List Pair))))
 have hc206:decide (v16<(p1.Pairs.length:Int))=false:=Jo2 (by omega)
 refine Jq<|Jg3 [2,2,1,2,2] 1 R<|Jd3 R U71 R Z69<|Jb3 R I69 ((f35.stp (T7 S41 S46 S49 S56 S131 S204 S215) R R).ld 1 R R)<|Jn3 R U69 R R<|Jb 1 R<|Jw2 R hc206<|Jc1<|Jt<|Jt ?_
 cases h
 have h:=hk217
 refine Jb1 ?_
 cases h
 exact Jw1 _ ⟨K214,s13,aT,ap,R,S215.wk R,f216,R⟩<|KM R
 obtain⟨o206,h,hk217⟩:=BI h;unfold dG at h
 have hc206:decide (v16<(p1.Pairs.length:Int))=true:=Jn2 (by omega)
 refine Jq<|Jg3 [2,2,1,2,2] 1 R<|Jd3 R U71 R Z69 ?_
 have f219:=f35.stp (T7 S41 S46 S49 S56 S131 S204 S215) R R
 refine Jb3 R I69 (f219.ld 1 R R)<|Jn3 R U69 R R<|Jb 1 R<|Jv2 R hc206<|Js<|Jp<|Jq<|Jv<|Js1 (κ:=K214) [0,3] none [(0,2),(1,2),(3,2),(8,2),(10,2),(2,0),(4,2),(5,2),(6,0),(9,0),(11,2),(12,2),(13,0),(7,1),(14,1),(15,2),(16,1),(17,1),(18,2)] [] (by kernel_rfl) (by kernel_rfl) λw221 S220=>Jn 1 R<|Jd3 R U71 R Z69<|Jn 1 R<|Jd3 R U71 R Z69<|Jn 1 R ?_
 have f222:=f219.stp S220 R R
 refine Jg R (Jc2 I69 R R<|hvC (f222.ld 1 R R) R)<|Ob h λx98 hx98 h=>Jc3 R f16 hx98 U69 Z102<|Jd3 R U102 R Z26 ?_
 have f223:=f16.stp (T9 S21 S41 S46 S49 S56 S131 S204 S215 S220) R R
 obtain⟨cse224,hre224,hle224⟩:=(f223).gSt hx98
 obtain⟨ae224_0,ue224_0,ae224_1,ue224_1,rfl,fe224_0,fe224_1⟩:=Pair.un hre224
 refine Jg R (Jc2 I26 R R<|hvC (λw' hw'=>hle224 w' hw' 0 _ R) R)<|Jg R (Jc2 I69 R R<|hvC (f222.ld 1 R R) R)<|Ob h λx105 hx105 h=>Jc3 R f223 hx105 U69 Z102<|Jd3 R U102 R Z26 ?_
 obtain⟨cse225,hre225,hle225⟩:=(f223).gSt hx105
 obtain⟨ae225_0,ue225_0,ae225_1,ue225_1,rfl,fe225_0,fe225_1⟩:=Pair.un hre225
 refine Jg R (Jc2 I26 R R<|hvC (λw' hw'=>hle225 w' hw' 1 _ R) R)<|Ob h λx101 hx101 h=>Jh R R R C59 (df (κ:=Mk K214) (Ji3 fe224_0) hx101) ?_
 rintro _ w226 ⟨k227,aA,aO,rfl,e228,f229⟩
 obtain⟨K230,S231,m232⟩:=Ji e228 13 R
 refine⟨(S231.cl R),Ob h λx108 hx108 h=>Jh R R R C59 (df (κ:=Mk K230) (Ji3<|fe225_1.stp S231 R R) hx108) ?_⟩
 rintro _ w236 ⟨k237,aC,ar,rfl,e238,f239⟩
 obtain⟨K240,S241,m242⟩:=Ji e238 16 R
 have S003:=(S231.tr S241)
 refine⟨(S003.cl R),Jf R (bF (parts:=[(0,.tmp 101),(1,.tmp 108)]) (cells:=[.slice aA x101.length aO,.slice aC x108.length ar]) R R (by kernel_rfl))<|Jn1 (κ:=K240) (E:=Pair.ep102) 19 [15,18] (parts:=[(0,.tmp 109)]) (cells:=[.slice aA x101.length aO,.slice aC x108.length ar]) (xs:=([(⟨x101,x108⟩:Pair)]:List Pair)) R R R R R R Y69 dZ R R R R R R R R R R ⟨[.slice aA x101.length aO,.slice aC x108.length ar],[],Zl K240 w236 [15,18],Zl K240 w236 [],R,Zl.sp (l1:=[15,18]) (l2:=[]) R,Zl.sr (l1:=[15,18]) (l2:=[]),⟨[.slice aA x101.length aO],[.slice aC x108.length ar],Zl K240 w236 [15],Zl K240 w236 [18],R,Zl.sp (l1:=[15]) (l2:=[18]) R,Zl.sr (l1:=[15]) (l2:=[18]),⟨_,_,R,((f229.mx (bE _) m232 R (R:13+2=15)).stp S241 R R)⟩,⟨_,_,R,(f239.mx (bE _) m242 R (R:16+2=18))⟩⟩,R⟩ λbv bq w246 K247 S248 f249=>⟨((S003.tr S248).cl R),Ob h λx111 hx111 h=>Jm1 (κ:=K247) (E:=Pair.ep102) 12 [19] R R R R R R R R R Y69 dZ R R R R (f216.stp (T4 S220 S231 S241 S248) R R) f249.src (fk R) hx111 R λbb bh w251 K252 S253 f254=>⟨((T3 S003 S248 S253).cl R),Jn 1 R<|Jt1<|Jo<|Jz<|Jp<|Jf3 R ?_⟩⟩⟩
 have hw206:sh .i64 (v16+1)=v16+1:=wr1 hj206 (Jm2 hc206) hN206
 rw[hw206]
 have hc206:=Jm2 hc206
 cases h
 exact Jz1 λa ha=>⟨k,_,Ja3 _,⟨K252,v16+1,x111,bb,bh,R,(T6 S215 S220 S231 S241 S248 S253).wk R,f254,by omega,by omega,hk217⟩,(ha.mm R)⟩
 rintro _ w209 ⟨K210,s15,av,aL,rfl,S211,f212,rfl⟩
 have h:=yI hK207
 refine Jp<|Je [1,2,1,2,2] R<|Jl tv R R R R (Jd2 (cs:=[.slice aa s9.1.length ad,.slice ac s9.2.length ab]) I75 Z75 R R R<|haE (f134.stp (S204.tr S211) R R).cells)<|Jn 1 R<|Jj1 (κ:=K210) 4 (vc:=[.slice aa s9.1.length ad,.slice ac s9.2.length ab]) R R R R R R R Z75 R R (f12.stp (T8 S21 S41 S46 S49 S56 S131 S204 S211) R R) R λw257 S258 f259=>Tv<|Jb 2 R<|Ju<|Ja2 (l:=[.cell 4 75,.tmp 5,.tmp 6]) V44 (bH R f259 I75 Z75 R<|Jp2 R<|Jp2 R R) R ?_
 cases h
 have S004:=(T3 S204 S211 S258)
 exact⟨(λb=>ren [(10,2),(11,3),(12,4)]<|K210 b),aa,ad,ac,ab,av,aL,R,((hE.stp (T12 S3 S7 S11 S21 S41 S46 S49 S56 S131 S204 S211 S258) R R).map (ren [(10,2),(11,3),(12,4)]) R R),((f132.stp S004 R R).map (ren [(10,2),(11,3),(12,4)]) R R),((f133.stp S004 R R).map (ren [(10,2),(11,3),(12,4)]) R R),((f212.stp S258 R R).map (ren [(10,2),(11,3),(12,4)]) R R)⟩
 refine JT λh=>Jx R<|Je [2,1,1,2,2] R<|Jf R (bF (parts:=[]) (cells:=[.slice none 0 0,.slice none 0 0]) R R (by kernel_rfl))<|Jo1 (κ:=K20) (E:=Pair.ep102) 7 R R R R R Y69 dZ R λbi bk w25 K26 S27 f28=>Tv<|Jj1 (κ:=K26) 4 (vc:=[.slice none 0 0,.slice none 0 0]) R R R R R R R Z75 R R (f12.stp (S21.tr S27) R R) R λw30 S31 f32=>Tv<|Jb 2 R<|Ju<|Jw<|Ja2 (l:=[.cell 4 75,.tmp 5,.tmp 6]) V44 (bH R f32 I75 Z75 R<|Jp2 R<|Jp2 R R) R ?_
 cases h
 exact⟨(λb=>ren [(7,4)]<|K26 b),none,0,none,0,bi,bk,R,((hE.stp (T6 S3 S7 S11 S21 S27 S31) R R).map (ren [(7,4)]) R R),Ow.nil,Ow.nil,((f28.stp S31 R R).map (ren [(7,4)]) R R)⟩
theorem oo {ad ac ae ab af aa}{p0:Parity}{a1 u1}{p1:(List Int)}(g0_0_0:Rd (Rp.int .i64) κ w 0 ad ac p0.Arena.Owner) (g0_0_1:Rd (Rp.sl (Rp.int .i64)) κ w 0 ae ab p0.Arena.Next) (g0_1:Rd (Rp.int .i64) κ w 0 af aa p0.Prio) (g1:Rd (Rp.int .i64) κ w 0 a1 u1 p1){r:Bool}(h:ja p0 p1=some r):Ret Try.prog 81 [.agg #[.slice ad p0.Arena.Owner.length ac,.slice ae p0.Arena.Next.length ab,.slice af p0.Prio.length aa],.slice a1 p1.length u1] w (Pvb κ w r):=by
 unfold ja at h
 refine Jk3 κ F81 R N81 R λhE=>Je [1,2] R<|Jf1 (κ:=κ) 2 R R R R R R R λb2 w1 K2 S3 f4=>Tv<|Jb 1 R<|Je [1,2,1,2,2,2,1,1,2] R<|Jl tv R R R R (Jd2 (cs:=[.slice ad p0.Arena.Owner.length ac,.slice ae p0.Arena.Next.length ab,.slice af p0.Prio.length aa]) I79 Z79 R R R<|haE f4.cells)<|Jn 1 R<|Ob h λx10 hx10 h=>?_
 have f5:=g0_0_0.stp S3 R R
 have f6:=g0_0_1.stp S3 R R
 have f7:=g0_1.stp S3 R R
 refine Jh R R R C91 (qh (κ:=Mk K2) (p0:=p0) (Ji3 f5) (Ji3 f6) (Ji3 f7) (Ji3<|g1.stp S3 R R) hx10) ?_
 rintro _ w9 ⟨k10,ai,ak,ah,al,am,aj,rfl,e11,f12,f13,f14⟩
 obtain⟨K15,S16,m17⟩:=Ji e11 3 R
 refine Tv<|Jn 3 R<|Jg1 (κ:=K15) 8 R R R R R X79 R λb5 w22 K23 S24 f25=>Tv<|Jj1 (κ:=K23) 8 (vc:=[.slice ai x10.1.Arena.Owner.length ak,.slice ah x10.1.Arena.Next.length al,.slice am x10.1.Prio.length aj]) R R R R R R R Z79 R R f25 R λw26 S27 f28=>Tv<|Jb 1 R<|Jq<|Js1 (κ:=K23) [2,8] none [(0,2),(1,2),(2,0),(4,0),(3,1),(5,1),(6,1),(7,2),(8,2)] [] (by kernel_rfl) (by kernel_rfl) λw30 S29=>Jn 2 R<|Ob h λp20 h hK31=>Ju1 [(2,0),(4,0),(3,1),(5,1),(6,1),(7,2)] [(8,2)] (λL w'=>L=[(4,.bool false),(20,.bool p20)]/\∃κ',Stp [] K23 w30 κ' w') (Cl.refl _ _ _) ?_ ?_
 revert h
 cases ht32:x10.2
 refine JF λh=>Je1 R R R R<|Je1 R R R R<|Jd1 R R R R<|Jd1 R R R R<|Jd1 R R R R<|Jn 1 R ?_
 cases h
 exact Jv1 _ (Cl.refl _ _ _) ⟨R,_,Jj3⟩<|KM R
 have S001:=(T3 S24 S27 S29)
 refine JT λh=>Jg R (Jd2 (cs:=[.slice ai x10.1.Arena.Owner.length ak,.slice ah x10.1.Arena.Next.length al,.slice am x10.1.Prio.length aj]) I79 Z79 R R R<|haC (f28.stp S29 R R).cells R)<|Jg R (Jd2 (cs:=[.slice ad p0.Arena.Owner.length ac,.slice ae p0.Arena.Next.length ab,.slice af p0.Prio.length aa]) I79 Z79 R R R<|haC (f4.stp (T4 S16 S24 S27 S29) R R).cells R)<|Ob h λx16 hx16 h=>Jh R R R C82 (lQ (κ:=Mk K23) (p0:=x10.1) (Ji3 ((f12.mx (bE _) m17 R (R:3+2=5)).stp S001 R R).rdc) (Ji3 ((f13.mx (dB (bE _) _) m17 R (R:3+3=6)).stp S001 R R).rdc) (Ji3 ((f14.mx (bE _) m17 R (R:3+4=7)).stp S001 R R).rdc) hx16) ?_
 rintro _ w38 ⟨k39,an,aq,rfl,e40,f41⟩
 obtain⟨K42,S43,m44⟩:=Ji e40 9 R
 have S002:=(T5 S16 S24 S27 S29 S43)
 refine⟨(S43.cl R),Ob h λx18 hx18 h=>Jh R R R C82 (lQ (κ:=Mk K42) (p0:=p0) (Ji3<|f5.stp S002 R R) (Ji3<|f6.stp S002 R R) (Ji3<|f7.stp S002 R R) hx18) ?_⟩
 rintro _ w50 ⟨k51,ao,ap,rfl,e52,f53⟩
 obtain⟨K54,S55,m56⟩:=Ji e52 12 R
 refine⟨((S43.tr S55).cl R),Ob h λx19 hx19 h=>Jh R R R C92 (p7 (κ:=Mk K54) (Ji3 ((f41.mx (bE _) m44 R (R:9+2=11)).stp S55 R R).rdc) (Ji3 (f53.mx (bE _) m56 R (R:12+2=14)).rdc) hx19) ?_⟩
 rintro _ w60 ⟨k61,rfl,e62⟩
 obtain⟨K63,S64,m65⟩:=Ji e62 15 R
 refine⟨((T3 S43 S55 S64).cl R),Jn 1 R ?_⟩
 cases h
 exact Jv1 _ ((T3 S43 S55 S64).cl R) ⟨R,_,(T3 S43 S55 S64).wk R⟩<|KM R
 rintro _ w67 _ ⟨rfl,K68,S69⟩
 have h:=hK31
 refine Jn 1 R<|Jt1<|Jd<|Ju<|Ja2 (l:=[.tmp 4]) V81 (Jp2 R R) R ?_
 cases h
 exact⟨K68,R,(hE.stp (T6 S3 S16 S24 S27 S29 S69) R R)⟩
theorem jA {af ak ah ae ai aj}{p0:Parity}{a1 u1}{p1:(List Int)}(g0_0_0:Rd (Rp.int .i64) κ w 0 af ak p0.Arena.Owner) (g0_0_1:Rd (Rp.sl (Rp.int .i64)) κ w 0 ah ae p0.Arena.Next) (g0_1:Rd (Rp.int .i64) κ w 0 ai aj p0.Prio) (g1:Rd (Rp.int .i64) κ w 0 a1 u1 p1){r:Answer×Bool}(h:iJ p0 p1=some r):Ret Try.prog 67 [.agg #[.slice af p0.Arena.Owner.length ak,.slice ah p0.Arena.Next.length ae,.slice ai p0.Prio.length aj],.slice a1 p1.length u1] w (λv w'=>∃(κ':Col) (ra0:Option Addr) (ru0:Nat) (ra1:Option Addr) (ru1:Nat),v= .tuple #[.agg #[.slice ra0 r.1.Won.length ru0,.slice ra1 r.1.Plan.length ru1],.bool r.2]/\Ent κ w κ' w'/\Oc E6 2 κ' w' 2 ra0 ru0 r.1.Won/\Oc E6 2 κ' w' 3 ra1 ru1 r.1.Plan):=by
 unfold iJ at h
 refine Jk3 κ F67 R N67 R λhE=>Je [1,1,2] R<|Jf1 (κ:=κ) 2 R R R R R R R λb2 w1 K2 S3 f4=>Tv<|Jg1 (κ:=K2) 3 R R R R R X84 R λb4 w5 K6 S7 f8=>Tv<|Jb 1 R<|Jq<|Je [1,2,1,2] R ?_
 have f9:=f4.stp S7 R R
 refine Jl tv R R R R (Jd2 (cs:=[.slice af p0.Arena.Owner.length ak,.slice ah p0.Arena.Next.length ae,.slice ai p0.Prio.length aj]) I79 Z79 R R R<|haE f9.cells)<|Jn 1 R<|Ob h λx15 hx15 h=>?_
 have f10:=g0_0_0.stp (S3.tr S7) R R
 have f11:=g0_0_1.stp (S3.tr S7) R R
 have f12:=g0_1.stp (S3.tr S7) R R
 have f13:=g1.stp (S3.tr S7) R R
 refine Jh R R R C81 (oo (κ:=Mk K6) (p0:=p0) (Ji3 f10) (Ji3 f11) (Ji3 f12) (Ji3 f13) hx15) ?_
 rintro _ w14 ⟨k15,rfl,e16⟩
 obtain⟨K17,S18,m19⟩:=Ji e16 4 R
 refine Tv<|Jb 1 R ?_
 revert h
 cases ht21:(!x15)
 refine JF λh=>Jy R<|Js<|Jp<|Je [1,1,2] R ?_
 have f27:=f9.stp S18 R R
 refine Jl tv R R R R (Jd2 (cs:=[.slice af p0.Arena.Owner.length ak,.slice ah p0.Arena.Next.length ae,.slice ai p0.Prio.length aj]) I79 Z79 R R R<|haE f27.cells)<|Ob h λx19 hx19 h=>?_
 have f28:=f10.stp S18 R R
 have f29:=f11.stp S18 R R
 have f30:=f12.stp S18 R R
 refine Jh R R R C82 (lQ (κ:=Mk K17) (p0:=p0) (Ji3 f28) (Ji3 f29) (Ji3 f30) hx19) ?_
 rintro _ w31 ⟨k32,aa,ab,rfl,e33,f34⟩
 obtain⟨K35,S36,m37⟩:=Ji e33 6 R
 refine Tv<|?_
 have f39:=f34.mx (bE _) m37 R (R:6+2=8)
 refine Jb 1 R<|Je [1,1,1,1] R ?_
 have f40:=f27.stp S36 R R
 refine Jl tv R R R R (Jd2 (cs:=[.slice af p0.Arena.Owner.length ak,.slice ah p0.Arena.Next.length ae,.slice ai p0.Prio.length aj]) I79 Z79 R R R<|haE f40.cells)<|Ob h λx21 hx21 h=>?_
 have f41:=f28.stp S36 R R
 refine Jh R R R C83 (oM (κ:=λb=>mp [] 1<|K35 b) (p0:=p0) (Jl2 f41 (mp [] 1) R R) (Jl2 (f29.stp S36 R R) (mp [] 1) R R) (Jl2 (f30.stp S36 R R) (mp [] 1) R R) hx21) ?_
 rintro _ w44 ⟨k45,au,ar,aw,av,ay,ax,aA,az,ac,ad,rfl,e46,f47,f48,f49,f50,f51⟩
 obtain⟨K52,S53,m54,z55⟩:=Jj e46 9 R
 refine Tv<|Jg1 (κ:=K52) 16 R R R R R X121 R λb7 w61 K62 S63 f64=>Tv<|Jj1 (κ:=K62) 16 (vc:=[.slice au x21.owner.length ar,.slice aw x21.prio.length av,.slice ay x21.next.length ax,.slice aA x21.prev.length az,.slice ac x21.pick.length ad]) R R R R R R R Z121 R R f64 R λw65 S66 f67=>Tv<|Jd<|Jq<|Je3 R ?_
 have hN68:(p1.length:Int)<=9223372036854775807:=f13.len_le
 refine Ob h λq2 hq70 hK69=>?_
 clear h
 refine Jx1 (λL w'=>∃κ',∃s3:(List Int),L=[(2,.pointer (some ⟨b2,0,none⟩)),(4,.pointer (some ⟨b4,0,none⟩)),(6,.slice aa x19.length ab),(7,.pointer (some ⟨b7,0,none⟩))]/\Stp [15] K62 w65 κ' w'/\Oc E6 2 κ' w' 15 ac ad s3/\x21.pick.length=s3.length/\q2=vq s3) ?_ ?_
 refine Jv<|Jy1 (λk L w'=>∃κ' v8,∃s1:(List Int),L=[(1,.slice a1 p1.length u1),(2,.pointer (some ⟨b2,0,none⟩)),(4,.pointer (some ⟨b4,0,none⟩)),(6,.slice aa x19.length ab),(7,.pointer (some ⟨b7,0,none⟩)),(8,vi v8)]/\Stp [15] K62 w65 κ' w'/\Oc E6 2 κ' w' 15 ac ad s1/\x21.pick.length=s1.length/\0<=v8/\vu ((p1.length:Int)-v8)=k/\cntM (fb p0 p1 x19) k v8 s1=some q2) ⟨_,_,⟨K62,0,x21.pick,R,Jj3,((f51.mx (bE _) m54 R (R:9+6=15)).stp (S63.tr S66) R R),R,(by decide),(by simp),hq70⟩,(KM R)⟩ ?_
 rintro k _ w76 ⟨K77,v8,s1,rfl,S78,f79,hn80,hj68,hJ68,h⟩
 rcases k with _ | k
 have hk82:=h;obtain⟨o68,h⟩:=cc (vq (vr s1):(Answer×Bool)⊕(((List Int))⊕((List Int))))
 have hc68:decide (v8<(p1.length:Int))=false:=Jo2 (by omega)
 refine Jq<|Jg3 [2,2,2,2] 2 R<|Jn3 R U26 R R<|Jb 1 R<|Jw2 R hc68<|Jc1<|Jt<|Jt ?_
 cases h
 have h:=hk82
 refine Jb1 ?_
 cases h
 exact Jw1 _ ⟨K77,s1,R,S78.wk R,f79,hn80,R⟩<|KM R
 obtain⟨o68,h,hk82⟩:=BI h;unfold fb at h
 have hc68:decide (v8<(p1.length:Int))=true:=Jn2 (by omega)
 refine Jq<|Jg3 [2,2,2,2] 2 R<|Jn3 R U26 R R<|Jb 1 R<|Jv2 R hc68<|Js<|Jp<|Jq<|Jv<|Jq<|Jq<|Js1 (κ:=K77) [0,2,8] none [(0,2),(1,2),(2,2),(3,0),(4,2),(5,2),(6,2),(7,2),(8,2),(10,2),(11,2),(13,2),(9,0),(12,0),(14,2),(15,0),(16,2),(17,2)] [] (by kernel_rfl) (by kernel_rfl) λw84 S83=>Jn 2 R<|Ob h λx30 hx30 h=>Jc3 R f13 hx30 U26 Z2 ?_
 have f85:=f13.stp (T7 S18 S36 S53 S63 S66 S78 S83) R R
 refine Jg R (Jc2 I2 R R<|hvC (f85.gInt hx30) R)<|Jn 2 R<|Ob h λp45 h hK86=>Ju1 [(6,2),(7,2),(8,2),(10,2),(11,2),(13,2),(9,0),(12,0),(14,2),(15,0),(16,2),(17,2)] [] (λL w'=>L=[(1,.slice a1 p1.length u1),(2,.pointer (some ⟨b2,0,none⟩)),(4,.pointer (some ⟨b4,0,none⟩)),(6,.slice aa x19.length ab),(7,.pointer (some ⟨b7,0,none⟩)),(8,vi v8),(45,.bool p45)]/\∃κ',Stp [] K77 w84 κ' w') (Cl.refl _ _ _) ?_ ?_
 revert h
 cases ht87:(x30 !=(-1))
 refine JF λh=>Jn 6 R<|Je1 R R R R<|Je1 R R R R<|Jn 1 R<|Je1 R R R R<|Jn 2 R ?_
 cases h
 exact Jv1 _ (Cl.refl _ _ _) ⟨R,_,Jj3⟩<|KM R
 have S001:=(T5 S53 S63 S66 S78 S83)
 refine JT λh=>Jn 2 R<|Ob h λx36 hx36 h=>Jc3 R f39.rdc hx36 U26 Z2<|Jd3 R U79 R Z75<|Jd3 R U75 R Z26<|Jn 1 R<|Jg R (Jc2 I2 R R<|hvC ((f39.stp S001 R R).rdc.gInt hx36) R)<|Jg R (Jc2 I26 R R<|hvC ((f40.stp S001 R R).ld 0 R R) R)<|Ob h λx42 hx42 h=>Jc3 R f41 hx42 U26 Z2<|Jg R (Jc2 I2 R R<|hvC ((f41.stp S001 R R).gInt hx42) R)<|Jn 2 R ?_
 cases h
 exact Jv1 _ (Cl.refl _ _ _) ⟨R,_,Jj3⟩<|KM R
 rintro _ w91 _ ⟨rfl,K92,S93⟩
 have h:=hK86
 refine Jt1<|Jd ?_
 revert h
 cases ht94:p45
 refine JF λh=>Jy R<|Js<|Jp<|Js1 (κ:=K92) [0,16] none [(0,2),(2,2),(3,2),(4,2),(5,2),(1,0),(6,0),(7,2),(8,1)] [] (by kernel_rfl) (by kernel_rfl) λw101 S100=>Jd3 R U121 R Z26<|Jn 3 R<|Ob h λx52 hx52 h=>Jc3 R f85 hx52 U26 Z2<|Jg R (Jc2 I26 R R<|hvC ((f67.stp (T4 S78 S83 S93 S100) R R).ld 4 R R) R)<|Jg R (Jc2 I2 R R<|hvC ((f85.stp (S93.tr S100) R R).gInt hx52) R)<|Ob h λx54 hx54 h=>Jf R (Jf2 f79.rdc hx54 U26 Z2 R R hn80 R)<|Ob h λy259 hy259 h=>Jk1 (κ:=K92) (E:=E6) 15 [] R R R R R R R R Z2 R R R R (f79.stp (T3 S83 S93 S100) R R) hy259 λw105 K106 S107 f108=>⟨(S107.cl R),?_⟩
 have hn109:x21.pick.length=y259.length:=hn80.trans (Jt2 hy259).2.2.2.symm
 refine Jt1<|Jo<|Jz<|Jp<|Jf3 R ?_
 have hw68:sh .i64 (v8+1)=v8+1:=wr1 hj68 (Jm2 hc68) hN68
 rw[hw68]
 have hc68:=Jm2 hc68
 cases h
 exact Jz1 λa ha=>⟨k,_,Ja3 _,⟨K106,v8+1,y259,R,(T5 S78 S83 S93 S100 S107).wk R,f108,hn109,by omega,by omega,hk82⟩,(ha.mm R)⟩
 refine JT λh=>Jx R<|Je [2,1,2] R<|Jf R (bF (parts:=[]) (cells:=[.slice none 0 0,.slice none 0 0]) R R (by kernel_rfl))<|Jj1 (κ:=K92) 3 (vc:=[.slice none 0 0,.slice none 0 0]) R R R R R R R Z84 R R (f8.stp (T8 S18 S36 S53 S63 S66 S78 S83 S93) R R) R λw96 S97 f98=>Tv<|Jb 1 R<|Ju<|Jw<|Ja1<|Jw<|Jw ?_
 cases h
 obtain rfl:=Option.some.inj hk82
 have h:=yL hK69
 refine Ja1<|Jq2<|Jw<|Ja2 (l:=[.cell 4 84,.tmp 5]) V67 (bH R f98 I84 Z84 R<|Jp2 R R) R ?_
 cases h
 exact⟨K92,none,0,none,0,R,(hE.stp (T11 S3 S7 S18 S36 S53 S63 S66 S78 S83 S93 S97) R R),Ow.nil,Ow.nil⟩
 rintro _ w71 ⟨K72,s3,rfl,S73,f74,hn75,rfl⟩
 have h:=yI hK69
 refine Jp<|Jg3 [2,1,2] 1 R<|Ob h λx56 hx56 h=>?_
 have f110:=f39.stp (T4 S53 S63 S66 S73) R R
 refine Jh R R R C84 (lF (κ:=Mk K72) (Ji3 f110.rdc) hx56) ?_
 rintro _ w111 ⟨k112,an,ao,rfl,e113,f114⟩
 obtain⟨K115,S116,m117⟩:=Ji e113 17 R
 refine Tv<|Jb 1 R<|Jg3 [2,1,2] 1 R<|Ob h λx58 hx58 h=>?_
 have f120:=f110.stp S116 R R
 refine Jh R R R C84 (lF (κ:=Mk K115) (Ji3 f120.rdc) hx58) ?_
 rintro _ w121 ⟨k122,al,am,rfl,e123,f124⟩
 obtain⟨K125,S126,m127⟩:=Ji e123 20 R
 refine Tv<|Jb 1 R<|Jq<|Je3 R ?_
 obtain⟨K132,S133,z134⟩:=kz K125 w121 19
 obtain⟨K138,S139,z140⟩:=kz K132 w121 22
 have hN142:(x19.length:Int)<=9223372036854775807:=f120.len_le
 refine Ob h λq5 hq144 hK143=>?_
 clear h
 refine Jx1 (λL w'=>∃κ',∃s6:(List Int),L=[(4,.pointer (some ⟨b4,0,none⟩)),(6,.slice aa x19.length ab),(7,.pointer (some ⟨b7,0,none⟩))]/\Stp [15,25] K138 w121 κ' w'/\Oc E6 2 κ' w' 15 ac ad s6/\x21.pick.length=s6.length/\q5=vq s6) ?_ ?_
 refine Jv<|Jy1 (λk L w'=>∃κ' v11,∃s4:(List Int),L=[(2,.pointer (some ⟨b2,0,none⟩)),(4,.pointer (some ⟨b4,0,none⟩)),(6,.slice aa x19.length ab),(7,.pointer (some ⟨b7,0,none⟩)),(9,.slice an x56.length ao),(10,.slice al x58.length am),(11,vi v11)]/\Stp [15,25] K138 w121 κ' w'/\Oc E6 2 κ' w' 15 ac ad s4/\x21.pick.length=s4.length/\0<=v11/\vu ((x19.length:Int)-v11)=k/\cntM (fc p0 x19 x21 x56 x58) k v11 s4=some q5) ⟨_,_,⟨K138,0,s3,R,Jj3,(f74.stp (T4 S116 S126 S133 S139) R R),hn75,(by decide),(by simp),hq144⟩,(KM R)⟩ ?_
 rintro k _ w150 ⟨K151,v11,s4,rfl,S152,f153,hn154,hj142,hJ142,h⟩
 rcases k with _ | k
 have hk156:=h;obtain⟨o142,h⟩:=cc (vq (vr s4):(Answer×Bool)⊕(((List Int))⊕((List Int))))
 have hc142:decide (v11<(x19.length:Int))=false:=Jo2 (by omega)
 refine Jq<|Jg3 [2,2,2,2] 2 R<|Jn3 R U26 R R<|Jb 1 R<|Jw2 R hc142<|Jc1<|Jt<|Jt ?_
 cases h
 have h:=hk156
 refine Jb1 ?_
 cases h
 exact Jw1 _ ⟨K151,s4,R,S152.wk R,f153,hn154,R⟩<|KM R
 obtain⟨o142,h,hk156⟩:=BI h;unfold fc at h
 have hc142:decide (v11<(x19.length:Int))=true:=Jn2 (by omega)
 refine Jq<|Jg3 [2,2,2,2] 2 R<|Jn3 R U26 R R<|Jb 1 R<|Jv2 R hc142<|Js<|Jp<|Jq<|Jv<|Jq<|Jq<|Js1 (κ:=K151) [0,2,8,15,16] none [(0,2),(2,2),(1,0),(3,2),(4,0),(5,2),(6,2),(7,2),(8,2),(9,2),(11,2),(12,2),(14,2),(10,0),(13,0),(15,2),(16,0),(17,2),(18,2)] [] (by kernel_rfl) (by kernel_rfl) λw158 S157=>Jd3 R U121 R Z26<|Jn 1 R ?_
 have f159:=f67.stp (T7 S73 S116 S126 S133 S139 S152 S157) R R
 refine Jg R (Jc2 I26 R R<|hvC (f159.ld 4 R R) R)<|Ob h λx68 hx68 h=>Jf R (Jf2 f153.rdc hx68 U26 Z2 R R hn154 R) ?_
 have f160:=f153.stp S157 R R
 refine Jg R (Jc2 I2 R R<|hvC (f160.rdc.gInt hx68) R)<|Jn 2 R<|Ob h λp83 h hK161=>Ju1 [(7,2),(8,2),(9,2),(11,2),(12,2),(14,2),(10,0),(13,0),(15,2),(16,0),(17,2),(18,2)] [] (λL w'=>L=[(2,.pointer (some ⟨b2,0,none⟩)),(4,.pointer (some ⟨b4,0,none⟩)),(6,.slice aa x19.length ab),(7,.pointer (some ⟨b7,0,none⟩)),(9,.slice an x56.length ao),(10,.slice al x58.length am),(11,vi v11),(83,.bool p83)]/\∃κ',Stp [] K151 w158 κ' w') (Cl.refl _ _ _) ?_ ?_
 revert h
 cases ht162:decide (0<=x68)
 have S002:=(T10 S53 S63 S66 S73 S116 S126 S133 S139 S152 S157)
 refine JF λh=>Jn 2 R<|Ob h λx74 hx74 h=>Jc3 R f120.rdc hx74 U26 Z2<|Jd3 R U79 R Z75<|Jd3 R U75 R Z26<|Jn 1 R<|Jg R (Jc2 I2 R R<|hvC ((f120.stp (T5 S126 S133 S139 S152 S157) R R).rdc.gInt hx74) R)<|Jg R (Jc2 I26 R R<|hvC ((f40.stp S002 R R).ld 0 R R) R)<|Ob h λx80 hx80 h=>Jc3 R f41 hx80 U26 Z2<|Jg R (Jc2 I2 R R<|hvC ((f41.stp S002 R R).gInt hx80) R)<|Jn 2 R ?_
 cases h
 exact Jv1 _ (Cl.refl _ _ _) ⟨R,_,Jj3⟩<|KM R
 refine JT λh=>Jn 6 R<|Je1 R R R R<|Je1 R R R R<|Jn 1 R<|Je1 R R R R<|Jn 2 R ?_
 cases h
 exact Jv1 _ (Cl.refl _ _ _) ⟨R,_,Jj3⟩<|KM R
 rintro _ w166 _ ⟨rfl,K167,S168⟩
 have h:=hK161
 refine Jt1<|Jd ?_
 revert h
 cases ht169:p83
 refine JF λh=>Jy R<|Js<|Jp<|Je3 R<|Jq<|Jg3 [2,2,2,1,2] 2 R<|Ob h λx87 hx87 h=>Jc3 R f120.rdc hx87 U26 Z2<|Jb3 R I2 ((f120.stp (T6 S126 S133 S139 S152 S157 S168) R R).rdc.gInt hx87)<|Jb 1 R<|Ob h λq7 h hK172=>Jx1 (λL w'=>∃κ' aq ap,L=[(2,.pointer (some ⟨b2,0,none⟩)),(4,.pointer (some ⟨b4,0,none⟩)),(6,.slice aa x19.length ab),(7,.pointer (some ⟨b7,0,none⟩)),(9,.slice an x56.length ao),(10,.slice al x58.length am),(11,vi v11),(12,.slice aq q7.length ap)]/\Stp [] K167 w166 κ' w'/\Rd Rp.bool κ' w' 0 aq ap q7) ?_ ?_
 revert h
 cases ht177:(x87==1)
 refine JF λh=>Jy R<|Js ?_
 cases h
 exact Jw1 _ ⟨K167,an,ao,R,Jj3,((Sl.st z134 ((f114.mx fF m117 R (R:17+2=19)).stp S126 R R).rdc).stp (T4 S139 S152 S157 S168) R R)⟩<|KM R
 refine JT λh=>Jx R<|Jf3 R ?_
 cases h
 exact Jw1 _ ⟨K167,al,am,R,Jj3,((Sl.st z140 ((f124.mx fF m127 R (R:20+2=22)).stp S133 R R).rdc).stp (T3 S152 S157 S168) R R)⟩<|KM R
 rintro _ w173 ⟨K174,aq,ap,rfl,S175,f176⟩
 have h:=hK172
 refine Jp<|Js1 (κ:=K174) [16] none [(0,2),(2,2),(4,2),(5,2),(1,0),(3,0),(6,1),(7,2),(8,1)] [] (by kernel_rfl) (by kernel_rfl) λw181 S180=>Jd3 R U121 R Z26<|Jn 3 R ?_
 have f182:=f159.stp (T3 S168 S175 S180) R R
 have S003:=(T12 S63 S66 S73 S116 S126 S133 S139 S152 S157 S168 S175 S180)
 refine Jg R (Jc2 I26 R R<|hvC (f182.ld 4 R R) R)<|Jg R (Jd2 (cs:=[.slice au x21.owner.length ar,.slice aw x21.prio.length av,.slice ay x21.next.length ax,.slice aA x21.prev.length az,.slice ac x21.pick.length ad]) I121 Z121 R R R<|haC f182.cells R)<|Ob h λx97 hx97 h=>Jh R R R C85 (Ret.cast (by simp only[hn154,List.cons_append,List.nil_append])<|qC (κ:=λb=>mp [(15,2)] 0<|K174 b) (p0:=(⟨x21.owner,x21.prio,x21.next,x21.prev,s4⟩:l7Game)) (Jl2 ((f47.mx z55).stp S003 R R) (mp [(15,2)] 0) R R) (Jl2 ((f48.mx z55).stp S003 R R) (mp [(15,2)] 0) R R) (Jl2 ((f49.mx z55).stp S003 R R) (mp [(15,2)] 0) R R) (Jl2 ((f50.mx (dB (bE _) _) m54 R (R:9+5=14)).stp S003 R R).rdc (mp [(15,2)] 0) R R) ((f160.stp (T3 S168 S175 S180) R R).map (mp [(15,2)] 0) R R) (Jl2 (f176.stp S180 R R) (mp [(15,2)] 0) R R) hx97) ?_
 rintro _ w189 ⟨k190,rfl,e191,f192,hn193⟩
 obtain⟨K194,S195,m196⟩:=Ji e191 23 R
 refine⟨(S195.cl R),?_⟩
 have f198:=f192.mx (bE _) m196 R (R:23+2=25)
 refine Ob h λx98 hx98 h=>Jf R (Jf2 f198.rdc hx98 U26 Z2 R R (hn154.trans hn193) R)<|Ob h λy268 hy268 h=>Jk1 (κ:=K194) (E:=E6) 25 [] R R R R R R R R Z2 R R R R f198 hy268 λw199 K200 S201 f202=>⟨((S195.tr S201).cl R),?_⟩
 have hn203:x21.pick.length=y268.length:=(hn154.trans hn193).trans (Jt2 hy268).2.2.2.symm
 refine Jt1<|Jo<|Jz<|Jp<|Jf3 R ?_
 have hw142:sh .i64 (v11+1)=v11+1:=wr1 hj142 (Jm2 hc142) hN142
 rw[hw142]
 have hc142:=Jm2 hc142
 cases h
 exact Jz1 λa ha=>⟨k,_,Ja3 _,⟨(λb=>ren [(25,15)]<|K200 b),v11+1,y268,R,(Jy2 ((T7 S152 S157 S168 S175 S180 S195 S201).wk R) [(25,15)] R),(f202.map (ren [(25,15)]) R R),hn203,by omega,by omega,hk156⟩,(ha.mm R)⟩
 refine JT λh=>Jx R<|Jc1<|Jt<|Jb1<|Jp<|Jf3 R ?_
 have hw142:sh .i64 (v11+1)=v11+1:=wr1 hj142 (Jm2 hc142) hN142
 rw[hw142]
 have hc142:=Jm2 hc142
 cases h
 exact Jz1 λa ha=>⟨k,_,Ja3 _,⟨K167,v11+1,s4,R,(T3 S152 S157 S168).wk R,(f160.stp S168 R R),hn154,by omega,by omega,hk156⟩,(ha.mm R)⟩
 rintro _ w145 ⟨K146,s6,rfl,S147,f148,hn149,rfl⟩
 have h:=yI hK143
 refine Jp<|Jg3 [2,2,1,2,1,2] 1 R<|Jd3 R U121 R Z26<|Jb3 R I26 ((f67.stp (T6 S73 S116 S126 S133 S139 S147) R R).ld 4 R R)<|Jf R (bF (parts:=[(0,.tmp 99),(1,.tmp 101)]) (cells:=[.slice aa x19.length ab,.slice ac x21.pick.length ad]) R R (by kernel_rfl))<|Jj1 (κ:=K146) 3 (vc:=[.slice aa x19.length ab,.slice ac x21.pick.length ad]) R R R R R R R Z84 R R (f8.stp (T11 S18 S36 S53 S63 S66 S73 S116 S126 S133 S139 S147) R R) R λw206 S207 f208=>Tv<|Jb 1 R<|Ju<|Ja2 (l:=[.cell 4 84,.tmp 5]) V67 (bH R f208 I84 Z84 R<|Jp2 R R) R ?_
 cases h
 exact⟨(λb=>ren [(8,2),(15,3)]<|K146 b),aa,ab,ac,ad,(by simp only[hn149]),((hE.stp (T14 S3 S7 S18 S36 S53 S63 S66 S73 S116 S126 S133 S139 S147 S207) R R).map (ren [(8,2),(15,3)]) R R),((f120.stp (T5 S126 S133 S139 S147 S207) R R).map (ren [(8,2),(15,3)]) R R),((f148.stp S207 R R).map (ren [(8,2),(15,3)]) R R)⟩
 refine JT λh=>Jx R<|Je [2,1,2] R<|Jf R (bF (parts:=[]) (cells:=[.slice none 0 0,.slice none 0 0]) R R (by kernel_rfl))<|Jj1 (κ:=K17) 3 (vc:=[.slice none 0 0,.slice none 0 0]) R R R R R R R Z84 R R (f8.stp S18 R R) R λw23 S24 f25=>Tv<|Jb 1 R<|Ju<|Jw<|Ja2 (l:=[.cell 4 84,.tmp 5]) V67 (bH R f25 I84 Z84 R<|Jp2 R R) R ?_
 cases h
 exact⟨K17,none,0,none,0,R,(hE.stp (T4 S3 S7 S18 S24) R R),Ow.nil,Ow.nil⟩
theorem qj {am al an ak ao aj}{p0:Parity}(g0_0_0:Rd (Rp.int .i64) κ w 0 am al p0.Arena.Owner) (g0_0_1:Rd (Rp.sl (Rp.int .i64)) κ w 0 an ak p0.Arena.Next) (g0_1:Rd (Rp.int .i64) κ w 0 ao aj p0.Prio){r:Answer}(h:jU p0=some r):Ret Try.prog 46 [.agg #[.slice am p0.Arena.Owner.length al,.slice an p0.Arena.Next.length ak,.slice ao p0.Prio.length aj]] w (λv w'=>∃(κ':Col) (ra0:Option Addr) (ru0:Nat) (ra1:Option Addr) (ru1:Nat),v= .agg #[.slice ra0 r.Won.length ru0,.slice ra1 r.Plan.length ru1]/\Ent κ w κ' w'/\Oc E6 2 κ' w' 2 ra0 ru0 r.Won/\Oc E6 2 κ' w' 3 ra1 ru1 r.Plan):=by
 unfold jU at h
 refine Jk3 κ F46 R N46 R λhE=>Je [1,1] R<|Jf1 (κ:=κ) 2 R R R R R R R λb1 w1 K2 S3 f4=>Tv<|Jg1 (κ:=K2) 3 R R R R R X84 R λb2 w5 K6 S7 f8=>Tv<|Jd<|Jq<|Je [1,1,2] R ?_
 have f9:=f4.stp S7 R R
 refine Jl tv R R R R (Jd2 (cs:=[.slice am p0.Arena.Owner.length al,.slice an p0.Arena.Next.length ak,.slice ao p0.Prio.length aj]) I79 Z79 R R R<|haE f9.cells)<|Ob h λx6 hx6 h=>?_
 have f10:=g0_0_0.stp (S3.tr S7) R R
 have f11:=g0_0_1.stp (S3.tr S7) R R
 have f12:=g0_1.stp (S3.tr S7) R R
 refine Jh R R R C66 (lG (κ:=Mk K6) (p0:=p0) (Ji3 f10) (Ji3 f11) (Ji3 f12) hx6) ?_
 rintro _ w13 ⟨k14,rfl,e15⟩
 obtain⟨K16,S17,m18⟩:=Ji e15 4 R
 refine Tv<|Jb 1 R ?_
 revert h
 cases ht20:(!x6)
 refine JF λh=>Jy R<|Js<|Jp<|Jq<|Ob h λx14 hx14 h=>Ob h λx15 hx15 h=>Jx1 (λL w'=>∃κ' b3 ah ae af ai,L=[(2,.pointer (some ⟨b2,0,none⟩)),(3,.pointer (some ⟨b3,0,none⟩))]/\Stp [6,9,11,12,13] K16 w13 κ' w'/\Oc E6 2 κ' w' 6 ah ae x15.1.Won/\Oc E6 2 κ' w' 7 af ai x15.1.Plan/\Bc κ' w' 8 b3 84 [.slice ah x15.1.Won.length ae,.slice af x15.1.Plan.length ai]) ?_ ?_
 refine WC.rxt (κ:=K16) [2] none (by kernel_rfl) λw33 S34=>Jq1 (fuel:=8) [(1,2),(0,0),(2,0),(3,2)] (by kernel_rfl) (by kernel_rfl) R<|Jd3 R U79 R Z26 ?_
 have f35:=f9.stp (S17.tr S34) R R
 refine Jg R (Jd2 (cs:=[.slice am p0.Arena.Owner.length al,.slice an p0.Arena.Next.length ak,.slice ao p0.Prio.length aj]) I79 Z79 R R R<|haC f35.cells R)<|Jg R (Jc2 I26 R R<|hvC (f35.ld 2 R R) R)<|Jn3 R U26 R R<|Jp1<|WA.fork2 (fuel:=7) 4 9 (by kernel_rfl) R ?_ ?_
 refine Jh R R R C68 (mZ (κ:=Mk K16) hx14) ?_
 rintro _ w36 ⟨k37,aq,ap,rfl,e38,f39⟩
 obtain⟨K40,S41,m42⟩:=Ji e38 6 R
 refine⟨(S41.cl R),?_⟩
 have f44:=f39.mx (bE _) m42 R (R:6+2=8)
 refine Jp1<|WA.fork2 (fuel:=6) 5 9 (by kernel_rfl) R ?_ ?_
 have S001:=(T3 S17 S34 S41)
 refine Jh R R R C67 (jA (κ:=Mk K40) (p0:=p0) (Ji3<|f10.stp S001 R R) (Ji3<|f11.stp S001 R R) (Ji3<|f12.stp S001 R R) (Ji3 f44.rdc) hx15) ?_
 rintro _ w48 ⟨k49,aa,ab,ac,ad,rfl,e50,f51,f52⟩
 obtain⟨K53,S54,m55⟩:=Ji e50 9 R
 exact⟨((S41.tr S54).cl R),Jp1<|Jq1 (fuel:=0) [(6,2),(7,2),(8,2),(9,1),(10,1),(11,2)] (by kernel_rfl) (by kernel_rfl) R<|Jn 3 R<|Jg1 (κ:=K53) 13 R R R R R X84 R λb3 w59 K60 S61 f62=>⟨((T3 S41 S54 S61).cl R),Jj1 (κ:=K60) 13 (vc:=[.slice aa x15.1.Won.length ab,.slice ac x15.1.Plan.length ad]) R R R R R R R Z84 R R f62 R λw63 S64 f65=>⟨((T4 S41 S54 S61 S64).cl R),Jn 1 R<|Jp1<|Jr1 [] (by kernel_rfl) (by kernel_rfl) R<|Jo<|Jw1 _ ⟨(λb=>ren [(11,6),(12,7),(13,8)]<|K60 b),b3,aa,ab,ac,ad,R,(Jy2 ((T5 S34 S41 S54 S61 S64).wk R) [(11,6),(12,7),(13,8)] R),(((f51.mx (bE _) m55 R (R:9+2=11)).stp (S61.tr S64) R R).map (ren [(11,6),(12,7),(13,8)]) R R),(((f52.mx (bE _) m55 R (R:9+3=12)).stp (S61.tr S64) R R).map (ren [(11,6),(12,7),(13,8)]) R R),(f65.map (ren [(11,6),(12,7),(13,8)]) R R)⟩<|KM R⟩⟩⟩
 have S002:=(T3 S17 S34 S41)
 refine Jg1 (κ:=K40) 9 R R R R R X84 R λb3 w68 K69 S70 f71=>⟨((S41.tr S70).cl R),Jp1<|Jq1 (fuel:=0) [(5,1),(6,2),(7,2),(8,2),(10,1),(11,2)] (by kernel_rfl) (by kernel_rfl) R<|Jh R R R C67 (jA (κ:=Mk K69) (p0:=p0) (Ji3<|f10.stp (S002.tr S70) R R) (Ji3<|f11.stp (S002.tr S70) R R) (Ji3<|f12.stp (S002.tr S70) R R) (Ji3 (f44.stp S70 R R).rdc) hx15) ?_⟩
 rintro _ w76 ⟨k77,aa,ab,ac,ad,rfl,e78,f79,f80⟩
 obtain⟨K81,S82,m83⟩:=Ji e78 10 R
 exact⟨((T3 S41 S70 S82).cl R),Jn 3 R<|Jj1 (κ:=K81) 9 (vc:=[.slice aa x15.1.Won.length ab,.slice ac x15.1.Plan.length ad]) R R R R R R R Z84 R R (f71.stp S82 R R) R λw88 S89 f90=>⟨((T4 S41 S70 S82 S89).cl R),Jn 1 R<|Jp1<|Jr1 [] (by kernel_rfl) (by kernel_rfl) R<|Jo<|Jw1 _ ⟨(λb=>ren [(12,6),(13,7),(9,8)]<|K81 b),b3,aa,ab,ac,ad,R,(Jy2 ((T5 S34 S41 S70 S82 S89).wk R) [(12,6),(13,7),(9,8)] R),(((f79.mx (bE _) m83 R (R:10+2=12)).stp S89 R R).map (ren [(12,6),(13,7),(9,8)]) R R),(((f80.mx (bE _) m83 R (R:10+3=13)).stp S89 R R).map (ren [(12,6),(13,7),(9,8)]) R R),(f90.map (ren [(12,6),(13,7),(9,8)]) R R)⟩<|KM R⟩⟩
 refine Jg1 (κ:=K16) 6 R R R R R X84 R λb3 w93 K94 S95 f96=>⟨(S95.cl R),Jp1<|Jq1 (fuel:=0) [(4,1),(5,1),(6,2),(7,2),(8,2),(10,1),(11,2)] (by kernel_rfl) (by kernel_rfl) R<|Jh R R R C68 (mZ (κ:=Mk K94) hx14) ?_⟩
 rintro _ w97 ⟨k98,aq,ap,rfl,e99,f100⟩
 obtain⟨K101,S102,m103⟩:=Ji e99 7 R
 have S003:=(T4 S17 S34 S95 S102)
 refine⟨((S95.tr S102).cl R),Jh R R R C67 (jA (κ:=Mk K101) (p0:=p0) (Ji3<|f10.stp S003 R R) (Ji3<|f11.stp S003 R R) (Ji3<|f12.stp S003 R R) (Ji3 (f100.mx (bE _) m103 R (R:7+2=9)).rdc) hx15) ?_⟩
 rintro _ w109 ⟨k110,aa,ab,ac,ad,rfl,e111,f112,f113⟩
 obtain⟨K114,S115,m116⟩:=Ji e111 10 R
 exact⟨((T3 S95 S102 S115).cl R),Jn 3 R<|Jj1 (κ:=K114) 6 (vc:=[.slice aa x15.1.Won.length ab,.slice ac x15.1.Plan.length ad]) R R R R R R R Z84 R R (f96.stp (S102.tr S115) R R) R λw121 S122 f123=>⟨((T4 S95 S102 S115 S122).cl R),Jn 1 R<|Jp1<|Jr1 [] (by kernel_rfl) (by kernel_rfl) R<|Jo<|Jw1 _ ⟨(λb=>ren [(12,6),(13,7),(6,8)]<|K114 b),b3,aa,ab,ac,ad,R,(Jy2 ((T5 S34 S95 S102 S115 S122).wk R) [(12,6),(13,7),(6,8)] R),(((f112.mx (bE _) m116 R (R:10+2=12)).stp S122 R R).map (ren [(12,6),(13,7),(6,8)]) R R),(((f113.mx (bE _) m116 R (R:10+3=13)).stp S122 R R).map (ren [(12,6),(13,7),(6,8)]) R R),(f123.map (ren [(12,6),(13,7),(6,8)]) R R)⟩<|KM R⟩⟩
 rintro _ w26 ⟨K27,b3,ah,ae,af,ai,rfl,S28,f30,f31,f32⟩
 refine Jp<|Je [1,1] R<|Jl tv R R R R (Jd2 (cs:=[.slice ah x15.1.Won.length ae,.slice af x15.1.Plan.length ai]) I84 Z84 R R R<|haE f32.cells)<|Jj1 (κ:=K27) 3 (vc:=[.slice ah x15.1.Won.length ae,.slice af x15.1.Plan.length ai]) R R R R R R R Z84 R R (f8.stp (S17.tr S28) R R) R λw127 S128 f129=>Tv<|Jd<|Ju<|Ja2 (l:=[.cell 2 84]) V46 (bH R f129 I84 Z84 R R) R ?_
 cases h
 exact⟨(λb=>ren [(6,2),(7,3)]<|K27 b),ah,ae,af,ai,R,((hE.stp (T5 S3 S7 S17 S28 S128) R R).map (ren [(6,2),(7,3)]) R R),((f30.stp S128 R R).map (ren [(6,2),(7,3)]) R R),((f31.stp S128 R R).map (ren [(6,2),(7,3)]) R R)⟩
 refine JT λh=>Jx R<|Je [2,1] R<|Jf R (bF (parts:=[]) (cells:=[.slice none 0 0,.slice none 0 0]) R R (by kernel_rfl))<|Jj1 (κ:=K16) 3 (vc:=[.slice none 0 0,.slice none 0 0]) R R R R R R R Z84 R R (f8.stp S17 R R) R λw22 S23 f24=>Tv<|Jd<|Ju<|Jw<|Ja2 (l:=[.cell 2 84]) V46 (bH R f24 I84 Z84 R R) R ?_
 cases h
 exact⟨K16,none,0,none,0,R,(hE.stp (T4 S3 S7 S17 S23) R R),Ow.nil,Ow.nil⟩
theorem iK {p0:Sig}{a1 u1}{p1:(List Clause)}(g1:Rd Clause.rp κ w 0 a1 u1 p1){r:Rival×Bool}(h:fw p0 p1=some r):Ret Try.prog 31 [.agg #[vi p0.In,vi p0.Out],.slice a1 p1.length u1] w (λv w'=>∃(κ':Col) (ra0:Option Addr) (ru0:Nat) (ra1:Option Addr) (ru1:Nat),v= .tuple #[.agg #[.slice ra0 r.1.In.length ru0,.slice ra1 r.1.Next.length ru1],.bool r.2]/\Ent κ w κ' w'/\Oc E6 2 κ' w' 2 ra0 ru0 r.1.In/\Oc (Ep.own E6 2) 26 κ' w' 3 ra1 ru1 r.1.Next):=by
 unfold fw at h
 refine Jk3 κ F31 R N31 R λhE=>Je [1,1,2] R<|Jf1 (κ:=κ) 2 R R R R R R R λb2 w1 K2 S3 f4=>Tv<|Jg1 (κ:=K2) 3 R R R R R X29 R λb4 w5 K6 S7 f8=>Tv<|Jb 1 R<|Je [1,2,1,2,2,2,1,1,2] R ?_
 have f9:=f4.stp S7 R R
 refine Jl tv R R R R (Jd2 (cs:=[vi p0.In,vi p0.Out]) I25 Z25 R R R<|haE f9.cells)<|Jn 1 R<|Ob h λx29 hx29 h=>Jh R R R C43 (nB (κ:=Mk K6) (p0:=p0) (Ji3<|g1.stp (S3.tr S7) R R) hx29) ?_
 rintro _ w11 ⟨k12,aS,aD,aF,aP,rfl,e13,f14,f15⟩
 obtain⟨K16,S17,m18⟩:=Ji e13 4 R
 refine Tv<|Jn 3 R<|Jg1 (κ:=K16) 8 R R R R R X71 R λb6 w22 K23 S24 f25=>Tv<|Jj1 (κ:=K23) 8 (vc:=[.slice aS x29.1.Next.length aD,.slice aF x29.1.Pairs.length aP]) R R R R R R R Z71 R R f25 R λw26 S27 f28=>Tv<|Jb 1 R<|Je [1,1,1,2,2,2,2,1,1,2,2] R ?_
 have f29:=f9.stp (T3 S17 S24 S27) R R
 refine Jl tv R R R R (Jd2 (cs:=[vi p0.In,vi p0.Out]) I25 Z25 R R R<|haE f29.cells)<|Jl tv R R R R (Jd2 (cs:=[.slice aS x29.1.Next.length aD,.slice aF x29.1.Pairs.length aP]) I71 Z71 R R R<|haE f28.cells) ?_
 obtain⟨K31,S32,z33⟩:=kz K23 w26 6
 obtain⟨K36,S37,z38⟩:=kz K31 w26 7
 refine Ob h λx35 hx35 h=>?_
 have f40:=(Sl.st z33 ((f14.mx (dB (bE _) _) m18 R (R:4+2=6)).stp (S24.tr S27) R R).rdc).stp S37 R R
 refine Jh R R R C44 (nT (κ:=λb=>mp [] 1<|K36 b) (p0:=p0) (p1:=x29.1) (Jl2 f40 (mp [] 1) R R) (Jl2 (Sl.st z38 ((f15.mx Pair.no102 m18 R (R:4+3=7)).stp (T3 S24 S27 S32) R R).rdc) (mp [] 1) R R) hx35) ?_
 rintro _ w41 ⟨k42,aN,aO,aI,aR,bl,bg,rfl,e43,f44,f45,f46⟩
 obtain⟨K47,S48,m49,z50⟩:=Jj e43 9 R
 refine Tv<|Jn 4 R<|Jg1 (κ:=K47) 14 R R R R R X75 R λb8 w54 K55 S56 f57=>Tv<|Jj1 (κ:=K55) 14 (vc:=[.slice aN x35.1.Owner.length aO,.slice aI x35.1.Next.length aR]) R R R R R R R Z75 R R f57 R λw58 S59 f60=>Tv<|Jb 2 R<|Je [1,2,1,2,2,2,2,1,1,2,2] R<|Jl tv R R R R (Jd2 (cs:=[.slice aN x35.1.Owner.length aO,.slice aI x35.1.Next.length aR]) I75 Z75 R R R<|haE f60.cells)<|Jn 1 R ?_
 obtain⟨K62,S63,z64⟩:=kz K55 w58 11
 obtain⟨K67,S68,z69⟩:=kz K62 w58 12
 obtain⟨K72,S73,z74⟩:=kz K67 w58 13
 refine Ob h λx42 hx42 h=>Jh R R R C45 (oe (κ:=λb=>mp [] 1<|K72 b) (p0:=x35.1) (Jl2 ((Sl.st z64 ((f44.mx (bE _) m49 R (R:9+2=11)).stp (S56.tr S59) R R).rdc).stp (S68.tr S73) R R) (mp [] 1) R R) (Jl2 ((Sl.st z69 ((f45.mxz z50 m49 R (R:9+3=12)).stp (T3 S56 S59 S63) R R).rdc).stp S73 R R) (mp [] 1) R R) (Jl2 (Sl.st z74 ((f46.mx Pair.no102 m49 R (R:9+4=13)).stp (T4 S56 S59 S63 S68) R R).rdc) (mp [] 1) R R) hx42) ?_
 rintro _ w78 ⟨k79,aM,aE,aQ,aL,aG,aK,ad,af,rfl,e80,f81,f82,f83,f84⟩
 obtain⟨K85,S86,m87,z88⟩:=Jj e80 15 R
 refine Tv<|?_
 have f92:=f84.mxz z88 m87 R (R:15+5=20)
 refine Jn 4 R<|Jg1 (κ:=K85) 21 R R R R R X79 R λb11 w93 K94 S95 f96=>Tv<|Jj1 (κ:=K94) 21 (vc:=[.slice aM x42.1.Arena.Owner.length aE,.slice aQ x42.1.Arena.Next.length aL,.slice aG x42.1.Prio.length aK]) R R R R R R R Z79 R R f96 R λw97 S98 f99=>Tv<|Jb 2 R<|Jq<|Jg3 [2,2,2,2,2,2,2,2,2,2] 3 R<|Ob h λp51 h hK100=>Ju1 [(3,2),(4,2),(5,2)] [(6,2),(7,2),(8,2),(9,2)] (λL w'=>L=[(2,.pointer (some ⟨b2,0,none⟩)),(4,.pointer (some ⟨b4,0,none⟩)),(6,.pointer (some ⟨b6,0,none⟩)),(11,.pointer (some ⟨b11,0,none⟩)),(12,.slice ad x42.2.1.length af),(13,.bool x42.2.2),(51,.bool p51)]/\∃κ',Stp [] K94 w97 κ' w') tv ?_ ?_
 revert h
 cases ht101:(!x29.2)
 refine JF λh=>Jn 3 R ?_
 cases h
 exact Jv1 _ tv ⟨R,_,Jj3⟩<|KM R
 refine JT λh=>Jn 3 R ?_
 cases h
 exact Jv1 _ tv ⟨R,_,Jj3⟩<|KM R
 rintro _ w102 _ ⟨rfl,K103,S104⟩
 have h:=hK100
 refine Jn 1 R<|Ob h λp55 h hK105=>Ju1 [(7,2),(8,2),(9,2)] [] (λL w'=>L=[(2,.pointer (some ⟨b2,0,none⟩)),(4,.pointer (some ⟨b4,0,none⟩)),(6,.pointer (some ⟨b6,0,none⟩)),(11,.pointer (some ⟨b11,0,none⟩)),(12,.slice ad x42.2.1.length af),(55,.bool p55)]/\∃κ',Stp [] K103 w102 κ' w') tv ?_ ?_
 revert h
 cases ht106:p51
 refine JF λh=>Jn 3 R ?_
 cases h
 exact Jv1 _ tv ⟨R,_,Jj3⟩<|KM R
 refine JT λh=>Jn 3 R ?_
 cases h
 exact Jv1 _ tv ⟨R,_,Jj3⟩<|KM R
 rintro _ w107 _ ⟨rfl,K108,S109⟩
 have h:=hK105
 refine Jd ?_
 revert h
 cases ht110:p55
 refine JF λh=>Jy R<|Js<|Jp<|Je [1,1,1,1] R ?_
 have f116:=f99.stp (S104.tr S109) R R
 refine Jl tv R R R R (Jd2 (cs:=[.slice aM x42.1.Arena.Owner.length aE,.slice aQ x42.1.Arena.Next.length aL,.slice aG x42.1.Prio.length aK]) I79 Z79 R R R<|haE f116.cells)<|Ob h λx58 hx58 h=>?_
 have f118:=(f82.mx (dB (bE _) _) m87 R (R:15+3=18)).stp (T4 S95 S98 S104 S109) R R
 have S001:=(T4 S95 S98 S104 S109)
 refine Jh R R R C46 (qj (κ:=Mk K108) (p0:=x42.1) (Ji3 ((f81.mx (bE _) m87 R (R:15+2=17)).stp S001 R R).rdc) (Ji3 f118.rdc) (Ji3 ((f83.mx (bE _) m87 R (R:15+4=19)).stp S001 R R).rdc) hx58) ?_
 rintro _ w120 ⟨k121,aT,aZ,aX,aY,rfl,e122,f123,f124⟩
 obtain⟨K125,S126,m127⟩:=Ji e122 22 R
 refine Tv<|?_
 have f129:=f123.mx (bE _) m127 R (R:22+2=24)
 have f130:=f124.mx (bE _) m127 R (R:22+3=25)
 refine Jg1 (κ:=K125) 26 R R R R R X84 R λb14 w131 K132 S133 f134=>Tv<|Jj1 (κ:=K132) 26 (vc:=[.slice aT x58.Won.length aZ,.slice aX x58.Plan.length aY]) R R R R R R R Z84 R R f134 R λw135 S136 f137=>Tv<|Jd<|Jq<|Je [2,1,2,1,2] R<|Jd3 R U84 R Z26<|Jb3 R I26 (f137.ld 0 R R)<|Ob h λx61 hx61 h=>Jc3 R f129.rdc hx61 U26 Z2<|Jb3 R I2 ((f129.stp (S133.tr S136) R R).rdc.gInt hx61)<|Jb 1 R ?_
 revert h
 cases ht139:(x61==0)
 refine JF λh=>Jy R<|Js<|Jp<|Je [2,1,2,2] R<|Jd3 R U71 R Z27 ?_
 have f145:=f28.stp (T16 S32 S37 S48 S56 S59 S63 S68 S73 S86 S95 S98 S104 S109 S126 S133 S136) R R
 refine Jb3 R I27 (f145.ld 0 R R)<|Jn3 R U27 R R<|Jb 1 R<|Je [1,2] R<|Jn1 (κ:=K132) (E:=E6) 27 [] (parts:=[(0,.const (vi 0))]) (cells:=[vi 0]) (xs:=([0]:List Int)) R R R R R R Y26 a8 R R R R R R R R R R ⟨[vi 0],[],Zl K132 w135 [],Zl K132 w135 [],R,Zl.sp (l1:=[]) (l2:=[]) R,Zl.sr (l1:=[]) (l2:=[]),R,R⟩ λaU bd w146 K147 S148 f149=>Tv<|Jb 1 R<|Je [2,1,1] R<|Jf R (bF (parts:=[]) (cells:=[.slice none 0 0,.slice none 0 0]) R R (by kernel_rfl))<|Jg1 (κ:=K147) 28 R R R R R X29 R λb17 w150 K151 S152 f153=>Tv<|Jj1 (κ:=K151) 28 (vc:=[.slice none 0 0,.slice none 0 0]) R R R R R R R Z29 R R f153 R λw154 S155 f156=>Tv<|Jd<|Jq<|Je3 R<|Ob h λq2 hq159 hK158=>?_
 clear h
 refine Jx1 (λL w'=>∃κ',∃s3:(List Int)×Int×(List Int)×(List<|List Int),∃aJ aH ae ac ab aa,L=[(4,.pointer (some ⟨b4,0,none⟩)),(17,.pointer (some ⟨b17,0,none⟩))]/\Stp [27,28,29,30,33,35] K151 w154 κ' w'/\Oc E6 2 κ' w' 27 aJ aH s3.1/\Oc E6 2 κ' w' 29 ae ac s3.2.2.1/\Oc (Ep.own E6 2) 26 κ' w' 30 ab aa s3.2.2.2/\Bc κ' w' 28 b17 29 [.slice ae s3.2.2.1.length ac,.slice ab s3.2.2.2.length aa]/\q2=vq s3) ?_ ?_
 refine Jv<|Jy1 (λk L w'=>∃κ',∃s1:(List Int)×Int×(List Int)×(List<|List Int),∃an am az ar aj ao,L=[(2,.pointer (some ⟨b2,0,none⟩)),(4,.pointer (some ⟨b4,0,none⟩)),(6,.pointer (some ⟨b6,0,none⟩)),(11,.pointer (some ⟨b11,0,none⟩)),(12,.slice ad x42.2.1.length af),(14,.pointer (some ⟨b14,0,none⟩)),(15,vi (x29.1.Next.length:Int)),(16,.slice an s1.1.length am),(17,.pointer (some ⟨b17,0,none⟩)),(18,vi s1.2.1)]/\Stp [27,28,29,30,33,35] K151 w154 κ' w'/\Oc E6 2 κ' w' 27 an am s1.1/\Oc E6 2 κ' w' 29 az ar s1.2.2.1/\Oc (Ep.own E6 2) 26 κ' w' 30 aj ao s1.2.2.2/\Bc κ' w' 28 b17 29 [.slice az s1.2.2.1.length ar,.slice aj s1.2.2.2.length ao]/\bP (cV p0 x29 x42 x58) k s1=some q2) ⟨_,_,⟨K151,((([0]:List Int):(List Int)),(0:Int),(([]:List Int):(List Int)),(([]:List (List Int)):(List<|List Int))),aU,bd,none,0,none,0,R,Jj3,(f149.stp (S152.tr S155) R R),Ow.nil,Ow.nil,f156,hq159⟩,(KM R)⟩ ?_
 rintro k _ w167 ⟨K168,s1,an,am,az,ar,aj,ao,rfl,S169,f170,f171,f172,f173,h⟩
 rcases k with _ | k
 cases h
 obtain⟨o157,h,hk175⟩:=BI h;unfold cV at h
 refine Jq<|Jg3 [2,2,2,2] 2 R<|Jn3 R U26 R R<|Jb 1 R ?_
 revert h
 cases ht176:decide (s1.2.1<(s1.1.length:Int))
 refine JF λh=>Jy R<|Jc1<|Jt<|Jt ?_
 cases h
 have h:=hk175
 refine Jb1 ?_
 cases h
 exact Jw1 _ ⟨K168,(s1.1,s1.2.1,s1.2.2.1,s1.2.2.2),an,am,az,ar,aj,ao,R,S169.wk R,f170,f171,f172,f173,R⟩<|KM R
 refine JT λh=>Jx R<|Js<|Jp<|Jq<|Jv<|Jg3 [2,2,2,2,1,2,2,1,2] 3 R<|Ob h λx79 hx79 h=>Jc3 R f170.rdc hx79 U26 Z2<|Jb3 R I2 (f170.rdc.gInt hx79)<|Ob h λx81 hx81 h=>Jc3 R f92.rdc hx81 U80 Z87<|Jd3 R U87 R Z2 ?_
 have f177:=f92.stp (T11 S95 S98 S104 S109 S126 S133 S136 S148 S152 S155 S169) R R
 obtain⟨cse178,hre178,hle178⟩:=Ow.gZS f177 hx81
 obtain⟨ae178_0,ue178_0,rfl,fe178_0⟩:=Place.un hre178
 refine Jb3 R I2 (λw' hw'=>hle178 w' hw' 0 _ R)<|Jb 1 R<|Jq<|Js1 (κ:=K168) [0,25,26,27] none [(0,2),(2,2),(3,2),(4,2),(1,0),(5,0),(6,2),(7,0),(8,2)] [] (by kernel_rfl) (by kernel_rfl) λw180 S179=>Jd3 R U84 R Z26<|Jn 2 R<|Ob h λx88 hx88 h=>Jc3 R f170.rdc hx88 U26 Z2<|Jg R (Jc2 I26 R R<|hvC ((f137.stp (T5 S148 S152 S155 S169 S179) R R).ld 1 R R) R) ?_
 have f182:=f170.stp S179 R R
 refine Jg R (Jc2 I2 R R<|hvC (f182.rdc.gInt hx88) R)<|Ob h λx90 hx90 h=>Jc3 R f130.rdc hx90 U26 Z2<|Jg R (Jc2 I2 R R<|hvC ((f130.stp (T7 S133 S136 S148 S152 S155 S169 S179) R R).rdc.gInt hx90) R)<|Jn 1 R<|Jt1<|Jd<|Jq<|Js1 (κ:=K168) [0,2,20] none [(0,2),(1,2),(2,2),(3,2),(5,2),(4,0),(6,2),(7,0),(8,1),(9,2),(10,2)] [] (by kernel_rfl) (by kernel_rfl) λw185 S184=>Jn 2 R<|Ob h λx94 hx94 h=>Jc3 R f177.rdc hx94 U80 Z87<|Jd3 R U87 R Z2<|Jn 1 R ?_
 have f186:=f177.stp (S179.tr S184) R R
 obtain⟨cse187,hre187,hle187⟩:=Ow.gZS f186 hx94
 obtain⟨ae187_0,ue187_0,rfl,fe187_0⟩:=Place.un hre187
 refine Jg R (Jc2 I2 R R<|hvC (λw' hw'=>hle187 w' hw' 0 _ R) R)<|Jn 1 R ?_
 have f188:=f29.stp (S32.tr (S37.tr (S48.tr (S56.tr (S59.tr (S63.tr (S68.tr (S73.tr (S86.tr (S95.tr (S98.tr (S104.tr (S109.tr (S126.tr (S133.tr (S136.tr (S148.tr (S152.tr (S155.tr (S169.tr (S179.tr S184))))))))))))))))))))) R R
 refine Jg R (Jd2 (cs:=[vi p0.In,vi p0.Out]) I25 Z25 R R R<|haC f188.cells R)<|Ob h λx100 hx100 h=>Jh R R R C25 (iH (κ:=Mk K168) (p0:=p0) hx100) ?_
 rintro _ w189 ⟨k190,rfl,e191⟩
 obtain⟨K192,S193,m194⟩:=Ji e191 31 R
 refine⟨(S193.cl R),Ob h λ_z101 hz101 h=>Jf R (nC R R R<|rE hz101)<|Jn 1 R<|Jt1<|Jd<|Je [1,2] R<|Jo1 (κ:=K192) (E:=E6) 33 R R R R R Y26 a8 R λaW aV w196 K197 S198 f199=>Tv<|Jb 1 R<|Jq<|Je3 R<|Ob h λq5 hq202 hK201=>?_⟩
 clear h
 refine Jx1 (λL w'=>∃κ',∃s6:(List Int)×(List Int)×Int,∃ax au al aq,L=[(2,.pointer (some ⟨b2,0,none⟩)),(4,.pointer (some ⟨b4,0,none⟩)),(6,.pointer (some ⟨b6,0,none⟩)),(11,.pointer (some ⟨b11,0,none⟩)),(12,.slice ad x42.2.1.length af),(14,.pointer (some ⟨b14,0,none⟩)),(15,vi (x29.1.Next.length:Int)),(16,.slice ax s6.1.length au),(17,.pointer (some ⟨b17,0,none⟩)),(18,vi s1.2.1),(21,vi<|Int.tmod (IntKind.i64.wrap<|x94.At-(x29.1.Next.length:Int)) x100),(22,.slice al s6.2.1.length aq)]/\Stp [27,33] K197 w196 κ' w'/\Oc E6 2 κ' w' 27 ax au s6.1/\Oc E6 2 κ' w' 33 al aq s6.2.1/\q5=vq s6) ?_ ?_
 refine Jv<|Jy1 (λk L w'=>∃κ',∃s4:(List Int)×(List Int)×Int,∃ap ak ai ah,L=[(2,.pointer (some ⟨b2,0,none⟩)),(4,.pointer (some ⟨b4,0,none⟩)),(6,.pointer (some ⟨b6,0,none⟩)),(11,.pointer (some ⟨b11,0,none⟩)),(12,.slice ad x42.2.1.length af),(14,.pointer (some ⟨b14,0,none⟩)),(15,vi (x29.1.Next.length:Int)),(16,.slice ap s4.1.length ak),(17,.pointer (some ⟨b17,0,none⟩)),(18,vi s1.2.1),(19,vi x81.At),(20,vi x90),(21,vi<|Int.tmod (IntKind.i64.wrap<|x94.At-(x29.1.Next.length:Int)) x100),(22,.slice ai s4.2.1.length ah),(23,vi s4.2.2)]/\Stp [27,33] K197 w196 κ' w'/\Oc E6 2 κ' w' 27 ap ak s4.1/\Oc E6 2 κ' w' 33 ai ah s4.2.1/\bP (dM p0 x29 x42 x81 x90 x94 x100) k s4=some q5) ⟨_,_,⟨K197,(s1.1,(([]:List Int):(List Int)),(0:Int)),an,am,aW,aV,R,Jj3,(f182.stp (T3 S184 S193 S198) R R),f199,hq202⟩,(KM R)⟩ ?_
 rintro k _ w208 ⟨K209,s4,ap,ak,ai,ah,rfl,S210,f211,f212,h⟩
 rcases k with _ | k
 cases h
 obtain⟨o200,h,hk214⟩:=BI h;unfold dM at h
 refine Jq<|Jg3 [2,1,1,2] 1 R ?_
 have f215:=f188.stp (T3 S193 S198 S210) R R
 refine Jl tv R R R R (Jd2 (cs:=[vi p0.In,vi p0.Out]) I25 Z25 R R R<|haE f215.cells)<|Ob h λx105 hx105 h=>Jh R R R C22 (ic (κ:=Mk K209) (p0:=p0) hx105) ?_
 rintro _ w216 ⟨k217,rfl,e218⟩
 obtain⟨K219,S220,m221⟩:=Ji e218 34 R
 refine Tv<|Jb 1 R ?_
 revert h
 cases ht223:decide (s4.2.2<x105)
 refine JF λh=>Jy R<|Jc1<|Jt<|Jt ?_
 cases h
 have h:=hk214
 refine Jb1 ?_
 cases h
 exact Jw1 _ ⟨K219,(s4.1,s4.2.1,s4.2.2),ap,ak,ai,ah,R,(S210.tr S220).wk R,(f211.stp S220 R R),(f212.stp S220 R R),R⟩<|KM R
 refine JT λh=>Jx R<|Js<|Jp<|Jq<|Jv<|Jq<|Js1 (κ:=K219) [0,2,8,18,21] none [(0,2),(1,2),(3,2),(6,2),(7,2),(9,2),(13,2),(14,2),(2,0),(4,2),(5,0),(8,0),(10,2),(11,0),(12,0),(15,1),(16,2),(17,0),(18,1),(19,2)] [] (by kernel_rfl) (by kernel_rfl) λw225 S224=>Jd3 R U79 R Z75<|Jd3 R U75 R Z27<|Jn 2 R<|Jd3 R U71 R Z27<|Jn 3 R<|Jg R (Jc2 I27 R R<|hvC ((f116.stp (T14 S126 S133 S136 S148 S152 S155 S169 S179 S184 S193 S198 S210 S220 S224) R R).ld 1 R R) R)<|Ob h λx113 hx113 h=>Jc3 R f118.rdc hx113 U27 Z26 ?_
 obtain⟨ax113,ux113,f228,hl229⟩:=(f118.stp (T14 S126 S133 S136 S148 S152 S155 S169 S179 S184 S193 S198 S210 S220 S224) R R).rdc.gSl hx113
 refine Jg R (Jc2 I26 R R<|hvC hl229 R)<|Jg R (Jc2 I27 R R<|hvC ((f145.stp (T11 S148 S152 S155 S169 S179 S184 S193 S198 S210 S220 S224) R R).ld 0 R R) R)<|Ob h λx119 hx119 h=>Jc3 R f40 hx119 U27 Z26 ?_
 obtain⟨ax119,ux119,f232,hl233⟩:=(f40.stp (S48.tr (S56.tr (S59.tr (S63.tr (S68.tr (S73.tr (S86.tr (S95.tr (S98.tr (S104.tr (S109.tr (S126.tr (S133.tr (S136.tr (S148.tr (S152.tr (S155.tr (S169.tr (S179.tr (S184.tr (S193.tr (S198.tr (S210.tr (S220.tr S224)))))))))))))))))))))))) R R).gSl hx119
 refine Jg R (Jc2 I26 R R<|hvC hl233 R)<|Jg R (Jd2 (cs:=[vi p0.In,vi p0.Out]) I25 Z25 R R R<|haC (f215.stp (S220.tr S224) R R).cells R)<|Ob h λx124 hx124 h=>Jh R R R C48 (lC (κ:=Mk K219) (p0:=p0) hx124) ?_
 rintro _ w235 ⟨k236,rfl,e237⟩
 obtain⟨K238,S239,m240⟩:=Ji e237 36 R
 refine⟨(S239.cl R),Ob h λx125 hx125 h=>Jc3 R f232 hx125 U26 Z2<|Jg R (Jc2 I2 R R<|hvC (f232.gInt hx125) R)<|Ob h λx127 hx127 h=>Jh R R R C47 (rb (κ:=Mk K238) (Ji3<|f228.stp S239 R R) (Ji3 (f186.stp (T6 S193 S198 S210 S220 S224 S239) R R).rdc) hx127) ?_⟩
 rintro _ w244 ⟨k245,rfl,e246⟩
 obtain⟨K247,S248,m249⟩:=Ji e246 38 R
 refine⟨((S239.tr S248).cl R),Jn 1 R<|Jt1<|Jd<|Jg3 [2,2,1,2] 2 R<|Ob h λx130 hx130 h=>?_⟩
 have f251:=f211.stp (T4 S220 S224 S239 S248) R R
 refine Jh R R R C49 (oT (κ:=Mk K247) (Ji3 f251.rdc) hx130) ?_
 rintro _ w252 ⟨k253,rfl,e254⟩
 obtain⟨K255,S256,m257⟩:=Ji e254 40 R
 refine Tv<|Jb 1 R<|Jq<|Je3 R<|Ob h λq7 h hK259=>Jx1 (λL w'=>∃κ' aA av,L=[(2,.pointer (some ⟨b2,0,none⟩)),(4,.pointer (some ⟨b4,0,none⟩)),(6,.pointer (some ⟨b6,0,none⟩)),(11,.pointer (some ⟨b11,0,none⟩)),(12,.slice ad x42.2.1.length af),(14,.pointer (some ⟨b14,0,none⟩)),(15,vi (x29.1.Next.length:Int)),(16,.slice aA q7.1.length av),(17,.pointer (some ⟨b17,0,none⟩)),(18,vi s1.2.1),(19,vi x81.At),(20,vi x90),(21,vi<|Int.tmod (IntKind.i64.wrap<|x94.At-(x29.1.Next.length:Int)) x100),(22,.slice ai s4.2.1.length ah),(23,vi s4.2.2),(25,vi q7.2)]/\Stp [27] K255 w252 κ' w'/\Oc E6 2 κ' w' 27 aA av q7.1) ?_ ?_
 revert h
 cases ht264:decide (x130<0)
 refine JF λh=>Jy R<|Js ?_
 cases h
 exact Jw1 _ ⟨K255,ap,ak,R,Jj3,(f251.stp S256 R R)⟩<|KM R
 refine JT λh=>Jx R<|Jg3 [2,2,2] 1 R<|Jn3 R U26 R R<|Jb 1 R<|Jh3 [2,2,1,1,2] 2 R<|Jn1 (κ:=K255) (E:=E6) 42 [] (parts:=[(0,.tmp 136)]) (cells:=[vi x127]) (xs:=([x127]:List Int)) R R R R R R Y26 a8 R R R R R R R R R R ⟨[vi x127],[],Zl K255 w252 [],Zl K255 w252 [],R,Zl.sp (l1:=[]) (l2:=[]) R,Zl.sr (l1:=[]) (l2:=[]),R,R⟩ λbi bo w265 K266 S267 f268=>Tv<|Ob h λx138 hx138 h=>Jm1 (κ:=K266) (E:=E6) 27 [] R R R R R R R R R Y26 a8 R R R R (f251.stp (S256.tr S267) R R) (Sl.srcP (cb _) f268.rdc) bJ hx138 R λbb ba w270 K271 S272 f273=>Tv<|Jc 1 R ?_
 cases h
 exact Jw1 _ ⟨K271,bb,ba,R,(S267.tr S272).wk R,f273⟩<|KM R
 rintro _ w260 ⟨K261,aA,av,rfl,S262,f263⟩
 have h:=hK259
 refine Jp<|Jh3 [2,2,1,1,2] 2 R<|Jn1 (κ:=K261) (E:=E6) 42 [] (parts:=[(0,.tmp 140)]) (cells:=[vi q7.2]) (xs:=([q7.2]:List Int)) R R R R R R Y26 a8 R R R R R R R R R R ⟨[vi q7.2],[],Zl K261 w260 [],Zl K261 w260 [],R,Zl.sp (l1:=[]) (l2:=[]) R,Zl.sr (l1:=[]) (l2:=[]),R,R⟩ λbh bk w275 K276 S277 f278=>Tv<|Ob h λx142 hx142 h=>Jm1 (κ:=K276) (E:=E6) 33 [] R R R R R R R R R Y26 a8 R R R R (f212.stp (T7 S220 S224 S239 S248 S256 S262 S277) R R) (Sl.srcP (cb _) f278.rdc) bJ hx142 R λbe bc w280 K281 S282 f283=>Tv<|Jc 1 R<|Jz<|Jp<|Jf3 R ?_
 cases h
 exact Jz1 λa ha=>⟨k,_,Ja3 _,⟨K281,(q7.1,x142,((IntKind.i64.wrap<|s4.2.2+1):Int)),aA,av,be,bc,R,(T9 S210 S220 S224 S239 S248 S256 S262 S277 S282).wk R,(f263.stp (S277.tr S282) R R),f283,hk214⟩,(ha.mm R)⟩
 rintro _ w203 ⟨K204,s6,ax,au,al,aq,rfl,S205,f206,f207,rfl⟩
 have h:=yI hK201
 refine Jp<|Je [2,1,2,1,1,2,1] R<|Jd3 R U29 R Z26 ?_
 have f287:=f173.stp (T5 S179 S184 S193 S198 S205) R R
 have S002:=(T5 S179 S184 S193 S198 S205)
 refine Jb3 R I26 (f287.ld 0 R R)<|Jn 1 R<|Jn1 (κ:=K204) (E:=E6) 34 [] (parts:=[(0,.tmp 145)]) (cells:=[vi<|Int.tmod (IntKind.i64.wrap<|x94.At-(x29.1.Next.length:Int)) x100]) (xs:=([(Int.tmod (IntKind.i64.wrap<|x94.At-(x29.1.Next.length:Int)) x100)]:List Int)) R R R R R R Y26 a8 R R R R R R R R R R ⟨[vi<|Int.tmod (IntKind.i64.wrap<|x94.At-(x29.1.Next.length:Int)) x100],[],Zl K204 w203 [],Zl K204 w203 [],R,Zl.sp (l1:=[]) (l2:=[]) R,Zl.sr (l1:=[]) (l2:=[]),R,R⟩ λbj bm w288 K289 S290 f291=>Tv<|Ob h λx147 hx147 h=>Jm1 (κ:=K289) (E:=E6) 29 [] R R R R R R R R R Y26 a8 R R R R (f171.stp (S002.tr S290) R R) (Sl.srcP (cb _) f291.rdc) bJ hx147 R λay aw w293 K294 S295 f296=>Tv<|Jd3 R U29 R Z26<|Ji1 (κ:=K294) 28 (off:=0) (vc:=[.slice ay x147.length aw]) (cs':=[.slice ay x147.length aw,.slice aj s1.2.2.2.length ao]) R R R R R R R Z26 R R (f287.stp (S290.tr S295) R R) R R λw298 S299 f300=>Tv<|Jd<|Ja [2,1,2,1,1,2,1] R<|Jd3 R U29 R Z27<|Jb3 R I27 (f300.ld 1 R R)<|Jn 1 R<|Jn1 (κ:=K294) (E:=(Ep.own E6 2)) 35 [33] (parts:=[(0,.tmp 151)]) (cells:=[.slice al s6.2.1.length aq]) (xs:=([s6.2.1]:List (List Int))) R R R R R R Y27 bZ R R R R R R R R R R ⟨[.slice al s6.2.1.length aq],[],Zl K294 w298 [33],Zl K294 w298 [],R,Zl.sp (l1:=[33]) (l2:=[]) R,Zl.sr (l1:=[33]) (l2:=[]),⟨_,_,R,(f207.stp (T3 S290 S295 S299) R R)⟩,R⟩ λbf bn w302 K303 S304 f305=>Tv<|Ob h λx153 hx153 h=>Jm1 (κ:=K303) (E:=(Ep.own E6 2)) 30 [35] R R R R R R R R R Y27 bZ R R R R (f172.stp (T5 S002 S290 S295 S299 S304) R R) f305.src (fk R) hx153 R λaC aB w307 K308 S309 f310=>Tv<|Jd3 R U29 R Z27<|Ji1 (κ:=K308) 28 (off:=1) (vc:=[.slice aC x153.length aB]) (cs':=[.slice ay x147.length aw,.slice aC x153.length aB]) R R R R R R R Z27 R R (f300.stp (S304.tr S309) R R) R R λw312 S313 f314=>Tv<|Jo<|Jz<|Jp<|Jf3 R ?_
 cases h
 exact Jz1 λa ha=>⟨k,_,Ja3 _,⟨K308,(s6.1,((IntKind.i64.wrap<|s1.2.1+1):Int),x147,x153),ax,au,ay,aw,aC,aB,R,(T12 S169 S179 S184 S193 S198 S205 S290 S295 S299 S304 S309 S313).wk R,(f206.stp (T6 S290 S295 S299 S304 S309 S313) R R),(f296.stp (T4 S299 S304 S309 S313) R R),(f310.stp S313 R R),f314,hk175⟩,(ha.mm R)⟩
 rintro _ w160 ⟨K161,s3,aJ,aH,ae,ac,ab,aa,rfl,S162,f163,f164,f165,f166,rfl⟩
 have h:=yI hK158
 refine Jp<|Je [1,1,2] R<|Jl tv R R R R (Jd2 (cs:=[.slice ae s3.2.2.1.length ac,.slice ab s3.2.2.2.length aa]) I29 Z29 R R R<|haE f166.cells)<|Jj1 (κ:=K161) 3 (vc:=[.slice ae s3.2.2.1.length ac,.slice ab s3.2.2.2.length aa]) R R R R R R R Z29 R R (f8.stp (S17.tr<|S24.tr<|S27.tr<|S32.tr<|S37.tr<|S48.tr<|S56.tr<|S59.tr<|S63.tr<|S68.tr<|S73.tr<|S86.tr<|S95.tr<|S98.tr<|S104.tr<|S109.tr<|S126.tr<|S133.tr<|S136.tr<|S148.tr<|S152.tr<|S155.tr S162) R R) R λw319 S320 f321=>Tv<|Jb 1 R<|Ju<|Ja2 (l:=[.cell 4 29,.tmp 5]) V31 (bH R f321 I29 Z29 R<|Jp2 R R) R ?_
 cases h
 exact⟨(λb=>ren [(29,2),(30,3)]<|K161 b),ae,ac,ab,aa,R,((hE.stp (S3.tr<|S7.tr<|S17.tr<|S24.tr<|S27.tr<|S32.tr<|S37.tr<|S48.tr<|S56.tr<|S59.tr<|S63.tr<|S68.tr<|S73.tr<|S86.tr<|S95.tr<|S98.tr<|S104.tr<|S109.tr<|S126.tr<|S133.tr<|S136.tr<|S148.tr<|S152.tr<|S155.tr<|S162.tr S320) R R).map (ren [(29,2),(30,3)]) R R),((f164.stp S320 R R).map (ren [(29,2),(30,3)]) R R),((f165.stp S320 R R).map (ren [(29,2),(30,3)]) R R)⟩
 refine JT λh=>Jx R<|Je [2,1,2] R<|Jf R (bF (parts:=[]) (cells:=[.slice none 0 0,.slice none 0 0]) R R (by kernel_rfl))<|Jj1 (κ:=K132) 3 (vc:=[.slice none 0 0,.slice none 0 0]) R R R R R R R Z29 R R (f8.stp (S17.tr<|S24.tr<|S27.tr<|S32.tr<|S37.tr<|S48.tr<|S56.tr<|S59.tr<|S63.tr<|S68.tr<|S73.tr<|S86.tr<|S95.tr<|S98.tr<|S104.tr<|S109.tr<|S126.tr<|S133.tr S136) R R) R λw141 S142 f143=>Tv<|Jb 1 R<|Ju<|Jw<|Ja2 (l:=[.cell 4 29,.tmp 5]) V31 (bH R f143 I29 Z29 R<|Jp2 R R) R ?_
 cases h
 exact⟨K132,none,0,none,0,R,(hE.stp (S3.tr<|S7.tr<|S17.tr<|S24.tr<|S27.tr<|S32.tr<|S37.tr<|S48.tr<|S56.tr<|S59.tr<|S63.tr<|S68.tr<|S73.tr<|S86.tr<|S95.tr<|S98.tr<|S104.tr<|S109.tr<|S126.tr<|S133.tr<|S136.tr S142) R R),Ow.nil,Ow.nil⟩
 refine JT λh=>Jx R<|Je [2,1,2] R<|Jf R (bF (parts:=[]) (cells:=[.slice none 0 0,.slice none 0 0]) R R (by kernel_rfl))<|Jj1 (κ:=K108) 3 (vc:=[.slice none 0 0,.slice none 0 0]) R R R R R R R Z29 R R (f8.stp (T16 S17 S24 S27 S32 S37 S48 S56 S59 S63 S68 S73 S86 S95 S98 S104 S109) R R) R λw112 S113 f114=>Tv<|Jb 1 R<|Ju<|Jw<|Ja2 (l:=[.cell 4 29,.tmp 5]) V31 (bH R f114 I29 Z29 R<|Jp2 R R) R ?_
 cases h
 exact⟨K108,none,0,none,0,R,(hE.stp (S3.tr<|S7.tr<|S17.tr<|S24.tr<|S27.tr<|S32.tr<|S37.tr<|S48.tr<|S56.tr<|S59.tr<|S63.tr<|S68.tr<|S73.tr<|S86.tr<|S95.tr<|S98.tr<|S104.tr<|S109.tr S113) R R),Ow.nil,Ow.nil⟩
end Go.Proofs.Ytpcjbkgbnoocaaa
