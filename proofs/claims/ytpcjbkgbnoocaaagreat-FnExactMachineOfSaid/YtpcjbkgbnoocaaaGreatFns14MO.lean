/- The walks, part 14. By program. -/
import Derived.Test.YtpcjbkgbnoocaaaGreatFns13MO
set_option linter.unusedVariables false
set_option linter.unusedSimpArgs false
namespace Go.Proofs.YtpcjbkgbnoocaaaGreat
open Go Go.Wk Go.Proofs
set_option maxRecDepth 100000
set_option maxHeartbeats 1000000
variable {w:World}{κ:Col}
theorem lG {p0:Sig}{a1 u1}{p1:(List Clause)}(g1:Rd Clause.rp κ w 0 a1 u1 p1){r:Bool}(h:dh p0 p1=some r):Ret Tryz.prog 6 [.agg #[vi p0.In,vi p0.Out],.slice a1 p1.length u1] w (Pvb κ w r):=by
 unfold dh at h
 refine Jk3 κ F6 R N6 R λhE=>Je [1,2] R<|Jf1 (κ:=κ) 2 R R R R R R R λb2 w1 K2 S3 f4=>Tv<|Jb 1 R<|Je3 R<|Jg3 [2,2,1,2] 2 R<|Ob h λx18 hx18 h=>?_
 have f5:=g1.stp S3 R R
 refine Jh R R R C17 (oY (κ:=Mk K2) (Ji3 f5) hx18) ?_
 rintro _ w6 ⟨k7,rfl,e8⟩
 obtain⟨K9,S10,m11⟩:=Ji e8 3 R
 refine Tv<|Jb 1 R<|Jq<|Je3 R ?_
 revert h
 cases ht13:decide (x18<0)
 refine JF λh=>Jy R<|Js<|Jp<|Je [1,1,2,1,1,2,2,2,1,1,2] R ?_
 have f15:=f4.stp S10 R R
 refine Jl tv R R R R (Jd2 (cs:=[vi p0.In,vi p0.Out]) I43 Z43 R R R<|haE f15.cells)<|Ob h λx23 hx23 h=>Jh R R R C19 (mR (κ:=Mk K9) (p0:=p0) hx23) ?_
 rintro _ w16 ⟨k17,rfl,e18⟩
 obtain⟨K19,S20,m21⟩:=Ji e18 5 R
 refine Tv<|Jn 1 R<|Ob h λx25 hx25 h=>?_
 have f23:=f5.stp (S10.tr S20) R R
 refine Jh R R R C20 (gJ (κ:=Mk K19) (Ji3 f23) hx25) ?_
 rintro _ w24 ⟨k25,aw,aq,rfl,e26,f27⟩
 obtain⟨K28,S29,m30⟩:=Ji e26 7 R
 refine Tv<|Ob h λx26 hx26 h=>Jh R R R C29 (pQ (κ:=Mk K28) (p0:=x23) (Ji3 (f27.mx Clause.no119 m30 R (R:7+2=9)).rdc) hx26) ?_
 rintro _ w33 ⟨k34,ai,ae,af,ah,rfl,e35,f36,f37⟩
 obtain⟨K38,S39,m40⟩:=Ji e35 10 R
 refine Tv<|Jn 3 R<|Jg1 (κ:=K38) 14 R R R R R X28 R λb6 w44 K45 S46 f47=>Tv<|Jj1 (κ:=K45) 14 (vc:=[.slice ai x26.1.Next.length ae,.slice af x26.1.Out.length ah]) R R R R R R R Z28 R R f47 R λw48 S49 f50=>Tv<|Jb 1 R<|Jg3 [2,1,2] 1 R<|Ob h λx30 hx30 h=>?_
 have f51:=f23.stp (T4 S29 S39 S46 S49) R R
 refine Jh R R R C20 (gJ (κ:=Mk K45) (Ji3 f51) hx30) ?_
 rintro _ w52 ⟨k53,an,ao,rfl,e54,f55⟩
 obtain⟨K56,S57,m58⟩:=Ji e54 15 R
 refine Tv<|Jb 1 R<|Je [1,1,2,1,2,2,2,1,1,2] R ?_
 have f61:=f15.stp (T6 S20 S29 S39 S46 S49 S57) R R
 refine Jl tv R R R R (Jd2 (cs:=[vi p0.In,vi p0.Out]) I43 Z43 R R R<|haE f61.cells)<|Ob h λx33 hx33 h=>Jh R R R C19 (mR (κ:=Mk K56) (p0:=p0) hx33) ?_
 rintro _ w62 ⟨k63,rfl,e64⟩
 obtain⟨K65,S66,m67⟩:=Ji e64 18 R
 refine Tv<|Jn 1 R<|Ob h λx35 hx35 h=>?_
 have f69:=(f55.mx Clause.no119 m58 R (R:15+2=17)).stp S66 R R
 refine Jh R R R C30 (lP (κ:=Mk K65) (p0:=x33) (Ji3 f69.rdc) hx35) ?_
 rintro _ w70 ⟨k71,aa,ab,ac,ad,rfl,e72,f73,f74⟩
 obtain⟨K75,S76,m77⟩:=Ji e72 20 R
 refine Tv<|Jn 3 R<|Jg1 (κ:=K75) 24 R R R R R X28 R λb9 w81 K82 S83 f84=>Tv<|Jj1 (κ:=K82) 24 (vc:=[.slice aa x35.1.Next.length ab,.slice ac x35.1.Out.length ad]) R R R R R R R Z28 R R f84 R λw85 S86 f87=>Tv<|Jb 1 R<|Jq<|Je [1,1,1,2,2,2,2,2,2] R<|Jl tv R R R R (Jd2 (cs:=[.slice aa x35.1.Next.length ab,.slice ac x35.1.Out.length ad]) I28 Z28 R R R<|haE f87.cells) ?_
 have f88:=f50.stp (T5 S57 S66 S76 S83 S86) R R
 refine Jl tv R R R R (Jd2 (cs:=[.slice ai x26.1.Next.length ae,.slice af x26.1.Out.length ah]) I28 Z28 R R R<|haE f88.cells)<|Ob h λx40 hx40 h=>?_
 have f89:=(f73.mx (cm (bI _) _) m77 R (R:20+2=22)).stp (S83.tr S86) R R
 have f90:=(f74.mx (cm (bI _) _) m77 R (R:20+3=23)).stp (S83.tr S86) R R
 have f91:=(f36.mx (cm (bI _) _) m40 R (R:10+2=12)).stp (T7 S46 S49 S57 S66 S76 S83 S86) R R
 have f92:=(f37.mx (cm (bI _) _) m40 R (R:10+3=13)).stp (T7 S46 S49 S57 S66 S76 S83 S86) R R
 refine Jh R R R C31 (j0 (κ:=Mk K82) (p0:=x35.1) (p1:=x26.1) (Ji3 f89.rdc) (Ji3 f90.rdc) (Ji3 f91.rdc) (Ji3 f92.rdc) hx40) ?_
 rintro _ w93 ⟨k94,rfl,e95⟩
 obtain⟨K96,S97,m98⟩:=Ji e95 25 R
 refine Tv<|Jn 2 R<|Ob h λp46 h hK100=>Ju1 [(5,2),(6,2),(7,2),(8,2)] [] (λL w'=>L=[(1,.slice a1 p1.length u1),(2,.pointer (some ⟨b2,0,none⟩)),(6,.pointer (some ⟨b6,0,none⟩)),(7,.bool x26.2),(8,.slice an x30.length ao),(9,.pointer (some ⟨b9,0,none⟩)),(10,.bool x35.2),(46,.bool p46)]/\∃κ',Stp [] K96 w93 κ' w') tv ?_ ?_
 revert h
 cases ht101:(!x40)
 refine JF λh=>Jn 2 R<|Jf R (np R R U4 R)<|Jn 1 R ?_
 cases h
 exact Jv1 _ tv ⟨R,_,Jj3⟩<|KM R
 refine JT λh=>Jn 4 R ?_
 cases h
 exact Jv1 _ tv ⟨R,_,Jj3⟩<|KM R
 rintro _ w102 _ ⟨rfl,K103,S104⟩
 have h:=hK100
 refine Jd ?_
 revert h
 cases ht105:p46
 refine JF λh=>Jy R<|Js<|Jp<|Jq<|Jg3 [2,2,1,1,2] 2 R<|Ob h λx49 hx49 h=>?_
 have f107:=f51.stp (T7 S57 S66 S76 S83 S86 S97 S104) R R
 refine Jh R R R C20 (gJ (κ:=Mk K103) (Ji3 f107) hx49) ?_
 rintro _ w108 ⟨k109,av,au,rfl,e110,f111⟩
 obtain⟨K112,S113,m114⟩:=Ji e110 27 R
 refine Tv<|Ob h λx50 hx50 h=>?_
 have f117:=f69.stp (T6 S76 S83 S86 S97 S104 S113) R R
 refine Jh R R R C23 (oW (κ:=Mk K112) (Ji3 f117.rdc) (Ji3 (f111.mx Clause.no119 m114 R (R:27+2=29)).rdc) hx50) ?_
 rintro _ w118 ⟨k119,rfl,e120⟩
 obtain⟨K121,S122,m123⟩:=Ji e120 30 R
 refine Tv<|Jb 1 R ?_
 revert h
 cases ht125:(!x50)
 refine JF λh=>Jy R<|Js<|Jp<|Je3 R<|Jg3 [2,2,1,2] 2 R<|Ob h λx54 hx54 h=>Jh R R R C24 (nO (κ:=λb=>mp [(17,2)] 0<|K121 b) ((f117.stp S122 R R).map (mp [(17,2)] 0) R R) hx54) ?_
 rintro _ w128 ⟨k129,rfl,e130,f131,hn132⟩
 obtain⟨K133,S134,m135⟩:=Ji e130 32 R
 refine Tv<|Jb 1 R<|Jq<|Jg3 [2,2,2,1,1,1,2,2,2,2,2,2,2] 3 R<|Ob h λp62 h hK138=>Ju1 [(3,1),(4,1),(5,1),(6,2),(7,2)] [(8,2),(9,2),(10,2),(11,2),(12,2)] (λL w'=>L=[(1,.slice a1 p1.length u1),(2,.pointer (some ⟨b2,0,none⟩)),(6,.pointer (some ⟨b6,0,none⟩)),(7,.bool x26.2),(9,.pointer (some ⟨b9,0,none⟩)),(10,.bool x35.2),(62,.bool p62)]/\∃κ',Stp [] K133 w128 κ' w') tv ?_ ?_
 revert h
 cases ht139:decide (x54.1<0)
 have S001:=(T5 S97 S104 S113 S122 S134)
 refine JF λh=>Jl tv R R R R (Jd2 (cs:=[.slice aa x35.1.Next.length ab,.slice ac x35.1.Out.length ad]) I28 Z28 R R R<|haE (f87.stp S001 R R).cells)<|Jl tv R R R R (Jd2 (cs:=[.slice ai x26.1.Next.length ae,.slice af x26.1.Out.length ah]) I28 Z28 R R R<|haE (f88.stp S001 R R).cells)<|Ob h λx60 hx60 h=>Jh R R R C31 (j0 (κ:=Mk K133) (p0:=x35.1) (p1:=x26.1) (Ji3 (f89.stp S001 R R).rdc) (Ji3 (f90.stp S001 R R).rdc) (Ji3 (f91.stp S001 R R).rdc) (Ji3 (f92.stp S001 R R).rdc) hx60) ?_
 rintro _ w146 ⟨k147,rfl,e148⟩
 obtain⟨K149,S150,m151⟩:=Ji e148 35 R
 refine Tv<|Jn 2 R ?_
 cases h
 exact Jv1 _ tv ⟨R,_,S150.wk R⟩<|KM R
 refine JT λh=>Jd1 R R R R<|Jd1 R R R R<|Jd1 R R R R<|Jn 2 R ?_
 cases h
 exact Jv1 _ tv ⟨R,_,Jj3⟩<|KM R
 rintro _ w153 _ ⟨rfl,K154,S155⟩
 have h:=hK138
 refine Jn 1 R<|Ob h λp67 h hK156=>Ju1 [(9,2),(10,2),(11,2),(12,2)] [] (λL w'=>L=[(1,.slice a1 p1.length u1),(2,.pointer (some ⟨b2,0,none⟩)),(6,.pointer (some ⟨b6,0,none⟩)),(7,.bool x26.2),(9,.pointer (some ⟨b9,0,none⟩)),(67,.bool p67)]/\∃κ',Stp [] K154 w153 κ' w') tv ?_ ?_
 revert h
 cases ht157:p62
 refine JF λh=>Jn 2 R<|Jf R (np R R U4 R)<|Jn 1 R ?_
 cases h
 exact Jv1 _ tv ⟨R,_,Jj3⟩<|KM R
 refine JT λh=>Jn 4 R ?_
 cases h
 exact Jv1 _ tv ⟨R,_,Jj3⟩<|KM R
 rintro _ w158 _ ⟨rfl,K159,S160⟩
 have h:=hK156
 refine Jd ?_
 revert h
 cases ht161:p67
 refine JF λh=>Jy R<|Js<|Jp<|Je3 R<|Je [1,2,1,2] R ?_
 have f163:=f87.stp (T7 S97 S104 S113 S122 S134 S155 S160) R R
 have S002:=(T7 S97 S104 S113 S122 S134 S155 S160)
 refine Jl tv R R R R (Jd2 (cs:=[.slice aa x35.1.Next.length ab,.slice ac x35.1.Out.length ad]) I28 Z28 R R R<|haE f163.cells)<|Jn 1 R<|Ob h λx70 hx70 h=>Jh R R R C32 (nX (κ:=λb=>mp [(22,2),(23,3)] 0<|K159 b) (p0:=x35.1) ((f89.stp S002 R R).map (mp [(22,2),(23,3)] 0) R R) ((f90.stp S002 R R).map (mp [(22,2),(23,3)] 0) R R) hx70) ?_
 rintro _ w166 ⟨k167,rfl,e168,f169,hn170,f171,hn172⟩
 obtain⟨K173,S174,m175⟩:=Ji e168 35 R
 refine Tv<|?_
 have f177:=f169.mx (cm (bI _) _) m175 R (R:35+2=37)
 have f178:=f171.mx (cm (bI _) _) m175 R (R:35+3=38)
 refine Jb 1 R<|Je3 R<|Je [1,2,1,2] R ?_
 have f179:=f163.stp S174 R R
 refine Jl tv R R R R (Jd2 (cs:=[.slice aa x35.1.Next.length ab,.slice ac x35.1.Out.length ad]) I28 Z28 R R R<|haE f179.cells)<|Jn 1 R<|Ob h λx73 hx73 h=>Jh R R R C33 (Ret.cast (by simp only[(hn170),(hn172),List.cons_append,List.nil_append])<|kY (κ:=Mk K173) (p0:=(⟨x70.2.1,x70.2.2⟩:Machine)) (Ji3 f177.rdc) (Ji3 f178.rdc) hx73) ?_
 rintro _ w180 ⟨k181,rfl,e182⟩
 obtain⟨K183,S184,m185⟩:=Ji e182 39 R
 refine Tv<|Jb 1 R<|Jq<|Je3 R ?_
 revert h
 cases ht187:decide (x73<0)
 refine JF λh=>Jy R<|Js<|Jp<|Jq<|Je3 R ?_
 revert h
 cases ht189:(x73 !=x70.1)
 refine JF λh=>Jy R<|Js<|Jp<|Je [1,1,2,1,1,2,2,2,1,1,2] R<|Jl tv R R R R (Jd2 (cs:=[vi p0.In,vi p0.Out]) I43 Z43 R R R<|haE (f61.stp (T13 S66 S76 S83 S86 S97 S104 S113 S122 S134 S155 S160 S174 S184) R R).cells)<|Ob h λx81 hx81 h=>Jh R R R C19 (mR (κ:=Mk K183) (p0:=p0) hx81) ?_
 rintro _ w192 ⟨k193,rfl,e194⟩
 obtain⟨K195,S196,m197⟩:=Ji e194 41 R
 refine Tv<|Jn 1 R<|Ob h λx83 hx83 h=>Jh R R R C20 (gJ (κ:=Mk K195) (Ji3<|f107.stp (T8 S113 S122 S134 S155 S160 S174 S184 S196) R R) hx83) ?_
 rintro _ w200 ⟨k201,ap,ar,rfl,e202,f203⟩
 obtain⟨K204,S205,m206⟩:=Ji e202 43 R
 refine Tv<|Ob h λx84 hx84 h=>Jh R R R C30 (lP (κ:=Mk K204) (p0:=x81) (Ji3 (f203.mx Clause.no119 m206 R (R:43+2=45)).rdc) hx84) ?_
 rintro _ w209 ⟨k210,al,aj,am,ak,rfl,e211,f212,f213⟩
 obtain⟨K214,S215,m216⟩:=Ji e211 46 R
 have S003:=(T12 S97 S104 S113 S122 S134 S155 S160 S174 S184 S196 S205 S215)
 refine Tv<|Jn 3 R<|Jg1 (κ:=K214) 50 R R R R R X28 R λb14 w220 K221 S222 f223=>Tv<|Jj1 (κ:=K221) 50 (vc:=[.slice al x84.1.Next.length aj,.slice am x84.1.Out.length ak]) R R R R R R R Z28 R R f223 R λw224 S225 f226=>Tv<|Jb 1 R<|Jq<|Je [1,1,1,2,2,2,2,2,2] R<|Jl tv R R R R (Jd2 (cs:=[.slice al x84.1.Next.length aj,.slice am x84.1.Out.length ak]) I28 Z28 R R R<|haE f226.cells)<|Jl tv R R R R (Jd2 (cs:=[.slice ai x26.1.Next.length ae,.slice af x26.1.Out.length ah]) I28 Z28 R R R<|haE (f88.stp (T3 S003 S222 S225) R R).cells)<|Ob h λx89 hx89 h=>Jh R R R C31 (j0 (κ:=Mk K221) (p0:=x84.1) (p1:=x26.1) (Ji3 ((f212.mx (cm (bI _) _) m216 R (R:46+2=48)).stp (S222.tr S225) R R).rdc) (Ji3 ((f213.mx (cm (bI _) _) m216 R (R:46+3=49)).stp (S222.tr S225) R R).rdc) (Ji3 (f91.stp (T3 S003 S222 S225) R R).rdc) (Ji3 (f92.stp (T3 S003 S222 S225) R R).rdc) hx89) ?_
 rintro _ w232 ⟨k233,rfl,e234⟩
 obtain⟨K235,S236,m237⟩:=Ji e234 51 R
 refine Tv<|Jn 2 R<|Ob h λp95 h hK239=>Ju1 [(5,2),(6,2),(7,2),(8,2)] [] (λL w'=>L=[(9,.pointer (some ⟨b9,0,none⟩)),(12,vi x70.1),(95,.bool p95)]/\∃κ',Stp [] K235 w232 κ' w') tv ?_ ?_
 revert h
 cases ht240:(!x89)
 refine JF λh=>Jn 2 R<|Jf R (np R R U4 R)<|Jn 1 R ?_
 cases h
 exact Jv1 _ tv ⟨R,_,Jj3⟩<|KM R
 refine JT λh=>Jn 4 R ?_
 cases h
 exact Jv1 _ tv ⟨R,_,Jj3⟩<|KM R
 rintro _ w241 _ ⟨rfl,K242,S243⟩
 have h:=hK239
 refine Jd ?_
 revert h
 cases ht244:p95
 have S004:=(T8 S184 S196 S205 S215 S222 S225 S236 S243)
 refine JF λh=>Jy R<|Js<|Jp<|Je3 R<|Je [1,2,1,2] R<|Jl tv R R R R (Jd2 (cs:=[.slice aa x35.1.Next.length ab,.slice ac x35.1.Out.length ad]) I28 Z28 R R R<|haE (f179.stp S004 R R).cells)<|Jn 1 R<|Ob h λx98 hx98 h=>Jh R R R C33 (Ret.cast (by simp only[(hn170),(hn172),List.cons_append,List.nil_append])<|kY (κ:=Mk K242) (p0:=(⟨x70.2.1,x70.2.2⟩:Machine)) (Ji3 (f177.stp S004 R R).rdc) (Ji3 (f178.stp S004 R R).rdc) hx98) ?_
 rintro _ w249 ⟨k250,rfl,e251⟩
 obtain⟨K252,S253,m254⟩:=Ji e251 53 R
 refine Tv<|Jb 1 R<|Jq<|Je3 R ?_
 revert h
 cases ht256:decide (x98<0)
 refine JF λh=>Jy R<|Js<|Jp<|Jq<|Je3 R ?_
 revert h
 cases ht258:(x98 !=x70.1)
 refine JF λh=>Jy R<|Js<|Jp<|Je3 R<|Ju<|Ja2 (l:=[.tmp 4]) V6 (Jp2 R R) R ?_
 cases h
 exact⟨K252,R,(hE.stp (S3.tr<|S10.tr<|S20.tr<|S29.tr<|S39.tr<|S46.tr<|S49.tr<|S57.tr<|S66.tr<|S76.tr<|S83.tr<|S86.tr<|S97.tr<|S104.tr<|S113.tr<|S122.tr<|S134.tr<|S155.tr<|S160.tr<|S174.tr<|S184.tr<|S196.tr<|S205.tr<|S215.tr<|S222.tr<|S225.tr<|S236.tr<|S243.tr S253) R R)⟩
 refine JT λh=>Jx R<|Je3 R<|Ju<|Jw<|Ja2 (l:=[.tmp 4]) V6 (Jp2 R R) R ?_
 cases h
 exact⟨K252,R,(hE.stp (S3.tr<|S10.tr<|S20.tr<|S29.tr<|S39.tr<|S46.tr<|S49.tr<|S57.tr<|S66.tr<|S76.tr<|S83.tr<|S86.tr<|S97.tr<|S104.tr<|S113.tr<|S122.tr<|S134.tr<|S155.tr<|S160.tr<|S174.tr<|S184.tr<|S196.tr<|S205.tr<|S215.tr<|S222.tr<|S225.tr<|S236.tr<|S243.tr S253) R R)⟩
 refine JT λh=>Jx R<|Je3 R<|Ju<|Jw<|Ja2 (l:=[.tmp 4]) V6 (Jp2 R R) R ?_
 cases h
 exact⟨K252,R,(hE.stp (S3.tr<|S10.tr<|S20.tr<|S29.tr<|S39.tr<|S46.tr<|S49.tr<|S57.tr<|S66.tr<|S76.tr<|S83.tr<|S86.tr<|S97.tr<|S104.tr<|S113.tr<|S122.tr<|S134.tr<|S155.tr<|S160.tr<|S174.tr<|S184.tr<|S196.tr<|S205.tr<|S215.tr<|S222.tr<|S225.tr<|S236.tr<|S243.tr S253) R R)⟩
 refine JT λh=>Jx R<|Je3 R<|Ju<|Jw<|Ja2 (l:=[.tmp 4]) V6 (Jp2 R R) R ?_
 cases h
 exact⟨K242,R,(hE.stp (S3.tr<|S10.tr<|S20.tr<|S29.tr<|S39.tr<|S46.tr<|S49.tr<|S57.tr<|S66.tr<|S76.tr<|S83.tr<|S86.tr<|S97.tr<|S104.tr<|S113.tr<|S122.tr<|S134.tr<|S155.tr<|S160.tr<|S174.tr<|S184.tr<|S196.tr<|S205.tr<|S215.tr<|S222.tr<|S225.tr<|S236.tr S243) R R)⟩
 refine JT λh=>Jx R<|Je3 R<|Ju<|Jw<|Ja2 (l:=[.tmp 4]) V6 (Jp2 R R) R ?_
 cases h
 exact⟨K183,R,(hE.stp (S3.tr<|S10.tr<|S20.tr<|S29.tr<|S39.tr<|S46.tr<|S49.tr<|S57.tr<|S66.tr<|S76.tr<|S83.tr<|S86.tr<|S97.tr<|S104.tr<|S113.tr<|S122.tr<|S134.tr<|S155.tr<|S160.tr<|S174.tr S184) R R)⟩
 refine JT λh=>Jx R<|Je3 R<|Ju<|Jw<|Ja2 (l:=[.tmp 4]) V6 (Jp2 R R) R ?_
 cases h
 exact⟨K183,R,(hE.stp (S3.tr<|S10.tr<|S20.tr<|S29.tr<|S39.tr<|S46.tr<|S49.tr<|S57.tr<|S66.tr<|S76.tr<|S83.tr<|S86.tr<|S97.tr<|S104.tr<|S113.tr<|S122.tr<|S134.tr<|S155.tr<|S160.tr<|S174.tr S184) R R)⟩
 refine JT λh=>Jx R<|Je3 R<|Ju<|Jw<|Ja2 (l:=[.tmp 4]) V6 (Jp2 R R) R ?_
 cases h
 exact⟨K159,R,(hE.stp (S3.tr<|S10.tr<|S20.tr<|S29.tr<|S39.tr<|S46.tr<|S49.tr<|S57.tr<|S66.tr<|S76.tr<|S83.tr<|S86.tr<|S97.tr<|S104.tr<|S113.tr<|S122.tr<|S134.tr<|S155.tr S160) R R)⟩
 refine JT λh=>Jx R<|Je3 R<|Ju<|Jw<|Ja2 (l:=[.tmp 4]) V6 (Jp2 R R) R ?_
 cases h
 exact⟨K121,R,(hE.stp (T16 S3 S10 S20 S29 S39 S46 S49 S57 S66 S76 S83 S86 S97 S104 S113 S122) R R)⟩
 refine JT λh=>Jx R<|Je3 R<|Ju<|Jw<|Ja2 (l:=[.tmp 4]) V6 (Jp2 R R) R ?_
 cases h
 exact⟨K103,R,(hE.stp (T14 S3 S10 S20 S29 S39 S46 S49 S57 S66 S76 S83 S86 S97 S104) R R)⟩
 refine JT λh=>Jx R<|Je3 R<|Ju<|Jw<|Ja2 (l:=[.tmp 4]) V6 (Jp2 R R) R ?_
 cases h
 exact⟨K9,R,(hE.stp (S3.tr S10) R R)⟩
end Go.Proofs.YtpcjbkgbnoocaaaGreat
