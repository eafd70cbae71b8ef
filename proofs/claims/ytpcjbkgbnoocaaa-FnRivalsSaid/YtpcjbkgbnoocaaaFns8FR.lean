/- The walks, part 8. By program. -/
import Derived.Test.YtpcjbkgbnoocaaaFns7FR
set_option linter.unusedVariables false
set_option linter.unusedSimpArgs false
namespace Go.Proofs.Ytpcjbkgbnoocaaa
open Go Go.Wk Go.Proofs
set_option maxRecDepth 100000
set_option maxHeartbeats 1000000
variable {w:World}{κ:Col}
theorem po {aa ab}{p0:l1Cur}{p1:Sig}{b0}(g0_0:Rd (Rp.int .u8) κ w 0 aa ab p0.b) (gb0:Bc κ w 2 b0 56 [.slice aa p0.b.length ab,vi p0.i,vi p0.h]){r:Rival×Int×Int}(h:jV p0 p1=some r):Ret Try.prog 16 [.pointer (some ⟨b0,0,none⟩),.agg #[vi p1.In,vi p1.Out]] w (λv w'=>∃(κ':Col) (ra0:Option Addr) (ru0:Nat) (ra1:Option Addr) (ru1:Nat),v= .agg #[.slice ra0 r.1.In.length ru0,.slice ra1 r.1.Next.length ru1]/\Ent κ w κ' w'/\Oc E6 2 κ' w' 3 ra0 ru0 r.1.In/\Oc (Ep.own E6 2) 26 κ' w' 4 ra1 ru1 r.1.Next/\Bc κ' w' 2 b0 56 [.slice aa p0.b.length ab,vi r.2.1,vi r.2.2]):=by
 unfold jV at h
 refine Jk3 κ F16 R N16 R λhE=>Je [1,1] R<|Jf1 (κ:=κ) 3 R R R R R R R λb3 w1 K2 S3 f4=>Tv<|Jg1 (κ:=K2) 4 R R R R R X29 R λb4 w5 K6 S7 f8=>Tv<|Jd<|Jq<|Jg3 [2,1] 1 R<|Ob h λx13 hx13 h=>?_
 have f9:=g0_0.stp (S3.tr S7) R R
 refine Jh R R R C28 (cR (κ:=λb=>mp [(2,2)] 0<|K6 b) (p0:=p0) (Jl2 f9 (mp [(2,2)] 0) R R) ((gb0.stp (S3.tr S7) R R).map (mp [(2,2)] 0) R R) hx13) ?_
 rintro _ w11 ⟨k12,rfl,e13,f14⟩
 obtain⟨K15,S16,m17⟩:=Ji e13 5 R
 refine Tv<|?_
 have f19:=f14.mx m17 R (R:5+2=7)
 refine Jd<|Ob h λq1 h hK20=>Jx1 (λL w'=>∃κ',∃z1:Int×Int,L=[(0,.pointer (some ⟨b0,0,none⟩)),(3,.pointer (some ⟨b3,0,none⟩)),(4,.pointer (some ⟨b4,0,none⟩))]/\Stp [7,8,10,11,12,14,15,16] K15 w11 κ' w'/\Bc κ' w' 7 b0 56 [.slice aa p0.b.length ab,vi z1.1,vi z1.2]/\q1=Sum.inr z1) ?_ ?_
 revert h
 cases ht25:x13.1
 refine JF λh=>Jy R<|Js ?_
 cases h
 exact Jw1 _ ⟨K15,(x13.2.1,x13.2.2),R,Jj3,f19,R⟩<|KM R
 refine JT λh=>Jx R<|Jq<|Ob h λx18 hx18 h=>Ob h λx19 hx19 h=>Jx1 (λL w'=>∃κ' b5 an am ao al,L=[(0,.pointer (some ⟨b0,0,none⟩)),(3,.pointer (some ⟨b3,0,none⟩)),(4,.pointer (some ⟨b4,0,none⟩)),(5,.pointer (some ⟨b5,0,none⟩)),(6,.bool x19.2)]/\Stp [7,8,10,11,12,14,15,16] K15 w11 κ' w'/\Oc E6 2 κ' w' 8 an am x19.1.In/\Oc (Ep.own E6 2) 26 κ' w' 9 ao al x19.1.Next/\Bc κ' w' 7 b0 56 [.slice aa p0.b.length ab,vi x18.2.1,vi x18.2.2]/\Bc κ' w' 10 b5 29 [.slice an x19.1.In.length am,.slice ao x19.1.Next.length al]) ?_ ?_
 refine WC.rxt (κ:=K15) [3] none (by kernel_rfl) λw34 S35=>Jq1 (fuel:=8) [(1,2),(0,0),(2,0)] (by kernel_rfl) (by kernel_rfl) R<|Jn 1 R ?_
 have f36:=f4.stp (T3 S7 S16 S35) R R
 refine Jg R (Jd2 (cs:=[vi p1.In,vi p1.Out]) I25 Z25 R R R<|haC f36.cells R)<|Jg R (Jd2 (cs:=[vi p1.In,vi p1.Out]) I25 Z25 R R R<|haC f36.cells R)<|Jp1<|WA.fork2 (fuel:=7) 3 8 (by kernel_rfl) R ?_ ?_
 refine Jh R R R C32 (kA (κ:=λb=>mp [(7,2)] 0<|K15 b) (p1:=p1) (p0:=(⟨p0.b,x13.2.1,x13.2.2⟩:l1Cur)) (Jl2 (f9.stp (S16.tr S35) R R) (mp [(7,2)] 0) R R) ((f19.stp S35 R R).map (mp [(7,2)] 0) R R) hx18) ?_
 rintro _ w39 ⟨k40,aJ,aF,rfl,e41,f42,f43⟩
 obtain⟨K44,S45,m46⟩:=Ji e41 8 R
 refine⟨(S45.cl R),?_⟩
 have f48:=f42.mx Clause.no92 m46 R (R:8+3=11)
 have f49:=f43.mx m46 R (R:8+2=10)
 refine Jp1<|WA.fork2 (fuel:=6) 4 8 (by kernel_rfl) R ?_ ?_
 refine Jh R R R C31 (iK (κ:=Mk K44) (p0:=p1) (Ji3 f48.rdc) hx19) ?_
 rintro _ w50 ⟨k51,ae,ai,ak,aj,rfl,e52,f53,f54⟩
 obtain⟨K55,S56,m57⟩:=Ji e52 12 R
 exact⟨((S45.tr S56).cl R),Jp1<|Jq1 (fuel:=0) [(5,2),(6,2),(7,2),(8,1),(9,1),(10,2)] (by kernel_rfl) (by kernel_rfl) R<|Jn 3 R<|Jg1 (κ:=K55) 16 R R R R R X29 R λb5 w61 K62 S63 f64=>⟨((T3 S45 S56 S63).cl R),Jj1 (κ:=K62) 16 (vc:=[.slice ae x19.1.In.length ai,.slice ak x19.1.Next.length aj]) R R R R R R R Z29 R R f64 R λw65 S66 f67=>⟨((T4 S45 S56 S63 S66).cl R),Jn 1 R<|Jp1<|Jr1 [] (by kernel_rfl) (by kernel_rfl) R<|Jo<|Jw1 _ ⟨(λb=>ren [(14,8),(15,9),(10,7),(16,10)]<|K62 b),b5,ae,ai,ak,aj,R,(Jy2 ((T5 S35 S45 S56 S63 S66).wk R) [(14,8),(15,9),(10,7),(16,10)] R),(((f53.mx (bE _) m57 R (R:12+2=14)).stp (S63.tr S66) R R).map (ren [(14,8),(15,9),(10,7),(16,10)]) R R),(((f54.mx (dB (bE _) _) m57 R (R:12+3=15)).stp (S63.tr S66) R R).map (ren [(14,8),(15,9),(10,7),(16,10)]) R R),((f49.stp (T3 S56 S63 S66) R R).map (ren [(14,8),(15,9),(10,7),(16,10)]) R R),(f67.map (ren [(14,8),(15,9),(10,7),(16,10)]) R R)⟩<|KM R⟩⟩⟩
 refine Jg1 (κ:=K44) 12 R R R R R X29 R λb5 w71 K72 S73 f74=>⟨((S45.tr S73).cl R),Jp1<|Jq1 (fuel:=0) [(4,1),(5,2),(6,2),(7,2),(9,1),(10,2)] (by kernel_rfl) (by kernel_rfl) R<|Jh R R R C31 (iK (κ:=Mk K72) (p0:=p1) (Ji3 (f48.stp S73 R R).rdc) hx19) ?_⟩
 rintro _ w76 ⟨k77,ae,ai,ak,aj,rfl,e78,f79,f80⟩
 obtain⟨K81,S82,m83⟩:=Ji e78 13 R
 exact⟨((T3 S45 S73 S82).cl R),Jn 3 R<|Jj1 (κ:=K81) 12 (vc:=[.slice ae x19.1.In.length ai,.slice ak x19.1.Next.length aj]) R R R R R R R Z29 R R (f74.stp S82 R R) R λw88 S89 f90=>⟨((T4 S45 S73 S82 S89).cl R),Jn 1 R<|Jp1<|Jr1 [] (by kernel_rfl) (by kernel_rfl) R<|Jo<|Jw1 _ ⟨(λb=>ren [(15,8),(16,9),(10,7),(12,10)]<|K81 b),b5,ae,ai,ak,aj,R,(Jy2 ((T5 S35 S45 S73 S82 S89).wk R) [(15,8),(16,9),(10,7),(12,10)] R),(((f79.mx (bE _) m83 R (R:13+2=15)).stp S89 R R).map (ren [(15,8),(16,9),(10,7),(12,10)]) R R),(((f80.mx (dB (bE _) _) m83 R (R:13+3=16)).stp S89 R R).map (ren [(15,8),(16,9),(10,7),(12,10)]) R R),((f49.stp (T3 S73 S82 S89) R R).map (ren [(15,8),(16,9),(10,7),(12,10)]) R R),(f90.map (ren [(15,8),(16,9),(10,7),(12,10)]) R R)⟩<|KM R⟩⟩
 refine Jg1 (κ:=K15) 8 R R R R R X29 R λb5 w94 K95 S96 f97=>⟨(S96.cl R),Jp1<|Jq1 (fuel:=0) [(3,1),(4,1),(5,2),(6,2),(7,2),(9,1),(10,2)] (by kernel_rfl) (by kernel_rfl) R<|Jh R R R C32 (kA (κ:=λb=>mp [(7,2)] 0<|K95 b) (p1:=p1) (p0:=(⟨p0.b,x13.2.1,x13.2.2⟩:l1Cur)) (Jl2 (f9.stp (T3 S16 S35 S96) R R) (mp [(7,2)] 0) R R) ((f19.stp (S35.tr S96) R R).map (mp [(7,2)] 0) R R) hx18) ?_⟩
 rintro _ w100 ⟨k101,aJ,aF,rfl,e102,f103,f104⟩
 obtain⟨K105,S106,m107⟩:=Ji e102 9 R
 refine⟨((S96.tr S106).cl R),Jh R R R C31 (iK (κ:=Mk K105) (p0:=p1) (Ji3 (f103.mx Clause.no92 m107 R (R:9+3=12)).rdc) hx19) ?_⟩
 rintro _ w111 ⟨k112,ae,ai,ak,aj,rfl,e113,f114,f115⟩
 obtain⟨K116,S117,m118⟩:=Ji e113 13 R
 exact⟨((T3 S96 S106 S117).cl R),Jn 3 R<|Jj1 (κ:=K116) 8 (vc:=[.slice ae x19.1.In.length ai,.slice ak x19.1.Next.length aj]) R R R R R R R Z29 R R (f97.stp (S106.tr S117) R R) R λw123 S124 f125=>⟨((T4 S96 S106 S117 S124).cl R),Jn 1 R<|Jp1<|Jr1 [] (by kernel_rfl) (by kernel_rfl) R<|Jo<|Jw1 _ ⟨(λb=>ren [(15,8),(16,9),(11,7),(8,10)]<|K116 b),b5,ae,ai,ak,aj,R,(Jy2 ((T5 S35 S96 S106 S117 S124).wk R) [(15,8),(16,9),(11,7),(8,10)] R),(((f114.mx (bE _) m118 R (R:13+2=15)).stp S124 R R).map (ren [(15,8),(16,9),(11,7),(8,10)]) R R),(((f115.mx (dB (bE _) _) m118 R (R:13+3=16)).stp S124 R R).map (ren [(15,8),(16,9),(11,7),(8,10)]) R R),(((f104.mx m107 R (R:9+2=11)).stp (S117.tr S124) R R).map (ren [(15,8),(16,9),(11,7),(8,10)]) R R),(f125.map (ren [(15,8),(16,9),(11,7),(8,10)]) R R)⟩<|KM R⟩⟩
 rintro _ w26 ⟨K27,b5,an,am,ao,al,rfl,S28,f30,f31,f32,f33⟩
 refine Jp<|Je3 R ?_
 revert h
 cases ht129:x19.2
 refine JF λh=>Jy R<|Js ?_
 cases h
 exact Jw1 _ ⟨K27,(x18.2.1,x18.2.2),R,S28.wk R,f32,R⟩<|KM R
 refine JT λh=>Jx R<|Je [1,1] R<|Jl tv R R R R (Jd2 (cs:=[.slice an x19.1.In.length am,.slice ao x19.1.Next.length al]) I29 Z29 R R R<|haE f33.cells)<|Jj1 (κ:=K27) 4 (vc:=[.slice an x19.1.In.length am,.slice ao x19.1.Next.length al]) R R R R R R R Z29 R R (f8.stp (S16.tr S28) R R) R λw131 S132 f133=>Tv<|Jd<|Ju<|Jq2 ?_
 cases h
 have h:=hK20
 dsimp only[aft]at h
 refine Jw<|Ja2 (l:=[.cell 4 29]) V16 (bH R f133 I29 Z29 R R) R ?_
 cases h
 exact⟨(λb=>ren [(8,3),(9,4),(7,2)]<|K27 b),an,am,ao,al,R,((hE.stp (T5 S3 S7 S16 S28 S132) R R).map (ren [(8,3),(9,4),(7,2)]) R R),((f30.stp S132 R R).map (ren [(8,3),(9,4),(7,2)]) R R),((f31.stp S132 R R).map (ren [(8,3),(9,4),(7,2)]) R R),((f32.stp S132 R R).map (ren [(8,3),(9,4),(7,2)]) R R)⟩
 rintro _ w21 ⟨K22,z1,rfl,S23,f24,rfl⟩
 have h:=yI hK20
 refine Jp<|Je [2,1,1] R<|Jf R (bF (parts:=[]) (cells:=[.slice none 0 0,.slice none 0 0]) R R (by kernel_rfl))<|Jg1 (κ:=K22) 8 R R R R R X29 R λb7 w138 K139 S140 f141=>Tv<|Jj1 (κ:=K139) 8 (vc:=[.slice none 0 0,.slice none 0 0]) R R R R R R R Z29 R R f141 R λw142 S143 f144=>Tv<|Jd<|Jg3 [2,1,2,2] 1 R<|Ob h λx26 hx26 h=>?_
 have f145:=f9.stp (T4 S16 S23 S140 S143) R R
 refine Jh R R R C29 (bU (κ:=λb=>mp [(7,2)] 0<|K139 b) (p0:=(⟨p0.b,z1.1,z1.2⟩:l1Cur)) (Jl2 f145 (mp [(7,2)] 0) R R) ((f24.stp (S140.tr S143) R R).map (mp [(7,2)] 0) R R) hx26) ?_
 rintro _ w147 ⟨k148,rfl,e149,f150⟩
 obtain⟨K151,S152,m153⟩:=Ji e149 9 R
 refine Tv<|Jb 2 R<|Jq<|Je3 R<|Ob h λ_ hr156 h=>?_
 have hN156:=lZ hr156
 refine Ob h λq3 hq158 hK157=>?_
 clear h
 refine Jx1 (λL w'=>∃κ',∃s4:Int×Int×(List Int)×(List<|List Int),∃ah af ad ac,L=[(0,.pointer (some ⟨b0,0,none⟩)),(4,.pointer (some ⟨b4,0,none⟩)),(7,.pointer (some ⟨b7,0,none⟩))]/\Stp [8,11,12,13,14,17,19,21] K151 w147 κ' w'/\Oc E6 2 κ' w' 12 ah af s4.2.2.1/\Oc (Ep.own E6 2) 26 κ' w' 13 ad ac s4.2.2.2/\Bc κ' w' 11 b0 56 [.slice aa p0.b.length ab,vi s4.1,vi s4.2.1]/\Bc κ' w' 8 b7 29 [.slice ah s4.2.2.1.length af,.slice ad s4.2.2.2.length ac]/\q3=Sum.inr s4) ?_ ?_
 refine Jv<|Jy1 (λk L w'=>∃κ' v9,∃s2:Int×Int×(List Int)×(List<|List Int),∃ax az au aq,L=[(0,.pointer (some ⟨b0,0,none⟩)),(3,.pointer (some ⟨b3,0,none⟩)),(4,.pointer (some ⟨b4,0,none⟩)),(7,.pointer (some ⟨b7,0,none⟩)),(8,vi<|IntKind.i64.wrap (1+x26.1)),(9,vi v9)]/\Stp [8,11,12,13,14,17,19,21] K151 w147 κ' w'/\Oc E6 2 κ' w' 12 ax az s2.2.2.1/\Oc (Ep.own E6 2) 26 κ' w' 13 au aq s2.2.2.2/\Bc κ' w' 11 b0 56 [.slice aa p0.b.length ab,vi s2.1,vi s2.2.1]/\Bc κ' w' 8 b7 29 [.slice ax s2.2.2.1.length az,.slice au s2.2.2.2.length aq]/\0<=v9/\Int.toNat ((IntKind.i64.wrap (1+x26.1))-v9)=k/\cntM (fG p0 p1 x26) k v9 s2=some q3) ⟨_,_,⟨K151,0,(x26.2.1,x26.2.2,(([]:List Int):(List Int)),(([]:List (List Int)):(List<|List Int))),none,0,none,0,R,Jj3,Ow.nil,Ow.nil,(f150.mx m153 R (R:9+2=11)),(f144.stp S152 R R),(by decide),(by simp),hq158⟩,(KM R)⟩ ?_
 rintro k _ w166 ⟨K167,v9,s2,ax,az,au,aq,rfl,S168,f169,f170,f171,f172,hj156,hJ156,h⟩
 rcases k with _ | k
 have hk174:=h;obtain⟨o156,h⟩:=cc (Sum.inr (Sum.inl s2):(Rival×Int×Int)⊕((Int×Int×(List Int)×(List (List Int)))⊕(Int×Int×(List Int)×(List (List Int)))))
 have hc156:decide (v9<(IntKind.i64.wrap (1+x26.1)))=false:=Jo2 (by omega)
 refine Jq<|Je3 R<|Jw2 R hc156<|Jc1<|Jt<|Jt ?_
 cases h
 have h:=hk174
 refine Jb1 ?_
 cases h
 exact Jw1 _ ⟨K167,(s2.1,s2.2.1,s2.2.2.1,s2.2.2.2),ax,az,au,aq,R,S168.wk R,f169,f170,f171,f172,R⟩<|KM R
 obtain⟨o156,h,hk174⟩:=BI h;unfold fG at h
 have hc156:decide (v9<(IntKind.i64.wrap (1+x26.1)))=true:=Jn2 (by omega)
 refine Jq<|Je3 R<|Jv2 R hc156<|Js<|Jp<|Jq<|Jv<|Je [1,2] R<|Jo1 (κ:=K167) (E:=E6) 14 R R R R R Y26 a8 R λaM aH w175 K176 S177 f178=>Tv<|Jb 1 R<|Jq<|Je3 R<|Ob h λq6 hq181 hK180=>?_
 clear h
 refine Jx1 (λL w'=>∃κ',∃s7:(List Int)×Int×Int×Int,∃ar ap,L=[(0,.pointer (some ⟨b0,0,none⟩)),(3,.pointer (some ⟨b3,0,none⟩)),(4,.pointer (some ⟨b4,0,none⟩)),(7,.pointer (some ⟨b7,0,none⟩)),(8,vi<|IntKind.i64.wrap (1+x26.1)),(9,vi v9),(10,.slice ar s7.1.length ap)]/\Stp [11,14,21] K176 w175 κ' w'/\Oc E6 2 κ' w' 14 ar ap s7.1/\Bc κ' w' 11 b0 56 [.slice aa p0.b.length ab,vi s7.2.2.1,vi s7.2.2.2]/\q6=Sum.inr s7) ?_ ?_
 refine Jv<|Jy1 (λk L w'=>∃κ',∃s5:(List Int)×Int×Int×Int,∃aw aA,L=[(0,.pointer (some ⟨b0,0,none⟩)),(3,.pointer (some ⟨b3,0,none⟩)),(4,.pointer (some ⟨b4,0,none⟩)),(7,.pointer (some ⟨b7,0,none⟩)),(8,vi<|IntKind.i64.wrap (1+x26.1)),(9,vi v9),(10,.slice aw s5.1.length aA),(11,vi s5.2.1)]/\Stp [11,14,21] K176 w175 κ' w'/\Oc E6 2 κ' w' 14 aw aA s5.1/\Bc κ' w' 11 b0 56 [.slice aa p0.b.length ab,vi s5.2.2.1,vi s5.2.2.2]/\bP (fH p0 p1 x26) k s5=some q6) ⟨_,_,⟨K176,((([]:List Int):(List Int)),(0:Int),s2.1,s2.2.1),aM,aH,R,Jj3,f178,(f171.stp S177 R R),hq181⟩,(KM R)⟩ ?_
 rintro k _ w187 ⟨K188,s5,aw,aA,rfl,S189,f190,f191,h⟩
 rcases k with _ | k
 cases h
 obtain⟨o179,h,hk193⟩:=BI h;unfold fH at h
 refine Jq<|Jg3 [2,2,1,1,1,2] 1 R<|Jd3 R U25 R Z2<|Jb3 R I2 ((f4.stp (T9 S7 S16 S23 S140 S143 S152 S168 S177 S189) R R).ld 1 R R)<|Ob h λx37 hx37 h=>Jh R R R C34 (n5 (κ:=Mk K188) hx37) ?_
 rintro _ w195 ⟨k196,rfl,e197⟩
 obtain⟨K198,S199,m200⟩:=Ji e197 15 R
 refine Tv<|Ob h λx38 hx38 h=>Jh R R R C33 (cQ (κ:=Mk K198) hx38) ?_
 rintro _ w202 ⟨k203,rfl,e204⟩
 obtain⟨K205,S206,m207⟩:=Ji e204 17 R
 refine Tv<|Jb 1 R ?_
 revert h
 cases ht209:decide (s5.2.1<x38)
 refine JF λh=>Jy R<|Jc1<|Jt<|Jt ?_
 cases h
 have h:=hk193
 refine Jb1 ?_
 cases h
 exact Jw1 _ ⟨K205,(s5.1,s5.2.1,s5.2.2.1,s5.2.2.2),aw,aA,R,(T3 S189 S199 S206).wk R,(f190.stp (S199.tr S206) R R),(f191.stp (S199.tr S206) R R),R⟩<|KM R
 refine JT λh=>Jx R<|Js<|Jp<|Jq<|Jv<|Jh3 [2,2,2,1,1,1,2] 3 R<|Ob h λx45 hx45 h=>Jh R R R C29 (bU (κ:=λb=>mp [(11,2)] 0<|K205 b) (p0:=(⟨p0.b,s5.2.2.1,s5.2.2.2⟩:l1Cur)) (Jl2 (f145.stp (T6 S152 S168 S177 S189 S199 S206) R R) (mp [(11,2)] 0) R R) ((f191.stp (S199.tr S206) R R).map (mp [(11,2)] 0) R R) hx45) ?_
 rintro _ w212 ⟨k213,rfl,e214,f215⟩
 obtain⟨K216,S217,m218⟩:=Ji e214 19 R
 refine Tv<|Jn1 (κ:=K216) (E:=E6) 22 [] (parts:=[(0,.tmp 45)]) (cells:=[vi x45.1]) (xs:=([x45.1]:List Int)) R R R R R R Y26 a8 R R R R R R R R R R ⟨[vi x45.1],[],Zl K216 w212 [],Zl K216 w212 [],R,Zl.sp (l1:=[]) (l2:=[]) R,Zl.sr (l1:=[]) (l2:=[]),R,R⟩ λaR aO w221 K222 S223 f224=>Tv<|Ob h λx47 hx47 h=>Jm1 (κ:=K222) (E:=E6) 14 [] R R R R R R R R R Y26 a8 R R R R (f190.stp (T4 S199 S206 S217 S223) R R) (Sl.srcP (cb _) f224.rdc) bJ hx47 R λaL aG w226 K227 S228 f229=>Tv<|Jc 1 R<|Jz<|Jp<|Jf3 R ?_
 cases h
 exact Jz1 λa ha=>⟨k,_,Ja3 _,⟨(λb=>ren [(21,11)]<|K227 b),(x47,((IntKind.i64.wrap<|s5.2.1+1):Int),x45.2.1,x45.2.2),aL,aG,R,(Jy2 ((T6 S189 S199 S206 S217 S223 S228).wk R) [(21,11)] R),(f229.map (ren [(21,11)]) R R),(((f215.mx m218 R (R:19+2=21)).stp (S223.tr S228) R R).map (ren [(21,11)]) R R),hk193⟩,(ha.mm R)⟩
 rintro _ w182 ⟨K183,s7,ar,ap,rfl,S184,f185,f186,rfl⟩
 have h:=yI hK180
 refine Jp<|Jq<|Js1 (κ:=K183) [8] (some 7) [(0,2),(2,2),(1,0),(3,1),(4,1),(5,1),(6,2)] [(7,1)] (by kernel_rfl) (by kernel_rfl) λw234 S233=>Jd3 R U29 R Z26<|Jn 1 R ?_
 have f235:=f172.stp (T3 S177 S184 S233) R R
 refine Jg R (Jc2 I26 R R<|hvC (f235.ld 0 R R) R)<|Ob h λx51 hx51 h=>Jh R R R C29 (bU (κ:=λb=>mp [(11,2)] 0<|K183 b) (p0:=(⟨p0.b,s7.2.2.1,s7.2.2.2⟩:l1Cur)) (Jl2 (f145.stp (T5 S152 S168 S177 S184 S233) R R) (mp [(11,2)] 0) R R) ((f186.stp S233 R R).map (mp [(11,2)] 0) R R) hx51) ?_
 rintro _ w238 ⟨k239,rfl,e240,f241⟩
 obtain⟨K242,S243,m244⟩:=Ji e240 15 R
 have S001:=(T4 S177 S184 S233 S243)
 refine⟨(S243.cl R),Jn1 (κ:=K242) (E:=E6) 18 [] (parts:=[(0,.tmp 51)]) (cells:=[vi x51.1]) (xs:=([x51.1]:List Int)) R R R R R R Y26 a8 R R R R R R R R R R ⟨[vi x51.1],[],Zl K242 w238 [],Zl K242 w238 [],R,Zl.sp (l1:=[]) (l2:=[]) R,Zl.sr (l1:=[]) (l2:=[]),R,R⟩ λaP aS w247 K248 S249 f250=>⟨((S243.tr S249).cl R),Ob h λx53 hx53 h=>Jm1 (κ:=K248) (E:=E6) 12 [] R R R R R R R R R Y26 a8 R R R R (f169.stp (S001.tr S249) R R) (Sl.srcP (cb _) f250.rdc) bJ hx53 R λav ay w252 K253 S254 f255=>⟨((T3 S243 S249 S254).cl R),Jd3 R U29 R Z26<|Jt1<|Ji1 (κ:=K253) 8 (off:=0) (vc:=[.slice av x53.length ay]) (cs':=[.slice av x53.length ay,.slice au s2.2.2.2.length aq]) R R R R R R R Z26 R R (f235.stp (T3 S243 S249 S254) R R) R R λw257 S258 f259=>Tv<|Jd<|Ja [2,1,2,1,1,2,1] R<|Jd3 R U29 R Z27<|Jb3 R I27 (f259.ld 1 R R)<|Jn 1 R<|Jn1 (κ:=K253) (E:=(Ep.own E6 2)) 19 [14] (parts:=[(0,.tmp 57)]) (cells:=[.slice ar s7.1.length ap]) (xs:=([s7.1]:List (List Int))) R R R R R R Y27 bZ R R R R R R R R R R ⟨[.slice ar s7.1.length ap],[],Zl K253 w257 [14],Zl K253 w257 [],R,Zl.sp (l1:=[14]) (l2:=[]) R,Zl.sr (l1:=[14]) (l2:=[]),⟨_,_,R,(f185.stp (T5 S233 S243 S249 S254 S258) R R)⟩,R⟩ λaQ aN w261 K262 S263 f264=>Tv<|Ob h λx59 hx59 h=>Jm1 (κ:=K262) (E:=(Ep.own E6 2)) 13 [19] R R R R R R R R R Y27 bZ R R R R (f170.stp (T5 S001 S249 S254 S258 S263) R R) f264.src (fk R) hx59 R λaB aC w266 K267 S268 f269=>Tv<|Jd3 R U29 R Z27<|Ji1 (κ:=K267) 8 (off:=1) (vc:=[.slice aB x59.length aC]) (cs':=[.slice av x53.length ay,.slice aB x59.length aC]) R R R R R R R Z27 R R (f259.stp (S263.tr S268) R R) R R λw271 S272 f273=>Tv<|Jo<|Jz<|Jp<|Jf3 R ?_⟩⟩⟩
 have hw156:IntKind.wrap .i64 (v9+1)=v9+1:=wr1 hj156 (Jm2 hc156) hN156
 rw[hw156]
 have hc156:=Jm2 hc156
 cases h
 exact Jz1 λa ha=>⟨k,_,Ja3 _,⟨(λb=>ren [(17,11)]<|K267 b),v9+1,(x51.2.1,x51.2.2,x53,x59),av,ay,aB,aC,R,(Jy2 ((T11 S168 S177 S184 S233 S243 S249 S254 S258 S263 S268 S272).wk R) [(17,11)] R),((f255.stp (T4 S258 S263 S268 S272) R R).map (ren [(17,11)]) R R),((f269.stp S272 R R).map (ren [(17,11)]) R R),(((f241.mx m244 R (R:15+2=17)).stp (T6 S249 S254 S258 S263 S268 S272) R R).map (ren [(17,11)]) R R),(f273.map (ren [(17,11)]) R R),by omega,by omega,hk174⟩,(ha.mm R)⟩
 rintro _ w159 ⟨K160,s4,ah,af,ad,ac,rfl,S161,f162,f163,f164,f165,rfl⟩
 have h:=yI hK157
 refine Jp<|Jq<|Jg3 [2,1] 1 R<|Ob h λx62 hx62 h=>?_
 have f277:=f145.stp (S152.tr S161) R R
 refine Jh R R R C28 (cR (κ:=λb=>mp [(11,2)] 0<|K160 b) (p0:=(⟨p0.b,s4.1,s4.2.1⟩:l1Cur)) (Jl2 f277 (mp [(11,2)] 0) R R) (f164.map (mp [(11,2)] 0) R R) hx62) ?_
 rintro _ w278 ⟨k279,rfl,e280,f281⟩
 obtain⟨K282,S283,m284⟩:=Ji e280 14 R
 refine Tv<|?_
 have f286:=f281.mx m284 R (R:14+2=16)
 refine Jd<|Ob h λq8 h hK287=>Jx1 (λL w'=>∃κ',L=[(0,.pointer (some ⟨b0,0,none⟩)),(4,.pointer (some ⟨b4,0,none⟩)),(7,.pointer (some ⟨b7,0,none⟩))]/\Stp [12,13,16,19,21,22,23] K282 w278 κ' w'/\Oc E6 2 κ' w' 12 ah af q8.2.2.1/\s4.2.2.1.length=q8.2.2.1.length/\Oc (Ep.own E6 2) 26 κ' w' 13 ad ac q8.2.2.2/\s4.2.2.2.length=q8.2.2.2.length/\Bc κ' w' 16 b0 56 [.slice aa p0.b.length ab,vi q8.1,vi q8.2.1]) ?_ ?_
 revert h
 cases ht296:x62.1
 refine JF λh=>Jy R<|Js ?_
 cases h
 exact Jw1 _ ⟨K282,R,Jj3,(f162.stp S283 R R),R,(f163.stp S283 R R),R,f286⟩<|KM R
 refine JT λh=>Jx R<|Jg3 [2,1] 1 R<|Ob h λx64 hx64 h=>?_
 have f297:=f277.stp S283 R R
 refine Jh R R R C29 (bU (κ:=λb=>mp [(16,2)] 0<|K282 b) (p0:=(⟨p0.b,x62.2.1,x62.2.2⟩:l1Cur)) (Jl2 f297 (mp [(16,2)] 0) R R) (f286.map (mp [(16,2)] 0) R R) hx64) ?_
 rintro _ w298 ⟨k299,rfl,e300,f301⟩
 obtain⟨K302,S303,m304⟩:=Ji e300 17 R
 refine Tv<|?_
 have f306:=f301.mx m304 R (R:17+2=19)
 refine Jd<|Jv<|Je3 R<|Ob h λq9 h hK307=>Jx1 (λL w'=>∃κ',L=[(0,.pointer (some ⟨b0,0,none⟩)),(4,.pointer (some ⟨b4,0,none⟩)),(7,.pointer (some ⟨b7,0,none⟩))]/\Stp [12,13,19,21,22,23] K302 w298 κ' w'/\Oc E6 2 κ' w' 12 ah af q9.2.2.1/\s4.2.2.1.length=q9.2.2.1.length/\Oc (Ep.own E6 2) 26 κ' w' 13 ad ac q9.2.2.2/\s4.2.2.2.length=q9.2.2.2.length/\Bc κ' w' 19 b0 56 [.slice aa p0.b.length ab,vi q9.1,vi q9.2.1]) ?_ ?_
 revert h
 cases ht316:(x64.1==0)
 refine JF λh=>Jy R<|Je3 R<|Ob h λq10 h hK339=>Jx1 (λL w'=>∃κ',L=[(0,.pointer (some ⟨b0,0,none⟩)),(4,.pointer (some ⟨b4,0,none⟩)),(7,.pointer (some ⟨b7,0,none⟩))]/\Stp [13,19,21,22,23] K302 w298 κ' w'/\Oc (Ep.own E6 2) 26 κ' w' 13 ad ac q10.2.2/\s4.2.2.2.length=q10.2.2.length/\Bc κ' w' 19 b0 56 [.slice aa p0.b.length ab,vi q10.1,vi q10.2.1]) ?_ ?_
 revert h
 cases ht346:(x64.1==1)
 refine JF λh=>Jy R<|Je3 R<|Ob h λq11 h hK418=>Jx1 (λL w'=>∃κ',L=[(0,.pointer (some ⟨b0,0,none⟩)),(4,.pointer (some ⟨b4,0,none⟩)),(7,.pointer (some ⟨b7,0,none⟩))]/\Stp [13,19,22,23] K302 w298 κ' w'/\Oc (Ep.own E6 2) 26 κ' w' 13 ad ac q11.2.2/\s4.2.2.2.length=q11.2.2.length/\Bc κ' w' 19 b0 56 [.slice aa p0.b.length ab,vi q11.1,vi q11.2.1]) ?_ ?_
 revert h
 cases ht425:(x64.1==2)
 refine JF λh=>Jy R<|Js ?_
 cases h
 exact Jw1 _ ⟨K302,R,Jj3,(f163.stp (S283.tr S303) R R),R,f306⟩<|KM R
 refine JT λh=>Jx R<|Js1 (κ:=K302) [0,8,13] (some 7) [(0,2),(4,2),(1,0),(2,2),(3,0),(5,1),(6,2)] [(7,1)] (by kernel_rfl) (by kernel_rfl) λw427 S426=>Jd3 R U29 R Z27<|Jn 1 R<|Jg R (Jc2 I27 R R<|hvC ((f165.stp (T3 S283 S303 S426) R R).ld 1 R R) R)<|Ob h λx87 hx87 h=>Jc3 R f163.rdc hx87 U27 Z26 ?_
 have f429:=f163.stp (T3 S283 S303 S426) R R
 obtain⟨ax87,ux87,f430,hl431⟩:=f429.rdc.gSl hx87
 refine Jg R (Jc2 I26 R R<|hvC hl431 R)<|Ob h λx90 hx90 h=>Jh R R R C30 (jl (κ:=λb=>mp [(19,2)] 0<|K302 b) (p0:=(⟨p0.b,x64.2.1,x64.2.2⟩:l1Cur)) (Jl2 (f297.stp (S303.tr S426) R R) (mp [(19,2)] 0) R R) ((f306.stp S426 R R).map (mp [(19,2)] 0) R R) hx90) ?_
 rintro _ w434 ⟨k435,rfl,e436,f437⟩
 obtain⟨K438,S439,m440⟩:=Ji e436 20 R
 refine⟨(S439.cl R),Ob h λx91 hx91 h=>Jc3 R f430 hx91 U26 Z2<|Jt1 ?_⟩
 obtain⟨K444,S445,f446,f447⟩:=(f429.stp S439 R R).borrow hx87 (hl431 _ (Stp.ag S439 R)) 23 R R
 refine Ob h λy297 hy297 h=>Jk1 (κ:=K444) (E:=E6) 23 [] R R R R R R R R Z2 R R R R f446 hy297 λw448 K449 S450 f451=>Tv<|?_
 have hn452:x87.length=y297.length:=(Jt2 hy297).2.2.2.symm
 refine Ob h λyb297 hyb297 h=>?_
 obtain⟨K454,S455,f456⟩:=Ow.unborrow (f447.stp S450 R R) f451 hn452 R R hyb297
 have hn457:s4.2.2.2.length=yb297.length:=(Jt2 hyb297).2.2.2.symm
 refine Jo ?_
 cases h
 exact Jw1 _ ⟨(λb=>ren [(22,19)]<|K454 b),R,(Jy2 ((T5 S426 S439 S445 S450 S455).wk R) [(22,19)] R),(f456.map (ren [(22,19)]) R R),hn457,(((f437.mx m440 R (R:20+2=22)).stp (T3 S445 S450 S455) R R).map (ren [(22,19)]) R R)⟩<|KM R
 rintro _ w419 ⟨K420,rfl,S421,f422,hn423,f424⟩
 have h:=hK418
 cases h
 exact Jw1 _ ⟨K420,R,S421.wk R,f422,hn423,f424⟩<|KM R
 refine JT λh=>Jx R<|Ob h λx78 hx78 h=>Ob h λx81 hx81 h=>Ob h λx82 hx82 h=>Ob h λy295 hy295 h=>Jx1 (λL w'=>∃κ',L=[(0,.pointer (some ⟨b0,0,none⟩)),(4,.pointer (some ⟨b4,0,none⟩)),(7,.pointer (some ⟨b7,0,none⟩))]/\Stp [13,21] K302 w298 κ' w'/\Oc (Ep.own E6 2) 26 κ' w' 13 ad ac y295/\s4.2.2.2.length=y295.length) ?_ ?_
 refine WC.rxt (κ:=K302) [0,8,13] (some 7) (by kernel_rfl) λw353 S354=>Jq1 (fuel:=5) [(0,2),(2,2),(3,0),(4,2),(5,0)] (by kernel_rfl) (by kernel_rfl) R<|Jd3 R U29 R Z27<|Jd3 R U29 R Z27 ?_
 have f355:=f165.stp (T3 S283 S303 S354) R R
 refine Jg R (Jc2 I27 R R<|hvC (f355.ld 1 R R) R)<|Jc3 R f163.rdc hx78 U27 Z26 ?_
 have f356:=f163.stp (T3 S283 S303 S354) R R
 obtain⟨ax78,ux78,f357,hl358⟩:=f356.rdc.gSl hx78
 refine Jg R (Jc2 I26 R R<|hvC hl358 R)<|Jp1<|WA.fork2 (fuel:=4) 1 6 (by kernel_rfl) R ?_ ?_
 refine Jl (Cl.refl _ _ _) R R R R (Jc2 I27 R R<|hvE<|f355.ld 1 R R)<|Jp1<|Jq1 (fuel:=3) [(6,1)] (by kernel_rfl) (by kernel_rfl) R<|Jn1 (κ:=K302) (E:=E6) 20 [] (parts:=[(0,.const (vi 0))]) (cells:=[vi 0]) (xs:=([0]:List Int)) R R R R R R Y26 a8 R R R R R R R R R R ⟨[vi 0],[],Zl K302 w353 [],Zl K302 w353 [],R,Zl.sp (l1:=[]) (l2:=[]) R,Zl.sr (l1:=[]) (l2:=[]),R,R⟩ λaI aK w359 K360 S361 f362=>⟨(S361.cl R),Jp1<|WA.brk (fuel:=2) 7 (by kernel_rfl) R (by kernel_rfl) ?_⟩
 have f363:=f356.stp S361 R R
 obtain⟨K364,S365,f366,f367⟩:=f363.borrow hx78 (hl358 _ (Stp.ag S361 R)) 21 R R
 refine Jm1 (κ:=K364) (E:=E6) 21 [] R R R R R R R R R Y26 a8 R R R R f366 (Sl.srcP (cb _) (f362.stp S365 R R).rdc) bJ hx81 R λaE aD w369 K370 S371 f372=>Tv<|Jp1<|Jq1 (fuel:=0) [(8,2),(9,1)] (by kernel_rfl) (by kernel_rfl) R<|Jc3 R f363.rdc hx82 U27 Z26<|WO.stH (κ:=K370) (E:=(Ep.own E6 2)) 13 [21] R R R R R R R R Z26 R ⟨_,_,R,f372⟩ R R (f367.stp S371 R R) hy295 λw374 K375 S376 f377=>Tv<|?_
 have hn378:s4.2.2.2.length=y295.length:=(Jt2 hy295).2.2.2.symm
 exact Jp1<|Jr1 [] (by kernel_rfl) (by kernel_rfl) R<|Jo<|Jw1 _ ⟨K375,R,(T5 S354 S361 S365 S371 S376).wk R,f377,hn378⟩<|KM R
 refine Jn1 (κ:=K302) (E:=E6) 20 [] (parts:=[(0,.const (vi 0))]) (cells:=[vi 0]) (xs:=([0]:List Int)) R R R R R R Y26 a8 R R R R R R R R R R ⟨[vi 0],[],Zl K302 w353 [],Zl K302 w353 [],R,Zl.sp (l1:=[]) (l2:=[]) R,Zl.sr (l1:=[]) (l2:=[]),R,R⟩ λaI aK w379 K380 S381 f382=>⟨(S381.cl R),Jp1<|WA.forkB2r (fuel:=3) 1 7 (by kernel_rfl) R (by kernel_rfl) ?_ ?_⟩
 refine Jl (S381.cl R) R R R R (Jc2 I27 R R<|hvE ((f355.stp S381 R R).ld 1 R R))<|Jp1<|WA.brk (fuel:=2) 7 (by kernel_rfl) R (by kernel_rfl) ?_
 have f384:=f356.stp S381 R R
 obtain⟨K385,S386,f387,f388⟩:=f384.borrow hx78 (hl358 _ (Stp.ag S381 R)) 21 R R
 refine Jm1 (κ:=K385) (E:=E6) 21 [] R R R R R R R R R Y26 a8 R R R R f387 (Sl.srcP (cb _) (f382.stp S386 R R).rdc) bJ hx81 R λaE aD w390 K391 S392 f393=>Tv<|Jp1<|Jq1 (fuel:=0) [(8,2),(9,1)] (by kernel_rfl) (by kernel_rfl) R<|Jc3 R f384.rdc hx82 U27 Z26<|WO.stH (κ:=K391) (E:=(Ep.own E6 2)) 13 [21] R R R R R R R R Z26 R ⟨_,_,R,f393⟩ R R (f388.stp S392 R R) hy295 λw395 K396 S397 f398=>Tv<|?_
 have hn399:s4.2.2.2.length=y295.length:=(Jt2 hy295).2.2.2.symm
 exact Jp1<|Jr1 [] (by kernel_rfl) (by kernel_rfl) R<|Jo<|Jw1 _ ⟨K396,R,(T5 S354 S381 S386 S392 S397).wk R,f398,hn399⟩<|KM R
 have f400:=f356.stp S381 R R
 obtain⟨K401,S402,f403,f404⟩:=f400.borrow hx78 (hl358 _ (Stp.ag S381 R)) 21 R R
 refine Jm1 (κ:=K401) (E:=E6) 21 [] R R R R R R R R R Y26 a8 R R R R f403 (Sl.srcP (cb _) (f382.stp S402 R R).rdc) bJ hx81 R λaE aD w406 K407 S408 f409=>Tv<|Jp1<|Jq1 (fuel:=0) [(1,1),(8,2),(9,1)] (by kernel_rfl) (by kernel_rfl) R<|Jb3 R I27 ((f355.stp (T3 S381 S402 S408) R R).ld 1 R R)<|Jc3 R f400.rdc hx82 U27 Z26<|WO.stH (κ:=K407) (E:=(Ep.own E6 2)) 13 [21] R R R R R R R R Z26 R ⟨_,_,R,f409⟩ R R (f404.stp S408 R R) hy295 λw412 K413 S414 f415=>Tv<|?_
 have hn416:s4.2.2.2.length=y295.length:=(Jt2 hy295).2.2.2.symm
 exact Jp1<|Jr1 [] (by kernel_rfl) (by kernel_rfl) R<|Jo<|Jw1 _ ⟨K413,R,(T5 S354 S381 S402 S408 S414).wk R,f415,hn416⟩<|KM R
 rintro _ w347 ⟨K348,rfl,S349,f351,hn352⟩
 cases h
 exact Jw1 _ ⟨K348,R,S349.wk R,f351,hn352,(f306.stp S349 R R)⟩<|KM R
 rintro _ w340 ⟨K341,rfl,S342,f343,hn344,f345⟩
 have h:=hK339
 cases h
 exact Jw1 _ ⟨K341,R,S342.wk R,(f162.stp (T3 S283 S303 S342) R R),R,f343,hn344,f345⟩<|KM R
 refine JT λh=>Jx R<|Js1 (κ:=K302) [8] none [(0,2),(2,2),(1,0),(3,1),(4,2),(5,1)] [] (by kernel_rfl) (by kernel_rfl) λw318 S317=>Jd3 R U29 R Z26<|Jn 1 R<|Jg R (Jc2 I26 R R<|hvC ((f165.stp (T3 S283 S303 S317) R R).ld 0 R R) R)<|Ob h λx70 hx70 h=>Jh R R R C30 (jl (κ:=λb=>mp [(19,2)] 0<|K302 b) (p0:=(⟨p0.b,x64.2.1,x64.2.2⟩:l1Cur)) (Jl2 (f297.stp (S303.tr S317) R R) (mp [(19,2)] 0) R R) ((f306.stp S317 R R).map (mp [(19,2)] 0) R R) hx70) ?_
 rintro _ w322 ⟨k323,rfl,e324,f325⟩
 obtain⟨K326,S327,m328⟩:=Ji e324 20 R
 refine⟨(S327.cl R),Ob h λx71 hx71 h=>Jc3 R f162.rdc hx71 U26 Z2<|Ob h λy293 hy293 h=>Jk1 (κ:=K326) (E:=E6) 12 [] R R R R R R R R Z2 R R R R (f162.stp (T4 S283 S303 S317 S327) R R) hy293 λw332 K333 S334 f335=>⟨((S327.tr S334).cl R),?_⟩⟩
 have hn336:s4.2.2.1.length=y293.length:=(Jt2 hy293).2.2.2.symm
 refine Jt1<|Jo ?_
 cases h
 exact Jw1 _ ⟨(λb=>ren [(22,19)]<|K333 b),R,(Jy2 ((T3 S317 S327 S334).wk R) [(22,19)] R),(f335.map (ren [(22,19)]) R R),hn336,((f163.stp (T5 S283 S303 S317 S327 S334) R R).map (ren [(22,19)]) R R),R,(((f325.mx m328 R (R:20+2=22)).stp S334 R R).map (ren [(22,19)]) R R)⟩<|KM R
 rintro _ w308 ⟨K309,rfl,S310,f311,hn312,f313,hn314,f315⟩
 have h:=hK307
 refine Jz ?_
 cases h
 exact Jw1 _ ⟨(λb=>ren [(19,16)]<|K309 b),R,(Jy2 ((S303.tr S310).wk R) [(19,16)] R),(f311.map (ren [(19,16)]) R R),hn312,(f313.map (ren [(19,16)]) R R),hn314,(f315.map (ren [(19,16)]) R R)⟩<|KM R
 rintro _ w288 ⟨K289,rfl,S290,f291,hn292,f293,hn294,f295⟩
 have h:=hK287
 refine Jp<|Je [1,1] R<|Jl tv R R R R (Jd2 (cs:=[.slice ah s4.2.2.1.length af,.slice ad s4.2.2.2.length ac]) I29 Z29 R R R<|haE (f165.stp (S283.tr S290) R R).cells)<|Jj1 (κ:=K289) 4 (vc:=[.slice ah s4.2.2.1.length af,.slice ad s4.2.2.2.length ac]) R R R R R R R Z29 R R (f8.stp (T8 S16 S23 S140 S143 S152 S161 S283 S290) R R) R λw465 S466 f467=>Tv<|Jd<|Ju<|Ja2 (l:=[.cell 4 29]) V16 (bH R f467 I29 Z29 R R) R ?_
 cases h
 exact⟨(λb=>ren [(12,3),(13,4),(16,2)]<|K289 b),ah,af,ad,ac,(by simp only[hn292,hn294]),((hE.stp (T11 S3 S7 S16 S23 S140 S143 S152 S161 S283 S290 S466) R R).map (ren [(12,3),(13,4),(16,2)]) R R),((f291.stp S466 R R).map (ren [(12,3),(13,4),(16,2)]) R R),((f293.stp S466 R R).map (ren [(12,3),(13,4),(16,2)]) R R),((f295.stp S466 R R).map (ren [(12,3),(13,4),(16,2)]) R R)⟩
theorem lT {a0 u0}{p0:(List Int)}(g0:Rd (Rp.int .u8) κ w 0 a0 u0 p0){r:Sig×Rival×(List Int)}(h:d9 p0=some r):Ret Try.prog 5 [.slice a0 p0.length u0] w (λv w'=>∃(κ':Col) (ra0:Option Addr) (ru0:Nat) (ra1:Option Addr) (ru1:Nat) (ra2:Option Addr) (ru2:Nat),v= .tuple #[.agg #[vi r.1.In,vi r.1.Out],.agg #[.slice ra0 r.2.1.In.length ru0,.slice ra1 r.2.1.Next.length ru1],.slice ra2 r.2.2.length ru2]/\Ent κ w κ' w'/\Oc E6 2 κ' w' 2 ra0 ru0 r.2.1.In/\Oc (Ep.own E6 2) 26 κ' w' 3 ra1 ru1 r.2.1.Next/\Oc E6 2 κ' w' 4 ra2 ru2 r.2.2):=by
 unfold d9 at h
 refine Jk3 κ F5 R N5 R λhE=>Je [1,1,2] R<|Jg1 (κ:=κ) 2 R R R R R X25 R λb2 w1 K2 S3 f4=>Tv<|Jg1 (κ:=K2) 3 R R R R R X29 R λb3 w5 K6 S7 f8=>Tv<|Jb 1 R<|Jg3 [2,1,2] 1 R<|Ob h λx9 hx9 h=>Jh R R R C14 (rf (κ:=λb=>mp [] 1<|K6 b) (Jl2 (g0.stp (S3.tr S7) R R) (mp [] 1) R R) hx9) ?_
 rintro _ w10 ⟨k11,ah,ai,b9,rfl,e12,f13,f14⟩
 obtain⟨K15,S16,m17,z18⟩:=Jj e12 4 R
 refine Tv<|?_
 have f19:=f13.mx z18
 refine Jb 1 R<|Jg3 [2,1,1,1] 1 R<|Ob h λx11 hx11 h=>Jh R R R C15 (nk (κ:=λb=>mp [(7,2)] 0<|K15 b) (p0:=x9) (Jl2 f19 (mp [(7,2)] 0) R R) ((f14.mx m17 R (R:4+3=7)).map (mp [(7,2)] 0) R R) hx11) ?_
 rintro _ w21 ⟨k22,rfl,e23,f24⟩
 obtain⟨K25,S26,m27⟩:=Ji e23 8 R
 refine Tv<|Jg1 (κ:=K25) 11 R R R R R X25 R λb6 w30 K31 S32 f33=>Tv<|Jj1 (κ:=K31) 11 (vc:=[vi x11.1.In,vi x11.1.Out]) R R R R R R R Z25 R R f33 R λw34 S35 f36=>Tv<|Jd<|Jg3 [2,1,1,1,1] 1 R<|Jl tv R R R R (Jd2 (cs:=[vi x11.1.In,vi x11.1.Out]) I25 Z25 R R R<|haE f36.cells)<|Ob h λx14 hx14 h=>?_
 have f37:=f19.stp (T3 S26 S32 S35) R R
 refine Jh R R R C16 (po (κ:=λb=>mp [(10,2)] 0<|K31 b) (p1:=x11.1) (p0:=(⟨x9.b,x11.2.1,x11.2.2⟩:l1Cur)) (Jl2 f37 (mp [(10,2)] 0) R R) (((f24.mx m27 R (R:8+2=10)).stp (S32.tr S35) R R).map (mp [(10,2)] 0) R R) hx14) ?_
 rintro _ w39 ⟨k40,ad,ab,ac,aa,rfl,e41,f42,f43,f44⟩
 obtain⟨K45,S46,m47⟩:=Ji e41 12 R
 refine Tv<|Jg1 (κ:=K45) 17 R R R R R X29 R λb7 w52 K53 S54 f55=>Tv<|Jj1 (κ:=K53) 17 (vc:=[.slice ad x14.1.In.length ab,.slice ac x14.1.Next.length aa]) R R R R R R R Z29 R R f55 R λw56 S57 f58=>Tv<|Jd<|Jq<|Js1 (κ:=K53) [11,17] none [(2,2),(0,0),(1,0),(3,1),(4,2),(5,1),(6,1),(7,2)] [] (by kernel_rfl) (by kernel_rfl) λw60 S59=>Jn 1 R<|Jg R (Jd2 (cs:=[vi x11.1.In,vi x11.1.Out]) I25 Z25 R R R<|haC (f36.stp (T4 S46 S54 S57 S59) R R).cells R)<|Jg R (Jd2 (cs:=[.slice ad x14.1.In.length ab,.slice ac x14.1.Next.length aa]) I29 Z29 R R R<|haC (f58.stp S59 R R).cells R)<|Ob h λx18 hx18 h=>Jh R R R C17 (pd (κ:=λb=>mp [(14,2)] 0<|K53 b) (p0:=(⟨x9.b,x14.2.1,x14.2.2⟩:l1Cur)) (Jl2 (f37.stp (T4 S46 S54 S57 S59) R R) (mp [(14,2)] 0) R R) (((f44.mx m47 R (R:12+2=14)).stp (T3 S54 S57 S59) R R).map (mp [(14,2)] 0) R R) hx18) ?_
 rintro _ w65 ⟨k66,ae,af,aj,ak,rfl,e67,f68,f69,f70⟩
 obtain⟨K71,S72,m73⟩:=Ji e67 18 R
 refine⟨(S72.cl R),Jf R (sq U45 R I26 R R R)<|Jj1 (κ:=K71) 2 (vc:=[vi x11.1.In,vi x11.1.Out]) R R R R R R R Z25 R R (f4.stp (T10 S7 S16 S26 S32 S35 S46 S54 S57 S59 S72) R R) R λw79 S80 f81=>⟨((S72.tr S80).cl R),Jj1 (κ:=K71) 3 (vc:=[.slice ad x14.1.In.length ab,.slice ac x14.1.Next.length aa]) R R R R R R R Z29 R R (f8.stp (T10 S16 S26 S32 S35 S46 S54 S57 S59 S72 S80) R R) R λw83 S84 f85=>⟨((T3 S72 S80 S84).cl R),Jn 1 R<|Jt1<|Jd<|Ju<|Ja2 (l:=[.cell 2 25,.cell 3 29,.tmp 4]) V5 (bH R (f81.stp S84 R R) I25 Z25 R<|bH R f85 I29 Z29 R<|Jp2 R R) R ?_⟩⟩⟩
 cases h
 have S001:=(T6 S54 S57 S59 S72 S80 S84)
 exact⟨(λb=>ren [(15,2),(16,3),(21,4)]<|K71 b),ad,ab,ac,aa,ae,af,R,((hE.stp (T13 S3 S7 S16 S26 S32 S35 S46 S54 S57 S59 S72 S80 S84) R R).map (ren [(15,2),(16,3),(21,4)]) R R),(((f42.mx (bE _) m47 R (R:12+3=15)).stp S001 R R).map (ren [(15,2),(16,3),(21,4)]) R R),(((f43.mx (dB (bE _) _) m47 R (R:12+4=16)).stp S001 R R).map (ren [(15,2),(16,3),(21,4)]) R R),(((f68.mx (bE _) m73 R (R:18+3=21)).stp (S80.tr S84) R R).map (ren [(15,2),(16,3),(21,4)]) R R)⟩
theorem ou {a0 u0}{p0:(List Int)}(g0:Rd (Rp.int .u8) κ w 0 a0 u0 p0){r:Bool}(h:j4 p0=some r):Ret Try.prog 3 [.slice a0 p0.length u0] w (Pvb κ w r):=by
 unfold j4 at h
 refine Jk3 κ F3 R N3 R λhE=>Je3 R<|Jq<|Jg3 [2,1] 1 R<|Ob h λx10 hx10 h=>Jh R R R C4 (tg (κ:=Mk κ) (Ji3 g0) hx10) ?_
 rintro _ w1 ⟨k2,rfl,e3⟩
 obtain⟨K4,S5,m6⟩:=Ji e3 2 R
 refine Tv<|Jd ?_
 revert h
 cases ht8:x10
 refine JF λh=>Jy R<|Js<|Jp<|Jg3 [2,1,2,2,2,2,1,1,1,1,2] 1 R<|Ob h λx13 hx13 h=>?_
 have f10:=g0.stp S5 R R
 refine Jh R R R C5 (lT (κ:=Mk K4) (Ji3 f10) hx13) ?_
 rintro _ w11 ⟨k12,ad,ab,aa,ac,ah,af,rfl,e13,f14,f15,f16⟩
 obtain⟨K17,S18,m19⟩:=Ji e13 4 R
 refine Tv<|Jn 4 R<|Jg1 (κ:=K17) 9 R R R R R X25 R λb3 w24 K25 S26 f27=>Tv<|Jg1 (κ:=K25) 10 R R R R R X29 R λb4 w28 K29 S30 f31=>Tv<|Jj1 (κ:=K29) 9 (vc:=[vi x13.1.In,vi x13.1.Out]) R R R R R R R Z25 R R (f27.stp S30 R R) R λw33 S34 f35=>Tv<|Jj1 (κ:=K29) 10 (vc:=[.slice ad x13.2.1.In.length ab,.slice aa x13.2.1.Next.length ac]) R R R R R R R Z29 R R (f31.stp S34 R R) R λw37 S38 f39=>Tv<|Jb 1 R<|Je [1,1,2,1,2] R ?_
 have f40:=f35.stp S38 R R
 refine Jl tv R R R R (Jd2 (cs:=[vi x13.1.In,vi x13.1.Out]) I25 Z25 R R R<|haE f40.cells)<|Jl tv R R R R (Jd2 (cs:=[.slice ad x13.2.1.In.length ab,.slice aa x13.2.1.Next.length ac]) I29 Z29 R R R<|haE f39.cells)<|Jn 1 R<|Ob h λx20 hx20 h=>?_
 have f41:=(f14.mx (bE _) m19 R (R:4+2=6)).stp (T4 S26 S30 S34 S38) R R
 have f42:=(f15.mx (dB (bE _) _) m19 R (R:4+3=7)).stp (T4 S26 S30 S34 S38) R R
 have f43:=(f16.mx (bE _) m19 R (R:4+4=8)).stp (T4 S26 S30 S34 S38) R R
 refine Jh R R R C6 (kL (κ:=Mk K29) (p0:=x13.1) (p1:=x13.2.1) (Ji3 f41.rdc) (Ji3 f42.rdc) (Ji3 f43.rdc) hx20) ?_
 rintro _ w44 ⟨k45,ai,ae,rfl,e46,f47⟩
 obtain⟨K48,S49,m50⟩:=Ji e46 11 R
 refine Tv<|Jb 1 R<|Jq<|Jq<|Js1 (κ:=K48) [9,10] none [(0,2),(3,2),(1,0),(2,0),(4,1),(5,1),(6,2),(7,2),(8,0),(9,0),(11,0),(12,0),(10,1),(13,1),(14,2),(15,2)] [] (by kernel_rfl) (by kernel_rfl) λw54 S53=>Jn 2 R ?_
 have f55:=f40.stp (S49.tr S53) R R
 refine Jg R (Jd2 (cs:=[vi x13.1.In,vi x13.1.Out]) I25 Z25 R R R<|haC f55.cells R) ?_
 have f56:=f39.stp (S49.tr S53) R R
 refine Jg R (Jd2 (cs:=[.slice ad x13.2.1.In.length ab,.slice aa x13.2.1.Next.length ac]) I29 Z29 R R R<|haC f56.cells R)<|Ob h λx25 hx25 h=>?_
 have f57:=f41.stp (S49.tr S53) R R
 have f58:=f42.stp (S49.tr S53) R R
 have f59:=f43.stp (S49.tr S53) R R
 refine Jh R R R C8 (ob (κ:=Mk K48) (p0:=x13.1) (p1:=x13.2.1) (Ji3 f57.rdc) (Ji3 f58.rdc) (Ji3 f59.rdc) hx25) ?_
 rintro _ w60 ⟨k61,aj,ao,rfl,e62,f63⟩
 obtain⟨K64,S65,m66⟩:=Ji e62 14 R
 refine⟨(S65.cl R),Ob h λx26 hx26 h=>?_⟩
 have f69:=(f47.mx (bE _) m50 R (R:11+2=13)).stp (S53.tr S65) R R
 refine Jh R R R C7 (lH (κ:=Mk K64) (Ji3 f69.rdc) (Ji3 (f63.mx (bE _) m66 R (R:14+2=16)).rdc) hx26) ?_
 rintro _ w70 ⟨k71,rfl,e72⟩
 obtain⟨K73,S74,m75⟩:=Ji e72 17 R
 refine⟨((S65.tr S74).cl R),Jn 2 R<|Ob h λp36 h hK77=>Ju1 [(8,0),(9,0),(11,0),(12,0),(10,1),(13,1),(14,2),(15,2)] [] (λL w'=>L=[(0,.slice a0 p0.length u0),(3,.pointer (some ⟨b3,0,none⟩)),(4,.pointer (some ⟨b4,0,none⟩)),(5,.slice ah x13.2.2.length af),(6,.slice ai x20.length ae),(36,.bool p36)]/\∃κ',Stp [] K73 w70 κ' w') ((S65.tr S74).cl R) ?_ ?_⟩
 revert h
 cases ht78:(!x26)
 refine JF λh=>Jg R (Jd2 (cs:=[vi x13.1.In,vi x13.1.Out]) I25 Z25 R R R<|haC f55.cells R)<|Jg R (Jd2 (cs:=[.slice ad x13.2.1.In.length ab,.slice aa x13.2.1.Next.length ac]) I29 Z29 R R R<|haC f56.cells R)<|Jg R (Jd2 (cs:=[vi x13.1.In,vi x13.1.Out]) I25 Z25 R R R<|haC f55.cells R)<|Jg R (Jd2 (cs:=[.slice ad x13.2.1.In.length ab,.slice aa x13.2.1.Next.length ac]) I29 Z29 R R R<|haC f56.cells R)<|Ob h λx31 hx31 h=>?_
 have f79:=f57.stp (S65.tr S74) R R
 have f80:=f58.stp (S65.tr S74) R R
 refine Jh R R R C9 (pD (κ:=Mk K73) (p0:=x13.1) (p1:=x13.2.1) (Ji3 f79.rdc) (Ji3 f80.rdc) hx31) ?_
 rintro _ w81 ⟨k82,rfl,e83⟩
 obtain⟨K84,S85,m86⟩:=Ji e83 19 R
 refine⟨((T3 S65 S74 S85).cl R),Ob h λx34 hx34 h=>Jh R R R C10 (mu (κ:=Mk K84) (p0:=x13.1) (p1:=x13.2.1) (Ji3 (f79.stp S85 R R).rdc) (Ji3 (f80.stp S85 R R).rdc) hx34) ?_⟩
 rintro _ w90 ⟨k91,rfl,e92⟩
 obtain⟨K93,S94,m95⟩:=Ji e92 21 R
 refine⟨((T4 S65 S74 S85 S94).cl R),Jf R (pM R R U4 R)<|Jn 1 R ?_⟩
 cases h
 exact Jv1 _ ((T4 S65 S74 S85 S94).cl R) ⟨R,_,(S85.tr S94).wk R⟩<|KM R
 refine JT λh=>Je1 R R R R<|Je1 R R R R<|Je1 R R R R<|Je1 R R R R<|Jd1 R R R R<|Jd1 R R R R<|Jn 2 R ?_
 cases h
 exact Jv1 _ ((S65.tr S74).cl R) ⟨R,_,Jj3⟩<|KM R
 rintro _ w97 _ ⟨rfl,K98,S99⟩
 have h:=hK77
 refine Jt1<|Jd ?_
 revert h
 cases ht100:p36
 refine JF λh=>Jy R<|Js<|Jp<|Jq<|Jg3 [2,2,2] 1 R<|Jn3 R U26 R R<|Jb 1 R ?_
 revert h
 cases ht102:((x20.length:Int)==0)
 refine JF λh=>Jy R<|Js<|Jp<|Jg3 [2,1,2] 1 R<|Ob h λx41 hx41 h=>Jh R R R C11 (sb (κ:=λb=>mp [] 1<|K98 b) (Jl2 (f10.stp (T10 S18 S26 S30 S34 S38 S49 S53 S65 S74 S99) R R) (mp [] 1) R R) hx41) ?_
 rintro _ w105 ⟨k106,ak,al,b41,rfl,e107,f108,f109⟩
 obtain⟨K110,S111,m112,z113⟩:=Jj e107 19 R
 refine Tv<|Jb 1 R<|Jg3 [2,2,2,2,1,2] 2 R<|Jn3 R U26 R R<|Jn 1 R<|Ob h λx46 hx46 h=>Jh R R R C12 (nj (κ:=λb=>mp [(22,2)] 0<|K110 b) (p0:=x41) (Jl2 (f108.mx z113) (mp [(22,2)] 0) R R) ((f109.mx m112 R (R:19+3=22)).map (mp [(22,2)] 0) R R) hx46) ?_
 rintro _ w116 ⟨k117,rfl,e118,f119⟩
 obtain⟨K120,S121,m122⟩:=Ji e118 23 R
 refine Tv<|Jb 1 R<|Jq<|Js1 (κ:=K120) [9,10] none [(2,2),(3,2),(4,2),(6,2),(7,2),(8,2),(9,2),(0,0),(1,0),(5,1),(10,1),(11,2),(12,0),(13,0),(14,0),(15,1),(16,2),(17,2)] [] (by kernel_rfl) (by kernel_rfl) λw126 S125=>Jn 2 R<|Ob h λx51 hx51 h=>Jf R (jR (k1:= .i64) (k2:= .i64) U26 Z2 (.inl ⟨R,R⟩) (.inr ⟨_,R,R⟩) hx51 f59.rdc.1 R R R)<|Jn 3 R<|Ob h λx56 hx56 h=>Jf R (jR (k1:= .i64) (k2:= .i64) U26 Z2 (.inl ⟨R,R⟩) (.inr ⟨_,R,R⟩) hx56 f69.rdc.1 R R R) ?_
 have f131:=f55.stp (T6 S65 S74 S99 S111 S121 S125) R R
 refine Jg R (Jd2 (cs:=[vi x13.1.In,vi x13.1.Out]) I25 Z25 R R R<|haC f131.cells R) ?_
 have f132:=f56.stp (T6 S65 S74 S99 S111 S121 S125) R R
 refine Jg R (Jd2 (cs:=[.slice ad x13.2.1.In.length ab,.slice aa x13.2.1.Next.length ac]) I29 Z29 R R R<|haC f132.cells R)<|Ob h λx52 hx52 h=>?_
 have f133:=f57.stp (T6 S65 S74 S99 S111 S121 S125) R R
 have f134:=f58.stp (T6 S65 S74 S99 S111 S121 S125) R R
 refine Jh R R R C6 (kL (κ:=Mk K120) (p0:=x13.1) (p1:=x13.2.1) (Ji3 f133.rdc) (Ji3 f134.rdc) (Ji3 ((f59.stp (T6 S65 S74 S99 S111 S121 S125) R R).rdc.sub hx51)) hx52) ?_
 rintro _ w135 ⟨k136,am,an,rfl,e137,f138⟩
 obtain⟨K139,S140,m141⟩:=Ji e137 26 R
 refine⟨(S140.cl R),Ob h λx57 hx57 h=>Jh R R R C7 (lH (κ:=Mk K139) (Ji3 (f138.mx (bE _) m141 R (R:26+2=28)).rdc) (Ji3 (((f69.stp (T5 S74 S99 S111 S121 S125) R R).rdc.sub hx56).stp S140 R R)) hx57) ?_⟩
 rintro _ w145 ⟨k146,rfl,e147⟩
 obtain⟨K148,S149,m150⟩:=Ji e147 29 R
 refine⟨((S140.tr S149).cl R),Jn 1 R<|Ob h λp63 h hK152=>Ju1 [(12,0),(13,0),(14,0),(15,1),(16,2)] [(17,2)] (λL w'=>L=[(63,.bool p63)]/\∃κ',Stp [] K148 w145 κ' w') ((S140.tr S149).cl R) ?_ ?_⟩
 revert h
 cases ht153:x57
 refine JF λh=>Je1 R R R R<|Je1 R R R R<|Je1 R R R R<|Jd1 R R R R<|Jn 1 R ?_
 cases h
 exact Jv1 _ ((S140.tr S149).cl R) ⟨R,_,Jj3⟩<|KM R
 refine JT λh=>Jg R (Jd2 (cs:=[vi x13.1.In,vi x13.1.Out]) I25 Z25 R R R<|haC f131.cells R)<|Jg R (Jd2 (cs:=[.slice ad x13.2.1.In.length ab,.slice aa x13.2.1.Next.length ac]) I29 Z29 R R R<|haC f132.cells R)<|Jg R (Jd2 (cs:=[.slice ad x13.2.1.In.length ab,.slice aa x13.2.1.Next.length ac]) I29 Z29 R R R<|haC f132.cells R)<|Ob h λx62 hx62 h=>?_
 have f154:=f133.stp (S140.tr S149) R R
 have f155:=f134.stp (S140.tr S149) R R
 refine Jh R R R C13 (n9 (κ:=Mk K148) (p0:=x13.1) (p1:=x13.2.1) (p2:=x13.2.1) (Ji3 f154.rdc) (Ji3 f155.rdc) (Ji3 f154.rdc) (Ji3 f155.rdc) hx62) ?_
 rintro _ w156 ⟨k157,rfl,e158⟩
 obtain⟨K159,S160,m161⟩:=Ji e158 31 R
 refine⟨((T3 S140 S149 S160).cl R),Jn 1 R ?_⟩
 cases h
 exact Jv1 _ ((T3 S140 S149 S160).cl R) ⟨R,_,S160.wk R⟩<|KM R
 rintro _ w163 _ ⟨rfl,K164,S165⟩
 have h:=hK152
 refine Jn 1 R<|Jt1<|Jd<|Ju<|Ja2 (l:=[.tmp 2]) V3 (Jp2 R R) R ?_
 cases h
 exact⟨K164,R,(hE.stp (S5.tr<|S18.tr<|S26.tr<|S30.tr<|S34.tr<|S38.tr<|S49.tr<|S53.tr<|S65.tr<|S74.tr<|S99.tr<|S111.tr<|S121.tr<|S125.tr<|S140.tr<|S149.tr S165) R R)⟩
 refine JT λh=>Jx R<|Je3 R<|Ju<|Jw<|Ja2 (l:=[.tmp 2]) V3 (Jp2 R R) R ?_
 cases h
 exact⟨K98,R,(hE.stp (T11 S5 S18 S26 S30 S34 S38 S49 S53 S65 S74 S99) R R)⟩
 refine JT λh=>Jx R<|Je3 R<|Ju<|Jw<|Ja2 (l:=[.tmp 2]) V3 (Jp2 R R) R ?_
 cases h
 exact⟨K98,R,(hE.stp (T11 S5 S18 S26 S30 S34 S38 S49 S53 S65 S74 S99) R R)⟩
 refine JT λh=>Jx R<|Je3 R<|Ju<|Jw<|Ja2 (l:=[.tmp 2]) V3 (Jp2 R R) R ?_
 cases h
 exact⟨K4,R,(hE.stp S5 R R)⟩
end Go.Proofs.Ytpcjbkgbnoocaaa
