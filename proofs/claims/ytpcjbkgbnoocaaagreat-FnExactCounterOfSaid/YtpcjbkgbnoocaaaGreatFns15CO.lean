/- The walks, part 15. By program. -/
import Derived.Test.YtpcjbkgbnoocaaaGreatFns14CO
set_option linter.unusedVariables false
set_option linter.unusedSimpArgs false
namespace Go.Proofs.YtpcjbkgbnoocaaaGreat
open Go Go.Wk Go.Proofs
set_option maxRecDepth 100000
set_option maxHeartbeats 1000000
theorem nQ {w:World}{κ:Col}{p0:Sig}{a1 u1}{p1:(List Clause)}(g1:Rd Clause.rp κ w 0 a1 u1 p1){r:Rival×Bool}(h:ej p0 p1=some r):Ret Tryz.prog 18 [.agg #[vi p0.In,vi p0.Out],.slice a1 p1.length u1] w (λv w'=>∃(κ':Col) (ra0:Option Addr) (ru0:Nat) (ra1:Option Addr) (ru1:Nat),v= .tuple #[.agg #[.slice ra0 r.1.In.length ru0,.slice ra1 r.1.Next.length ru1],.bool r.2]/\Ent κ w κ' w'/\Oc E6 2 κ' w' 2 ra0 ru0 r.1.In/\Oc (Ep.own E6 2) 29 κ' w' 3 ra1 ru1 r.1.Next):=by
 unfold ej at h
 refine Ret.enter F18 R N18 R ?_
 dsimp only[envOf]
 have hE:=Ent.refl κ w
 refine Je [1,1,2] R (Jf1 (κ:=κ) 2 R R R R R R R λb2 w1 K2 S3 f4=>⟨tv,Jg1 (κ:=K2) 3 R R R R R X31 R λb4 w5 K6 S7 f8=>⟨tv,Jb 1 R (Je [1,2,1,2,2,2,1,1,2] R ?_)⟩⟩)
 have f9:=f4.stp S7 R R
 refine Jl tv R R R R (Jd2 (cs:=[vi p0.In,vi p0.Out]) I25 Z25 R R R (haE f9.cells)) (Jn 1 R (Ob h λx29 hx29 h=>Jh R R R C68 (ot (κ:=Mk K6) (p0:=p0) (Ji3 (g1.stp (S3.tr S7) R R)) hx29) ?_))
 rintro _ w11 ⟨k12,aR,aG,aO,aM,rfl,e13,f14,f15⟩
 obtain⟨K16,S17,m18⟩:=Ji e13 4 R
 refine⟨tv,Jn 3 R (Jg1 (κ:=K16) 8 R R R R R X100 R λb6 w22 K23 S24 f25=>⟨tv,Jj1 (κ:=K23) 8 (vc:=[.slice aR x29.1.Next.length aG,.slice aO x29.1.Pairs.length aM]) R R R R R R R Z100 R R f25 R λw26 S27 f28=>⟨tv,Jb 1 R (Je [1,1,1,2,2,2,2,1,1,2,2] R ?_)⟩⟩)⟩
 have f29:=f9.stp (S17.tr (S24.tr S27)) R R
 refine Jl tv R R R R (Jd2 (cs:=[vi p0.In,vi p0.Out]) I25 Z25 R R R (haE f29.cells)) (Jl tv R R R R (Jd2 (cs:=[.slice aR x29.1.Next.length aG,.slice aO x29.1.Pairs.length aM]) I100 Z100 R R R (haE f28.cells)) ?_)
 obtain⟨K31,S32,z33⟩:=dL K23 w26 6
 obtain⟨K36,S37,z38⟩:=dL K31 w26 7
 refine Ob h λx35 hx35 h=>?_
 have f40:=(Sl.st z33 ((f14.mx (ck (bH _) _) m18 R (R:4+2=6)).stp (S24.tr S27) R R).rdc).stp S37 R R
 refine Jh R R R C69 (oy (κ:=λb=>mp [] 1 (K36 b)) (p0:=p0) (p1:=x29.1) (Jl2 f40 (mp [] 1) R R) (Jl2 (Sl.st z38 ((f15.mx Pair.no154 m18 R (R:4+3=7)).stp (S24.tr (S27.tr S32)) R R).rdc) (mp [] 1) R R) hx35) ?_
 rintro _ w41 ⟨k42,aF,aD,aP,aQ,bn,bh,rfl,e43,f44,f45,f46⟩
 obtain⟨K47,S48,m49,z50⟩:=Jj e43 9 R
 refine⟨tv,Jn 4 R (Jg1 (κ:=K47) 14 R R R R R X104 R λb8 w54 K55 S56 f57=>⟨tv,Jj1 (κ:=K55) 14 (vc:=[.slice aF x35.1.Owner.length aD,.slice aP x35.1.Next.length aQ]) R R R R R R R Z104 R R f57 R λw58 S59 f60=>⟨tv,Jb 2 R (Je [1,2,1,2,2,2,2,1,1,2,2] R (Jl tv R R R R (Jd2 (cs:=[.slice aF x35.1.Owner.length aD,.slice aP x35.1.Next.length aQ]) I104 Z104 R R R (haE f60.cells)) (Jn 1 R ?_)))⟩⟩)⟩
 obtain⟨K62,S63,z64⟩:=dL K55 w58 11
 obtain⟨K67,S68,z69⟩:=dL K62 w58 12
 obtain⟨K72,S73,z74⟩:=dL K67 w58 13
 refine Ob h λx42 hx42 h=>Jh R R R C70 (oV (κ:=λb=>mp [] 1 (K72 b)) (p0:=x35.1) (Jl2 ((Sl.st z64 ((f44.mx (bH _) m49 R (R:9+2=11)).stp (S56.tr S59) R R).rdc).stp (S68.tr S73) R R) (mp [] 1) R R) (Jl2 ((Sl.st z69 ((f45.mxz z50 m49 R (R:9+3=12)).stp (S56.tr (S59.tr S63)) R R).rdc).stp S73 R R) (mp [] 1) R R) (Jl2 (Sl.st z74 ((f46.mx Pair.no154 m49 R (R:9+4=13)).stp (S56.tr (S59.tr (S63.tr S68))) R R).rdc) (mp [] 1) R R) hx42) ?_
 rintro _ w78 ⟨k79,aI,aH,aK,aS,aL,aN,aa,af,rfl,e80,f81,f82,f83,f84⟩
 obtain⟨K85,S86,m87,z88⟩:=Jj e80 15 R
 refine⟨tv,?_⟩
 have f92:=f84.mxz z88 m87 R (R:15+5=20)
 refine Jn 4 R (Jg1 (κ:=K85) 21 R R R R R X108 R λb11 w93 K94 S95 f96=>⟨tv,Jj1 (κ:=K94) 21 (vc:=[.slice aI x42.1.Arena.Owner.length aH,.slice aK x42.1.Arena.Next.length aS,.slice aL x42.1.Prio.length aN]) R R R R R R R Z108 R R f96 R λw97 S98 f99=>⟨tv,Jb 2 R (Jq (Jg3 [2,2,2,2,2,2,2,2,2,2] 3 R (Ob h λp51 h hK100=>Ju1 [(3,2),(4,2),(5,2)] [(6,2),(7,2),(8,2),(9,2)] (λL w'=>L=[(2,.pointer (some ⟨b2,0,none⟩)),(4,.pointer (some ⟨b4,0,none⟩)),(6,.pointer (some ⟨b6,0,none⟩)),(11,.pointer (some ⟨b11,0,none⟩)),(12,.slice aa x42.2.1.length af),(13,.bool x42.2.2),(51,.bool p51)]/\∃κ',Stp [] K94 w97 κ' w') tv ?_ ?_)))⟩⟩)
 revert h
 cases ht101:(!x29.2)
 refine JF λh=>Jn 3 R ?_
 cases h
 exact Jv1 _ tv ⟨R,_,Jj3⟩ (KM R)
 refine JT λh=>Jn 3 R ?_
 cases h
 exact Jv1 _ tv ⟨R,_,Jj3⟩ (KM R)
 rintro _ w102 _ ⟨rfl,K103,S104⟩
 have h:=hK100
 refine Jn 1 R (Ob h λp55 h hK105=>Ju1 [(7,2),(8,2),(9,2)] [] (λL w'=>L=[(2,.pointer (some ⟨b2,0,none⟩)),(4,.pointer (some ⟨b4,0,none⟩)),(6,.pointer (some ⟨b6,0,none⟩)),(11,.pointer (some ⟨b11,0,none⟩)),(12,.slice aa x42.2.1.length af),(55,.bool p55)]/\∃κ',Stp [] K103 w102 κ' w') tv ?_ ?_)
 revert h
 cases ht106:p51
 refine JF λh=>Jn 3 R ?_
 cases h
 exact Jv1 _ tv ⟨R,_,Jj3⟩ (KM R)
 refine JT λh=>Jn 3 R ?_
 cases h
 exact Jv1 _ tv ⟨R,_,Jj3⟩ (KM R)
 rintro _ w107 _ ⟨rfl,K108,S109⟩
 have h:=hK105
 refine Jd ?_
 revert h
 cases ht110:p55
 refine JF λh=>Jy R (Js (Jp (Je [1,1,1,1] R ?_)))
 have f116:=f99.stp (S104.tr S109) R R
 refine Jl tv R R R R (Jd2 (cs:=[.slice aI x42.1.Arena.Owner.length aH,.slice aK x42.1.Arena.Next.length aS,.slice aL x42.1.Prio.length aN]) I108 Z108 R R R (haE f116.cells)) (Ob h λx58 hx58 h=>?_)
 have f118:=(f82.mx (ck (bH _) _) m87 R (R:15+3=18)).stp (S95.tr (S98.tr (S104.tr S109))) R R
 have S001:=(S95.tr (S98.tr (S104.tr S109)))
 refine Jh R R R C71 (qN (κ:=Mk K108) (p0:=x42.1) (Ji3 ((f81.mx (bH _) m87 R (R:15+2=17)).stp S001 R R).rdc) (Ji3 f118.rdc) (Ji3 ((f83.mx (bH _) m87 R (R:15+4=19)).stp S001 R R).rdc) hx58) ?_
 rintro _ w120 ⟨k121,aV,aX,aY,aW,rfl,e122,f123,f124⟩
 obtain⟨K125,S126,m127⟩:=Ji e122 22 R
 refine⟨tv,?_⟩
 have f129:=f123.mx (bH _) m127 R (R:22+2=24)
 have f130:=f124.mx (bH _) m127 R (R:22+3=25)
 refine Jg1 (κ:=K125) 26 R R R R R X113 R λb14 w131 K132 S133 f134=>⟨tv,Jj1 (κ:=K132) 26 (vc:=[.slice aV x58.Won.length aX,.slice aY x58.Plan.length aW]) R R R R R R R Z113 R R f134 R λw135 S136 f137=>⟨tv,Jd (Jq (Je [2,1,2,1,2] R (Jd3 R U113 R Z29 (Jb3 R I29 (f137.ld 0 R R) (Ob h λx61 hx61 h=>Jc3 R f129.rdc hx61 U29 Z2 (Jb3 R I2 ((f129.stp (S133.tr S136) R R).rdc.gInt hx61) (Jb 1 R ?_)))))))⟩⟩
 revert h
 cases ht139:(x61==0)
 refine JF λh=>Jy R (Js (Jp (Je [2,1,2,2] R (Jd3 R U100 R Z26 ?_))))
 have f145:=f28.stp (S32.tr (S37.tr (S48.tr (S56.tr (S59.tr (S63.tr (S68.tr (S73.tr (S86.tr (S95.tr (S98.tr (S104.tr (S109.tr (S126.tr (S133.tr S136))))))))))))))) R R
 refine Jb3 R I26 (f145.ld 0 R R) (Jf R (Je2 U26 R R) (Jb 1 R (Je [1,2] R (Jn1 (κ:=K132) (E:=E6) 27 [] (parts:=[(0,.const (vi 0))]) (cells:=[vi 0]) (xs:=([0]:List Int)) R R R R R R Y29 Tryzinfo2 R R R R R R R R R R ⟨[vi 0],[],Zl K132 w135 [],Zl K132 w135 [],R,Zl.sp (l1:=[]) (l2:=[]) R,Zl.sr (l1:=[]) (l2:=[]),R,R⟩ λbe aZ w146 K147 S148 f149=>⟨tv,Jb 1 R (Je [2,1,1] R (Jf R (bI (parts:=[]) (cells:=[.slice none 0 0,.slice none 0 0]) R R (by kernel_rfl)) (Jg1 (κ:=K147) 28 R R R R R X31 R λb17 w150 K151 S152 f153=>⟨tv,Jj1 (κ:=K151) 28 (vc:=[.slice none 0 0,.slice none 0 0]) R R R R R R R Z31 R R f153 R λw154 S155 f156=>⟨tv,Jd (Jq (Je3 R (Ob h λq2 hq159 hK158=>?_)))⟩⟩)))⟩))))
 clear h
 refine Jx1 (λL w'=>∃κ',∃s3:(List Int)×Int×(List Int)×(List (List Int)),∃aE aJ ae ab ac ad,L=[(4,.pointer (some ⟨b4,0,none⟩)),(17,.pointer (some ⟨b17,0,none⟩))]/\Stp [27,28,29,30,33,35] K151 w154 κ' w'/\Oc E6 2 κ' w' 27 aE aJ s3.1/\Oc E6 2 κ' w' 29 ae ab s3.2.2.1/\Oc (Ep.own E6 2) 29 κ' w' 30 ac ad s3.2.2.2/\Bc κ' w' 28 b17 31 [.slice ae s3.2.2.1.length ab,.slice ac s3.2.2.2.length ad]/\q2=Sum.inr s3) ?_ ?_
 refine Jv (Jy1 (λk L w'=>∃κ',∃s1:(List Int)×Int×(List Int)×(List (List Int)),∃ao aj au aA ap ai,L=[(2,.pointer (some ⟨b2,0,none⟩)),(4,.pointer (some ⟨b4,0,none⟩)),(6,.pointer (some ⟨b6,0,none⟩)),(11,.pointer (some ⟨b11,0,none⟩)),(12,.slice aa x42.2.1.length af),(14,.pointer (some ⟨b14,0,none⟩)),(15,vi (x29.1.Next.length:Int)),(16,.slice ao s1.1.length aj),(17,.pointer (some ⟨b17,0,none⟩)),(18,vi s1.2.1)]/\Stp [27,28,29,30,33,35] K151 w154 κ' w'/\Oc E6 2 κ' w' 27 ao aj s1.1/\Oc E6 2 κ' w' 29 au aA s1.2.2.1/\Oc (Ep.own E6 2) 29 κ' w' 30 ap ai s1.2.2.2/\Bc κ' w' 28 b17 31 [.slice au s1.2.2.1.length aA,.slice ap s1.2.2.2.length ai]/\whileM (cT p0 x29 x42 x58) k s1=some q2) ⟨_,_,⟨K151,((([0]:List Int):(List Int)),(0:Int),(([]:List Int):(List Int)),(([]:List (List Int)):(List (List Int)))),be,aZ,none,0,none,0,R,Jj3,(f149.stp (S152.tr S155) R R),Ow.nil,Ow.nil,f156,hq159⟩,(KM R)⟩ ?_)
 rintro k _ w167 ⟨K168,s1,ao,aj,au,aA,ap,ai,rfl,S169,f170,f171,f172,f173,h⟩
 rcases k with _ | k
 cases h
 obtain⟨o157,h,hk175⟩:=BI h;unfold cT at h
 refine Jq (Jg3 [2,2,2,2] 2 R (Jf R (Je2 U29 R R) (Jb 1 R ?_)))
 revert h
 cases ht176:decide (s1.2.1<(s1.1.length:Int))
 refine JF λh=>Jy R (Jc1 (Jt (Jt ?_)))
 cases h
 have h:=hk175
 refine Jb1 ?_
 cases h
 exact Jw1 _ ⟨K168,((s1.1:(List Int)),(s1.2.1:Int),(s1.2.2.1:(List Int)),(s1.2.2.2:(List (List Int)))),ao,aj,au,aA,ap,ai,R,S169.wk R,f170,f171,f172,f173,R⟩ (KM R)
 refine JT λh=>Jx R (Js (Jp (Jq (Jv (Jg3 [2,2,2,2,1,2,2,1,2] 3 R (Ob h λx79 hx79 h=>Jc3 R f170.rdc hx79 U29 Z2 (Jb3 R I2 (f170.rdc.gInt hx79) (Ob h λx81 hx81 h=>Jc3 R f92.rdc hx81 U109 Z116 (Jd3 R U116 R Z2 ?_)))))))))
 have f177:=f92.stp (S95.tr (S98.tr (S104.tr (S109.tr (S126.tr (S133.tr (S136.tr (S148.tr (S152.tr (S155.tr S169)))))))))) R R
 obtain⟨cse178,hre178,hle178⟩:=Ow.gZS f177 hx81
 obtain⟨ae178_0,ue178_0,rfl,fe178_0⟩:=Place.un hre178
 refine Jb3 R I2 (λw' hw'=>hle178 w' hw' 0 _ R) (Jb 1 R (Jq (Js1 (κ:=K168) [0,25,26,27] none [(0,2),(2,2),(3,2),(4,2),(1,0),(5,0),(6,2),(7,0),(8,2)] [] (by kernel_rfl) (by kernel_rfl) λw180 S179=>Jd3 R U113 R Z29 (Jn 2 R (Ob h λx88 hx88 h=>Jc3 R f170.rdc hx88 U29 Z2 (Jg R (Jc2 I29 R R (hvC ((f137.stp (S148.tr (S152.tr (S155.tr (S169.tr S179)))) R R).ld 1 R R) R)) ?_))))))
 have f182:=f170.stp S179 R R
 refine Jg R (Jc2 I2 R R (hvC (f182.rdc.gInt hx88) R)) (Ob h λx90 hx90 h=>Jc3 R f130.rdc hx90 U29 Z2 (Jg R (Jc2 I2 R R (hvC ((f130.stp (S133.tr (S136.tr (S148.tr (S152.tr (S155.tr (S169.tr S179)))))) R R).rdc.gInt hx90) R)) (Jn 1 R (Jt1 (Jd (Jq (Js1 (κ:=K168) [0,2,20] none [(0,2),(1,2),(2,2),(3,2),(5,2),(4,0),(6,2),(7,0),(8,1),(9,2),(10,2)] [] (by kernel_rfl) (by kernel_rfl) λw185 S184=>Jn 2 R (Ob h λx94 hx94 h=>Jc3 R f177.rdc hx94 U109 Z116 (Jd3 R U116 R Z2 (Jn 1 R ?_))))))))))
 have f186:=f177.stp (S179.tr S184) R R
 obtain⟨cse187,hre187,hle187⟩:=Ow.gZS f186 hx94
 obtain⟨ae187_0,ue187_0,rfl,fe187_0⟩:=Place.un hre187
 refine Jg R (Jc2 I2 R R (hvC (λw' hw'=>hle187 w' hw' 0 _ R) R)) (Jn 1 R ?_)
 have f188:=f29.stp (S32.tr (S37.tr (S48.tr (S56.tr (S59.tr (S63.tr (S68.tr (S73.tr (S86.tr (S95.tr (S98.tr (S104.tr (S109.tr (S126.tr (S133.tr (S136.tr (S148.tr (S152.tr (S155.tr (S169.tr (S179.tr S184))))))))))))))))))))) R R
 refine Jg R (Jd2 (cs:=[vi p0.In,vi p0.Out]) I25 Z25 R R R (haC f188.cells R)) (Ob h λx100 hx100 h=>Jh R R R C72 (kJ (κ:=Mk K168) (p0:=p0) hx100) ?_)
 rintro _ w189 ⟨k190,rfl,e191⟩
 obtain⟨K192,S193,m194⟩:=Ji e191 31 R
 refine⟨(S193.cl R),Ob h λ_z101 hz101 h=>Jf R (qe R R R (uB hz101)) (Jn 1 R (Jt1 (Jd (Je [1,2] R (Jo1 (κ:=K192) (E:=E6) 33 R R R R R Y29 Tryzinfo2 R λba bd w196 K197 S198 f199=>⟨tv,Jb 1 R (Jq (Je3 R (Ob h λq5 hq202 hK201=>?_)))⟩)))))⟩
 clear h
 refine Jx1 (λL w'=>∃κ',∃s6:(List Int)×(List Int)×Int,∃ar ay am aq,L=[(2,.pointer (some ⟨b2,0,none⟩)),(4,.pointer (some ⟨b4,0,none⟩)),(6,.pointer (some ⟨b6,0,none⟩)),(11,.pointer (some ⟨b11,0,none⟩)),(12,.slice aa x42.2.1.length af),(14,.pointer (some ⟨b14,0,none⟩)),(15,vi (x29.1.Next.length:Int)),(16,.slice ar s6.1.length ay),(17,.pointer (some ⟨b17,0,none⟩)),(18,vi s1.2.1),(21,vi (Int.tmod (IntKind.i64.wrap (x94.At-(x29.1.Next.length:Int))) x100)),(22,.slice am s6.2.1.length aq)]/\Stp [27,33] K197 w196 κ' w'/\Oc E6 2 κ' w' 27 ar ay s6.1/\Oc E6 2 κ' w' 33 am aq s6.2.1/\q5=Sum.inr s6) ?_ ?_
 refine Jv (Jy1 (λk L w'=>∃κ',∃s4:(List Int)×(List Int)×Int,∃an ah ak al,L=[(2,.pointer (some ⟨b2,0,none⟩)),(4,.pointer (some ⟨b4,0,none⟩)),(6,.pointer (some ⟨b6,0,none⟩)),(11,.pointer (some ⟨b11,0,none⟩)),(12,.slice aa x42.2.1.length af),(14,.pointer (some ⟨b14,0,none⟩)),(15,vi (x29.1.Next.length:Int)),(16,.slice an s4.1.length ah),(17,.pointer (some ⟨b17,0,none⟩)),(18,vi s1.2.1),(19,vi x81.At),(20,vi x90),(21,vi (Int.tmod (IntKind.i64.wrap (x94.At-(x29.1.Next.length:Int))) x100)),(22,.slice ak s4.2.1.length al),(23,vi s4.2.2)]/\Stp [27,33] K197 w196 κ' w'/\Oc E6 2 κ' w' 27 an ah s4.1/\Oc E6 2 κ' w' 33 ak al s4.2.1/\whileM (dH p0 x29 x42 x81 x90 x94 x100) k s4=some q5) ⟨_,_,⟨K197,((s1.1:(List Int)),(([]:List Int):(List Int)),(0:Int)),ao,aj,ba,bd,R,Jj3,(f182.stp (S184.tr (S193.tr S198)) R R),f199,hq202⟩,(KM R)⟩ ?_)
 rintro k _ w208 ⟨K209,s4,an,ah,ak,al,rfl,S210,f211,f212,h⟩
 rcases k with _ | k
 cases h
 obtain⟨o200,h,hk214⟩:=BI h;unfold dH at h
 refine Jq (Jg3 [2,1,1,2] 1 R ?_)
 have f215:=f188.stp (S193.tr (S198.tr S210)) R R
 refine Jl tv R R R R (Jd2 (cs:=[vi p0.In,vi p0.Out]) I25 Z25 R R R (haE f215.cells)) (Ob h λx105 hx105 h=>Jh R R R C73 (ni (κ:=Mk K209) (p0:=p0) hx105) ?_)
 rintro _ w216 ⟨k217,rfl,e218⟩
 obtain⟨K219,S220,m221⟩:=Ji e218 34 R
 refine⟨tv,Jb 1 R ?_⟩
 revert h
 cases ht223:decide (s4.2.2<x105)
 refine JF λh=>Jy R (Jc1 (Jt (Jt ?_)))
 cases h
 have h:=hk214
 refine Jb1 ?_
 cases h
 exact Jw1 _ ⟨K219,((s4.1:(List Int)),(s4.2.1:(List Int)),(s4.2.2:Int)),an,ah,ak,al,R,(S210.tr S220).wk R,(f211.stp S220 R R),(f212.stp S220 R R),R⟩ (KM R)
 refine JT λh=>Jx R (Js (Jp (Jq (Jv (Jq (Js1 (κ:=K219) [0,2,8,18,21] none [(0,2),(1,2),(3,2),(6,2),(7,2),(9,2),(13,2),(14,2),(2,0),(4,2),(5,0),(8,0),(10,2),(11,0),(12,0),(15,1),(16,2),(17,0),(18,1),(19,2)] [] (by kernel_rfl) (by kernel_rfl) λw225 S224=>Jd3 R U108 R Z104 (Jd3 R U104 R Z26 (Jn 2 R (Jd3 R U100 R Z26 (Jn 3 R (Jg R (Jc2 I26 R R (hvC ((f116.stp (S126.tr (S133.tr (S136.tr (S148.tr (S152.tr (S155.tr (S169.tr (S179.tr (S184.tr (S193.tr (S198.tr (S210.tr (S220.tr S224))))))))))))) R R).ld 1 R R) R)) (Ob h λx113 hx113 h=>Jc3 R f118.rdc hx113 U26 Z29 ?_))))))))))))
 obtain⟨ax113,ux113,f228,hl229⟩:=(f118.stp (S126.tr (S133.tr (S136.tr (S148.tr (S152.tr (S155.tr (S169.tr (S179.tr (S184.tr (S193.tr (S198.tr (S210.tr (S220.tr S224))))))))))))) R R).rdc.gSl hx113
 refine Jg R (Jc2 I29 R R (hvC hl229 R)) (Jg R (Jc2 I26 R R (hvC ((f145.stp (S148.tr (S152.tr (S155.tr (S169.tr (S179.tr (S184.tr (S193.tr (S198.tr (S210.tr (S220.tr S224)))))))))) R R).ld 0 R R) R)) (Ob h λx119 hx119 h=>Jc3 R f40 hx119 U26 Z29 ?_))
 obtain⟨ax119,ux119,f232,hl233⟩:=(f40.stp (S48.tr (S56.tr (S59.tr (S63.tr (S68.tr (S73.tr (S86.tr (S95.tr (S98.tr (S104.tr (S109.tr (S126.tr (S133.tr (S136.tr (S148.tr (S152.tr (S155.tr (S169.tr (S179.tr (S184.tr (S193.tr (S198.tr (S210.tr (S220.tr S224)))))))))))))))))))))))) R R).gSl hx119
 refine Jg R (Jc2 I29 R R (hvC hl233 R)) (Jg R (Jd2 (cs:=[vi p0.In,vi p0.Out]) I25 Z25 R R R (haC (f215.stp (S220.tr S224) R R).cells R)) (Ob h λx124 hx124 h=>Jh R R R C55 (lI (κ:=Mk K219) (p0:=p0) hx124) ?_))
 rintro _ w235 ⟨k236,rfl,e237⟩
 obtain⟨K238,S239,m240⟩:=Ji e237 36 R
 refine⟨(S239.cl R),Ob h λx125 hx125 h=>Jc3 R f232 hx125 U29 Z2 (Jg R (Jc2 I2 R R (hvC (f232.gInt hx125) R)) (Ob h λx127 hx127 h=>Jh R R R C74 (ry (κ:=Mk K238) (Ji3 (f228.stp S239 R R)) (Ji3 (f186.stp (S193.tr (S198.tr (S210.tr (S220.tr (S224.tr S239))))) R R).rdc) hx127) ?_))⟩
 rintro _ w244 ⟨k245,rfl,e246⟩
 obtain⟨K247,S248,m249⟩:=Ji e246 38 R
 refine⟨((S239.tr S248).cl R),Jn 1 R (Jt1 (Jd (Jg3 [2,2,1,2] 2 R (Ob h λx130 hx130 h=>?_))))⟩
 have f251:=f211.stp (S220.tr (S224.tr (S239.tr S248))) R R
 refine Jh R R R C75 (pJ (κ:=Mk K247) (Ji3 f251.rdc) hx130) ?_
 rintro _ w252 ⟨k253,rfl,e254⟩
 obtain⟨K255,S256,m257⟩:=Ji e254 40 R
 refine⟨tv,Jb 1 R (Jq (Je3 R (Ob h λq7 h hK259=>Jx1 (λL w'=>∃κ' az av,L=[(2,.pointer (some ⟨b2,0,none⟩)),(4,.pointer (some ⟨b4,0,none⟩)),(6,.pointer (some ⟨b6,0,none⟩)),(11,.pointer (some ⟨b11,0,none⟩)),(12,.slice aa x42.2.1.length af),(14,.pointer (some ⟨b14,0,none⟩)),(15,vi (x29.1.Next.length:Int)),(16,.slice az q7.1.length av),(17,.pointer (some ⟨b17,0,none⟩)),(18,vi s1.2.1),(19,vi x81.At),(20,vi x90),(21,vi (Int.tmod (IntKind.i64.wrap (x94.At-(x29.1.Next.length:Int))) x100)),(22,.slice ak s4.2.1.length al),(23,vi s4.2.2),(25,vi q7.2)]/\Stp [27] K255 w252 κ' w'/\Oc E6 2 κ' w' 27 az av q7.1) ?_ ?_)))⟩
 revert h
 cases ht264:decide (x130<0)
 refine JF λh=>Jy R (Js ?_)
 cases h
 exact Jw1 _ ⟨K255,an,ah,R,Jj3,(f251.stp S256 R R)⟩ (KM R)
 refine JT λh=>Jx R (Jg3 [2,2,2] 1 R (Jf R (Je2 U29 R R) (Jb 1 R (Jh3 [2,2,1,1,2] 2 R (Jn1 (κ:=K255) (E:=E6) 42 [] (parts:=[(0,.tmp 136)]) (cells:=[vi x127]) (xs:=([x127]:List Int)) R R R R R R Y29 Tryzinfo2 R R R R R R R R R R ⟨[vi x127],[],Zl K255 w252 [],Zl K255 w252 [],R,Zl.sp (l1:=[]) (l2:=[]) R,Zl.sr (l1:=[]) (l2:=[]),R,R⟩ λbg bk w265 K266 S267 f268=>⟨tv,Ob h λx138 hx138 h=>Jm1 (κ:=K266) (E:=E6) 27 [] R R R R R R R R R Y29 Tryzinfo2 R R R R (f251.stp (S256.tr S267) R R) (Sl.srcP (bT _) f268.rdc) bJ hx138 R λaT bb w270 K271 S272 f273=>⟨tv,Jc 1 R ?_⟩⟩)))))
 cases h
 exact Jw1 _ ⟨K271,aT,bb,R,(S267.tr S272).wk R,f273⟩ (KM R)
 rintro _ w260 ⟨K261,az,av,rfl,S262,f263⟩
 have h:=hK259
 refine Jp (Jh3 [2,2,1,1,2] 2 R (Jn1 (κ:=K261) (E:=E6) 42 [] (parts:=[(0,.tmp 140)]) (cells:=[vi q7.2]) (xs:=([q7.2]:List Int)) R R R R R R Y29 Tryzinfo2 R R R R R R R R R R ⟨[vi q7.2],[],Zl K261 w260 [],Zl K261 w260 [],R,Zl.sp (l1:=[]) (l2:=[]) R,Zl.sr (l1:=[]) (l2:=[]),R,R⟩ λbj bl w275 K276 S277 f278=>⟨tv,Ob h λx142 hx142 h=>Jm1 (κ:=K276) (E:=E6) 33 [] R R R R R R R R R Y29 Tryzinfo2 R R R R (f212.stp (S220.tr (S224.tr (S239.tr (S248.tr (S256.tr (S262.tr S277)))))) R R) (Sl.srcP (bT _) f278.rdc) bJ hx142 R λaU bc w280 K281 S282 f283=>⟨tv,Jc 1 R (Jz (Jp (Jf3 R ?_)))⟩⟩))
 cases h
 exact Jz1 λa ha=>⟨k,_,Ja3 _,⟨K281,((q7.1:(List Int)),(x142:(List Int)),((IntKind.i64.wrap (s4.2.2+1)):Int)),az,av,aU,bc,R,(S210.tr (S220.tr (S224.tr (S239.tr (S248.tr (S256.tr (S262.tr (S277.tr S282)))))))).wk R,(f263.stp (S277.tr S282) R R),f283,hk214⟩,(ha.mm R)⟩
 rintro _ w203 ⟨K204,s6,ar,ay,am,aq,rfl,S205,f206,f207,rfl⟩
 have h:=hK201
 dsimp only[aft]at h
 refine Jp (Je [2,1,2,1,1,2,1] R (Jd3 R U31 R Z29 ?_))
 have f287:=f173.stp (S179.tr (S184.tr (S193.tr (S198.tr S205)))) R R
 have S002:=(S179.tr (S184.tr (S193.tr (S198.tr S205))))
 refine Jb3 R I29 (f287.ld 0 R R) (Jn 1 R (Jn1 (κ:=K204) (E:=E6) 34 [] (parts:=[(0,.tmp 145)]) (cells:=[vi (Int.tmod (IntKind.i64.wrap (x94.At-(x29.1.Next.length:Int))) x100)]) (xs:=([(Int.tmod (IntKind.i64.wrap (x94.At-(x29.1.Next.length:Int))) x100)]:List Int)) R R R R R R Y29 Tryzinfo2 R R R R R R R R R R ⟨[vi (Int.tmod (IntKind.i64.wrap (x94.At-(x29.1.Next.length:Int))) x100)],[],Zl K204 w203 [],Zl K204 w203 [],R,Zl.sp (l1:=[]) (l2:=[]) R,Zl.sr (l1:=[]) (l2:=[]),R,R⟩ λbo bi w288 K289 S290 f291=>⟨tv,Ob h λx147 hx147 h=>Jm1 (κ:=K289) (E:=E6) 29 [] R R R R R R R R R Y29 Tryzinfo2 R R R R (f171.stp (S002.tr S290) R R) (Sl.srcP (bT _) f291.rdc) bJ hx147 R λaw ax w293 K294 S295 f296=>⟨tv,Jd3 R U31 R Z29 (Ji1 (κ:=K294) 28 (off:=0) (vc:=[.slice aw x147.length ax]) (cs':=[.slice aw x147.length ax,.slice ap s1.2.2.2.length ai]) R R R R R R R Z29 R R (f287.stp (S290.tr S295) R R) R R λw298 S299 f300=>⟨tv,Jd (Ja [2,1,2,1,1,2,1] R (Jd3 R U31 R Z26 (Jb3 R I26 (f300.ld 1 R R) (Jn 1 R (Jn1 (κ:=K294) (E:=(Ep.own E6 2)) 35 [33] (parts:=[(0,.tmp 151)]) (cells:=[.slice am s6.2.1.length aq]) (xs:=([s6.2.1]:List (List Int))) R R R R R R Y26 Tryzinfo29 R R R R R R R R R R ⟨[.slice am s6.2.1.length aq],[],Zl K294 w298 [33],Zl K294 w298 [],R,Zl.sp (l1:=[33]) (l2:=[]) R,Zl.sr (l1:=[33]) (l2:=[]),⟨_,_,R,(f207.stp (S290.tr (S295.tr S299)) R R)⟩,R⟩ λbf bm w302 K303 S304 f305=>⟨tv,Ob h λx153 hx153 h=>Jm1 (κ:=K303) (E:=(Ep.own E6 2)) 30 [35] R R R R R R R R R Y26 Tryzinfo29 R R R R (f172.stp (S002.tr (S290.tr (S295.tr (S299.tr S304)))) R R) f305.src (cZ R) hx153 R λaB aC w307 K308 S309 f310=>⟨tv,Jd3 R U31 R Z26 (Ji1 (κ:=K308) 28 (off:=1) (vc:=[.slice aB x153.length aC]) (cs':=[.slice aw x147.length ax,.slice aB x153.length aC]) R R R R R R R Z26 R R (f300.stp (S304.tr S309) R R) R R λw312 S313 f314=>⟨tv,Jo (Jz (Jp (Jf3 R ?_)))⟩)⟩⟩)))))⟩)⟩⟩))
 cases h
 exact Jz1 λa ha=>⟨k,_,Ja3 _,⟨K308,((s6.1:(List Int)),((IntKind.i64.wrap (s1.2.1+1)):Int),(x147:(List Int)),(x153:(List (List Int)))),ar,ay,aw,ax,aB,aC,R,(S169.tr (S179.tr (S184.tr (S193.tr (S198.tr (S205.tr (S290.tr (S295.tr (S299.tr (S304.tr (S309.tr S313))))))))))).wk R,(f206.stp (S290.tr (S295.tr (S299.tr (S304.tr (S309.tr S313))))) R R),(f296.stp (S299.tr (S304.tr (S309.tr S313))) R R),(f310.stp S313 R R),f314,hk175⟩,(ha.mm R)⟩
 rintro _ w160 ⟨K161,s3,aE,aJ,ae,ab,ac,ad,rfl,S162,f163,f164,f165,f166,rfl⟩
 have h:=hK158
 dsimp only[aft]at h
 refine Jp (Je [1,1,2] R (Jl tv R R R R (Jd2 (cs:=[.slice ae s3.2.2.1.length ab,.slice ac s3.2.2.2.length ad]) I31 Z31 R R R (haE f166.cells)) (Jj1 (κ:=K161) 3 (vc:=[.slice ae s3.2.2.1.length ab,.slice ac s3.2.2.2.length ad]) R R R R R R R Z31 R R (f8.stp (S17.tr (S24.tr (S27.tr (S32.tr (S37.tr (S48.tr (S56.tr (S59.tr (S63.tr (S68.tr (S73.tr (S86.tr (S95.tr (S98.tr (S104.tr (S109.tr (S126.tr (S133.tr (S136.tr (S148.tr (S152.tr (S155.tr S162)))))))))))))))))))))) R R) R λw319 S320 f321=>⟨tv,Jb 1 R (Ju (Ja2 (l:=[.cell 4 31,.tmp 5]) V18 (bL R f321 I31 Z31 R (Jp2 R R)) R ?_))⟩)))
 cases h
 exact⟨(λb=>ren [(29,2),(30,3)] (K161 b)),ae,ab,ac,ad,R,((hE.stp (S3.tr (S7.tr (S17.tr (S24.tr (S27.tr (S32.tr (S37.tr (S48.tr (S56.tr (S59.tr (S63.tr (S68.tr (S73.tr (S86.tr (S95.tr (S98.tr (S104.tr (S109.tr (S126.tr (S133.tr (S136.tr (S148.tr (S152.tr (S155.tr (S162.tr S320))))))))))))))))))))))))) R R).map (ren [(29,2),(30,3)]) R R),((f164.stp S320 R R).map (ren [(29,2),(30,3)]) R R),((f165.stp S320 R R).map (ren [(29,2),(30,3)]) R R)⟩
 refine JT λh=>Jx R (Je [2,1,2] R (Jf R (bI (parts:=[]) (cells:=[.slice none 0 0,.slice none 0 0]) R R (by kernel_rfl)) (Jj1 (κ:=K132) 3 (vc:=[.slice none 0 0,.slice none 0 0]) R R R R R R R Z31 R R (f8.stp (S17.tr (S24.tr (S27.tr (S32.tr (S37.tr (S48.tr (S56.tr (S59.tr (S63.tr (S68.tr (S73.tr (S86.tr (S95.tr (S98.tr (S104.tr (S109.tr (S126.tr (S133.tr S136)))))))))))))))))) R R) R λw141 S142 f143=>⟨tv,Jb 1 R (Ju (Jw (Ja2 (l:=[.cell 4 31,.tmp 5]) V18 (bL R f143 I31 Z31 R (Jp2 R R)) R ?_)))⟩)))
 cases h
 exact⟨K132,none,0,none,0,R,(hE.stp (S3.tr (S7.tr (S17.tr (S24.tr (S27.tr (S32.tr (S37.tr (S48.tr (S56.tr (S59.tr (S63.tr (S68.tr (S73.tr (S86.tr (S95.tr (S98.tr (S104.tr (S109.tr (S126.tr (S133.tr (S136.tr S142))))))))))))))))))))) R R),Ow.nil,Ow.nil⟩
 refine JT λh=>Jx R (Je [2,1,2] R (Jf R (bI (parts:=[]) (cells:=[.slice none 0 0,.slice none 0 0]) R R (by kernel_rfl)) (Jj1 (κ:=K108) 3 (vc:=[.slice none 0 0,.slice none 0 0]) R R R R R R R Z31 R R (f8.stp (S17.tr (S24.tr (S27.tr (S32.tr (S37.tr (S48.tr (S56.tr (S59.tr (S63.tr (S68.tr (S73.tr (S86.tr (S95.tr (S98.tr (S104.tr S109))))))))))))))) R R) R λw112 S113 f114=>⟨tv,Jb 1 R (Ju (Jw (Ja2 (l:=[.cell 4 31,.tmp 5]) V18 (bL R f114 I31 Z31 R (Jp2 R R)) R ?_)))⟩)))
 cases h
 exact⟨K108,none,0,none,0,R,(hE.stp (S3.tr (S7.tr (S17.tr (S24.tr (S27.tr (S32.tr (S37.tr (S48.tr (S56.tr (S59.tr (S63.tr (S68.tr (S73.tr (S86.tr (S95.tr (S98.tr (S104.tr (S109.tr S113)))))))))))))))))) R R),Ow.nil,Ow.nil⟩
theorem kB {w:World}{κ:Col}{p0:Sig}{a1 u1}{p1:(List Clause)}(g1:Rd Clause.rp κ w 0 a1 u1 p1){r:Bool}(h:cV p0 p1=some r):Ret Tryz.prog 4 [.agg #[vi p0.In,vi p0.Out],.slice a1 p1.length u1] w (λv w'=>∃(κ':Col),v= .bool r/\Ent κ w κ' w'):=by
 unfold cV at h
 refine Ret.enter F4 R N4 R ?_
 dsimp only[envOf]
 have hE:=Ent.refl κ w
 refine Je [1,2] R (Jf1 (κ:=κ) 2 R R R R R R R λb2 w1 K2 S3 f4=>⟨tv,Jb 1 R (Je3 R (Jg3 [2,2,1,2] 2 R (Ob h λx18 hx18 h=>?_)))⟩)
 have f5:=g1.stp S3 R R
 refine Jh R R R C17 (ob (κ:=Mk K2) (Ji3 f5) hx18) ?_
 rintro _ w6 ⟨k7,rfl,e8⟩
 obtain⟨K9,S10,m11⟩:=Ji e8 3 R
 refine⟨tv,Jb 1 R (Jq (Je3 R ?_))⟩
 revert h
 cases ht13:decide (x18<0)
 refine JF λh=>Jy R (Js (Jp (Je [1,1,2,1,1,2,2,2,1,1,2] R ?_)))
 have f15:=f4.stp S10 R R
 refine Jl tv R R R R (Jd2 (cs:=[vi p0.In,vi p0.Out]) I43 Z43 R R R (haE f15.cells)) (Ob h λx23 hx23 h=>Jh R R R C19 (lQ (κ:=Mk K9) (p0:=p0) hx23) ?_)
 rintro _ w16 ⟨k17,rfl,e18⟩
 obtain⟨K19,S20,m21⟩:=Ji e18 5 R
 refine⟨tv,Jn 1 R (Ob h λx25 hx25 h=>?_)⟩
 have f23:=f5.stp (S10.tr S20) R R
 refine Jh R R R C20 (gr (κ:=Mk K19) (Ji3 f23) hx25) ?_
 rintro _ w24 ⟨k25,aw,au,rfl,e26,f27⟩
 obtain⟨K28,S29,m30⟩:=Ji e26 7 R
 refine⟨tv,Ob h λx26 hx26 h=>Jh R R R C18 (nQ (κ:=Mk K28) (p0:=x23) (Ji3 (f27.mx Clause.no119 m30 R (R:7+2=9)).rdc) hx26) ?_⟩
 rintro _ w33 ⟨k34,ai,ae,af,ah,rfl,e35,f36,f37⟩
 obtain⟨K38,S39,m40⟩:=Ji e35 10 R
 refine⟨tv,Jn 3 R (Jg1 (κ:=K38) 14 R R R R R X31 R λb6 w44 K45 S46 f47=>⟨tv,Jj1 (κ:=K45) 14 (vc:=[.slice ai x26.1.In.length ae,.slice af x26.1.Next.length ah]) R R R R R R R Z31 R R f47 R λw48 S49 f50=>⟨tv,Jb 1 R (Jg3 [2,1,2] 1 R (Ob h λx30 hx30 h=>?_))⟩⟩)⟩
 have f51:=f23.stp (S29.tr (S39.tr (S46.tr S49))) R R
 refine Jh R R R C20 (gr (κ:=Mk K45) (Ji3 f51) hx30) ?_
 rintro _ w52 ⟨k53,ao,an,rfl,e54,f55⟩
 obtain⟨K56,S57,m58⟩:=Ji e54 15 R
 refine⟨tv,Jb 1 R (Je [1,1,2,1,2,2,2,1,1,2] R ?_)⟩
 have f61:=f15.stp (S20.tr (S29.tr (S39.tr (S46.tr (S49.tr S57))))) R R
 refine Jl tv R R R R (Jd2 (cs:=[vi p0.In,vi p0.Out]) I43 Z43 R R R (haE f61.cells)) (Ob h λx33 hx33 h=>Jh R R R C19 (lQ (κ:=Mk K56) (p0:=p0) hx33) ?_)
 rintro _ w62 ⟨k63,rfl,e64⟩
 obtain⟨K65,S66,m67⟩:=Ji e64 18 R
 refine⟨tv,Jn 1 R (Ob h λx35 hx35 h=>?_)⟩
 have f69:=(f55.mx Clause.no119 m58 R (R:15+2=17)).stp S66 R R
 refine Jh R R R C21 (kW (κ:=Mk K65) (p0:=x33) (Ji3 f69.rdc) hx35) ?_
 rintro _ w70 ⟨k71,ab,aa,ac,ad,rfl,e72,f73,f74⟩
 obtain⟨K75,S76,m77⟩:=Ji e72 20 R
 refine⟨tv,Jn 3 R (Jg1 (κ:=K75) 24 R R R R R X31 R λb9 w81 K82 S83 f84=>⟨tv,Jj1 (κ:=K82) 24 (vc:=[.slice ab x35.1.In.length aa,.slice ac x35.1.Next.length ad]) R R R R R R R Z31 R R f84 R λw85 S86 f87=>⟨tv,Jb 1 R (Jq (Je [1,1,1,2,2,2,2,2,2] R (Jl tv R R R R (Jd2 (cs:=[.slice ab x35.1.In.length aa,.slice ac x35.1.Next.length ad]) I31 Z31 R R R (haE f87.cells)) ?_)))⟩⟩)⟩
 have f88:=f50.stp (S57.tr (S66.tr (S76.tr (S83.tr S86)))) R R
 refine Jl tv R R R R (Jd2 (cs:=[.slice ai x26.1.In.length ae,.slice af x26.1.Next.length ah]) I31 Z31 R R R (haE f88.cells)) (Ob h λx40 hx40 h=>?_)
 have f89:=(f73.mx (bH _) m77 R (R:20+2=22)).stp (S83.tr S86) R R
 have f90:=(f74.mx (ck (bH _) _) m77 R (R:20+3=23)).stp (S83.tr S86) R R
 have f91:=(f36.mx (bH _) m40 R (R:10+2=12)).stp (S46.tr (S49.tr (S57.tr (S66.tr (S76.tr (S83.tr S86)))))) R R
 have f92:=(f37.mx (ck (bH _) _) m40 R (R:10+3=13)).stp (S46.tr (S49.tr (S57.tr (S66.tr (S76.tr (S83.tr S86)))))) R R
 refine Jh R R R C22 (kg (κ:=Mk K82) (p0:=x35.1) (p1:=x26.1) (Ji3 f89.rdc) (Ji3 f90.rdc) (Ji3 f91.rdc) (Ji3 f92.rdc) hx40) ?_
 rintro _ w93 ⟨k94,rfl,e95⟩
 obtain⟨K96,S97,m98⟩:=Ji e95 25 R
 refine⟨tv,Jn 2 R (Ob h λp46 h hK100=>Ju1 [(5,2),(6,2),(7,2),(8,2)] [] (λL w'=>L=[(1,.slice a1 p1.length u1),(2,.pointer (some ⟨b2,0,none⟩)),(6,.pointer (some ⟨b6,0,none⟩)),(7,.bool x26.2),(8,.slice ao x30.length an),(9,.pointer (some ⟨b9,0,none⟩)),(10,.bool x35.2),(46,.bool p46)]/\∃κ',Stp [] K96 w93 κ' w') tv ?_ ?_)⟩
 revert h
 cases ht101:(!x40)
 refine JF λh=>Jn 2 R (Jf R (mc R R U4 R) (Jn 1 R ?_))
 cases h
 exact Jv1 _ tv ⟨R,_,Jj3⟩ (KM R)
 refine JT λh=>Jn 4 R ?_
 cases h
 exact Jv1 _ tv ⟨R,_,Jj3⟩ (KM R)
 rintro _ w102 _ ⟨rfl,K103,S104⟩
 have h:=hK100
 refine Jd ?_
 revert h
 cases ht105:p46
 refine JF λh=>Jy R (Js (Jp (Jq (Jg3 [2,2,1,1,2] 2 R (Ob h λx49 hx49 h=>?_)))))
 have f107:=f51.stp (S57.tr (S66.tr (S76.tr (S83.tr (S86.tr (S97.tr S104)))))) R R
 refine Jh R R R C20 (gr (κ:=Mk K103) (Ji3 f107) hx49) ?_
 rintro _ w108 ⟨k109,av,aq,rfl,e110,f111⟩
 obtain⟨K112,S113,m114⟩:=Ji e110 27 R
 refine⟨tv,Ob h λx50 hx50 h=>?_⟩
 have f117:=f69.stp (S76.tr (S83.tr (S86.tr (S97.tr (S104.tr S113))))) R R
 refine Jh R R R C23 (nK (κ:=Mk K112) (Ji3 f117.rdc) (Ji3 (f111.mx Clause.no119 m114 R (R:27+2=29)).rdc) hx50) ?_
 rintro _ w118 ⟨k119,rfl,e120⟩
 obtain⟨K121,S122,m123⟩:=Ji e120 30 R
 refine⟨tv,Jb 1 R ?_⟩
 revert h
 cases ht125:(!x50)
 refine JF λh=>Jy R (Js (Jp (Je3 R (Jg3 [2,2,1,2] 2 R (Ob h λx54 hx54 h=>Jh R R R C24 (mQ (κ:=λb=>mp [(17,2)] 0 (K121 b)) ((f117.stp S122 R R).map (mp [(17,2)] 0) R R) hx54) ?_)))))
 rintro _ w128 ⟨k129,rfl,e130,f131,hn132⟩
 obtain⟨K133,S134,m135⟩:=Ji e130 32 R
 refine⟨tv,Jb 1 R (Jq (Jg3 [2,2,2,1,1,1,2,2,2,2,2,2,2] 3 R (Ob h λp62 h hK138=>Ju1 [(3,1),(4,1),(5,1),(6,2),(7,2)] [(8,2),(9,2),(10,2),(11,2),(12,2)] (λL w'=>L=[(1,.slice a1 p1.length u1),(2,.pointer (some ⟨b2,0,none⟩)),(6,.pointer (some ⟨b6,0,none⟩)),(7,.bool x26.2),(9,.pointer (some ⟨b9,0,none⟩)),(10,.bool x35.2),(62,.bool p62)]/\∃κ',Stp [] K133 w128 κ' w') tv ?_ ?_)))⟩
 revert h
 cases ht139:decide (x54.1<0)
 have S001:=(S97.tr (S104.tr (S113.tr (S122.tr S134))))
 refine JF λh=>Jl tv R R R R (Jd2 (cs:=[.slice ab x35.1.In.length aa,.slice ac x35.1.Next.length ad]) I31 Z31 R R R (haE (f87.stp S001 R R).cells)) (Jl tv R R R R (Jd2 (cs:=[.slice ai x26.1.In.length ae,.slice af x26.1.Next.length ah]) I31 Z31 R R R (haE (f88.stp S001 R R).cells)) (Ob h λx60 hx60 h=>Jh R R R C22 (kg (κ:=Mk K133) (p0:=x35.1) (p1:=x26.1) (Ji3 (f89.stp S001 R R).rdc) (Ji3 (f90.stp S001 R R).rdc) (Ji3 (f91.stp S001 R R).rdc) (Ji3 (f92.stp S001 R R).rdc) hx60) ?_))
 rintro _ w146 ⟨k147,rfl,e148⟩
 obtain⟨K149,S150,m151⟩:=Ji e148 35 R
 refine⟨tv,Jn 2 R ?_⟩
 cases h
 exact Jv1 _ tv ⟨R,_,S150.wk R⟩ (KM R)
 refine JT λh=>Jd1 R R R R (Jd1 R R R R (Jd1 R R R R (Jn 2 R ?_)))
 cases h
 exact Jv1 _ tv ⟨R,_,Jj3⟩ (KM R)
 rintro _ w153 _ ⟨rfl,K154,S155⟩
 have h:=hK138
 refine Jn 1 R (Ob h λp67 h hK156=>Ju1 [(9,2),(10,2),(11,2),(12,2)] [] (λL w'=>L=[(1,.slice a1 p1.length u1),(2,.pointer (some ⟨b2,0,none⟩)),(6,.pointer (some ⟨b6,0,none⟩)),(7,.bool x26.2),(9,.pointer (some ⟨b9,0,none⟩)),(67,.bool p67)]/\∃κ',Stp [] K154 w153 κ' w') tv ?_ ?_)
 revert h
 cases ht157:p62
 refine JF λh=>Jn 2 R (Jf R (mc R R U4 R) (Jn 1 R ?_))
 cases h
 exact Jv1 _ tv ⟨R,_,Jj3⟩ (KM R)
 refine JT λh=>Jn 4 R ?_
 cases h
 exact Jv1 _ tv ⟨R,_,Jj3⟩ (KM R)
 rintro _ w158 _ ⟨rfl,K159,S160⟩
 have h:=hK156
 refine Jd ?_
 revert h
 cases ht161:p67
 refine JF λh=>Jy R (Js (Jp (Je3 R (Je [1,2,1,2] R ?_))))
 have f163:=f87.stp (S97.tr (S104.tr (S113.tr (S122.tr (S134.tr (S155.tr S160)))))) R R
 have S002:=(S97.tr (S104.tr (S113.tr (S122.tr (S134.tr (S155.tr S160))))))
 refine Jl tv R R R R (Jd2 (cs:=[.slice ab x35.1.In.length aa,.slice ac x35.1.Next.length ad]) I31 Z31 R R R (haE f163.cells)) (Jn 1 R (Ob h λx70 hx70 h=>Jh R R R C25 (oA (κ:=λb=>mp [(22,2),(23,3)] 0 (K159 b)) (p0:=x35.1) ((f89.stp S002 R R).map (mp [(22,2),(23,3)] 0) R R) ((f90.stp S002 R R).map (mp [(22,2),(23,3)] 0) R R) hx70) ?_))
 rintro _ w166 ⟨k167,rfl,e168,f169,hn170,f171,hn172⟩
 obtain⟨K173,S174,m175⟩:=Ji e168 35 R
 refine⟨tv,?_⟩
 have f177:=f169.mx (bH _) m175 R (R:35+2=37)
 have f178:=f171.mx (ck (bH _) _) m175 R (R:35+3=38)
 refine Jb 1 R (Je3 R (Je [1,2,1,2] R ?_))
 have f179:=f163.stp S174 R R
 refine Jl tv R R R R (Jd2 (cs:=[.slice ab x35.1.In.length aa,.slice ac x35.1.Next.length ad]) I31 Z31 R R R (haE f179.cells)) (Jn 1 R (Ob h λx73 hx73 h=>Jh R R R C26 (Ret.cast (by simp only[(hn170),(hn172),List.cons_append,List.nil_append]) (kK (κ:=Mk K173) (p0:=(⟨x70.2.1,x70.2.2⟩:Rival)) (Ji3 f177.rdc) (Ji3 f178.rdc) hx73)) ?_))
 rintro _ w180 ⟨k181,rfl,e182⟩
 obtain⟨K183,S184,m185⟩:=Ji e182 39 R
 refine⟨tv,Jb 1 R (Jq (Je3 R ?_))⟩
 revert h
 cases ht187:decide (x73<0)
 refine JF λh=>Jy R (Js (Jp (Jq (Je3 R ?_))))
 revert h
 cases ht189:(x73 !=x70.1)
 refine JF λh=>Jy R (Js (Jp (Je [1,1,2,1,1,2,2,2,1,1,2] R (Jl tv R R R R (Jd2 (cs:=[vi p0.In,vi p0.Out]) I43 Z43 R R R (haE (f61.stp (S66.tr (S76.tr (S83.tr (S86.tr (S97.tr (S104.tr (S113.tr (S122.tr (S134.tr (S155.tr (S160.tr (S174.tr S184)))))))))))) R R).cells)) (Ob h λx81 hx81 h=>Jh R R R C19 (lQ (κ:=Mk K183) (p0:=p0) hx81) ?_)))))
 rintro _ w192 ⟨k193,rfl,e194⟩
 obtain⟨K195,S196,m197⟩:=Ji e194 41 R
 refine⟨tv,Jn 1 R (Ob h λx83 hx83 h=>Jh R R R C20 (gr (κ:=Mk K195) (Ji3 (f107.stp (S113.tr (S122.tr (S134.tr (S155.tr (S160.tr (S174.tr (S184.tr S196))))))) R R)) hx83) ?_)⟩
 rintro _ w200 ⟨k201,ar,ap,rfl,e202,f203⟩
 obtain⟨K204,S205,m206⟩:=Ji e202 43 R
 refine⟨tv,Ob h λx84 hx84 h=>Jh R R R C21 (kW (κ:=Mk K204) (p0:=x81) (Ji3 (f203.mx Clause.no119 m206 R (R:43+2=45)).rdc) hx84) ?_⟩
 rintro _ w209 ⟨k210,aj,ak,am,al,rfl,e211,f212,f213⟩
 obtain⟨K214,S215,m216⟩:=Ji e211 46 R
 have S003:=(S97.tr (S104.tr (S113.tr (S122.tr (S134.tr (S155.tr (S160.tr (S174.tr (S184.tr (S196.tr (S205.tr S215)))))))))))
 refine⟨tv,Jn 3 R (Jg1 (κ:=K214) 50 R R R R R X31 R λb14 w220 K221 S222 f223=>⟨tv,Jj1 (κ:=K221) 50 (vc:=[.slice aj x84.1.In.length ak,.slice am x84.1.Next.length al]) R R R R R R R Z31 R R f223 R λw224 S225 f226=>⟨tv,Jb 1 R (Jq (Je [1,1,1,2,2,2,2,2,2] R (Jl tv R R R R (Jd2 (cs:=[.slice aj x84.1.In.length ak,.slice am x84.1.Next.length al]) I31 Z31 R R R (haE f226.cells)) (Jl tv R R R R (Jd2 (cs:=[.slice ai x26.1.In.length ae,.slice af x26.1.Next.length ah]) I31 Z31 R R R (haE (f88.stp (S003.tr (S222.tr S225)) R R).cells)) (Ob h λx89 hx89 h=>Jh R R R C22 (kg (κ:=Mk K221) (p0:=x84.1) (p1:=x26.1) (Ji3 ((f212.mx (bH _) m216 R (R:46+2=48)).stp (S222.tr S225) R R).rdc) (Ji3 ((f213.mx (ck (bH _) _) m216 R (R:46+3=49)).stp (S222.tr S225) R R).rdc) (Ji3 (f91.stp (S003.tr (S222.tr S225)) R R).rdc) (Ji3 (f92.stp (S003.tr (S222.tr S225)) R R).rdc) hx89) ?_)))))⟩⟩)⟩
 rintro _ w232 ⟨k233,rfl,e234⟩
 obtain⟨K235,S236,m237⟩:=Ji e234 51 R
 refine⟨tv,Jn 2 R (Ob h λp95 h hK239=>Ju1 [(5,2),(6,2),(7,2),(8,2)] [] (λL w'=>L=[(9,.pointer (some ⟨b9,0,none⟩)),(12,vi x70.1),(95,.bool p95)]/\∃κ',Stp [] K235 w232 κ' w') tv ?_ ?_)⟩
 revert h
 cases ht240:(!x89)
 refine JF λh=>Jn 2 R (Jf R (mc R R U4 R) (Jn 1 R ?_))
 cases h
 exact Jv1 _ tv ⟨R,_,Jj3⟩ (KM R)
 refine JT λh=>Jn 4 R ?_
 cases h
 exact Jv1 _ tv ⟨R,_,Jj3⟩ (KM R)
 rintro _ w241 _ ⟨rfl,K242,S243⟩
 have h:=hK239
 refine Jd ?_
 revert h
 cases ht244:p95
 have S004:=(S184.tr (S196.tr (S205.tr (S215.tr (S222.tr (S225.tr (S236.tr S243)))))))
 refine JF λh=>Jy R (Js (Jp (Je3 R (Je [1,2,1,2] R (Jl tv R R R R (Jd2 (cs:=[.slice ab x35.1.In.length aa,.slice ac x35.1.Next.length ad]) I31 Z31 R R R (haE (f179.stp S004 R R).cells)) (Jn 1 R (Ob h λx98 hx98 h=>Jh R R R C26 (Ret.cast (by simp only[(hn170),(hn172),List.cons_append,List.nil_append]) (kK (κ:=Mk K242) (p0:=(⟨x70.2.1,x70.2.2⟩:Rival)) (Ji3 (f177.stp S004 R R).rdc) (Ji3 (f178.stp S004 R R).rdc) hx98)) ?_)))))))
 rintro _ w249 ⟨k250,rfl,e251⟩
 obtain⟨K252,S253,m254⟩:=Ji e251 53 R
 refine⟨tv,Jb 1 R (Jq (Je3 R ?_))⟩
 revert h
 cases ht256:decide (x98<0)
 refine JF λh=>Jy R (Js (Jp (Jq (Je3 R ?_))))
 revert h
 cases ht258:(x98 !=x70.1)
 refine JF λh=>Jy R (Js (Jp (Je3 R (Ju (Ja2 (l:=[.tmp 4]) V4 (Jp2 R R) R ?_)))))
 cases h
 exact⟨K252,R,(hE.stp (S3.tr (S10.tr (S20.tr (S29.tr (S39.tr (S46.tr (S49.tr (S57.tr (S66.tr (S76.tr (S83.tr (S86.tr (S97.tr (S104.tr (S113.tr (S122.tr (S134.tr (S155.tr (S160.tr (S174.tr (S184.tr (S196.tr (S205.tr (S215.tr (S222.tr (S225.tr (S236.tr (S243.tr S253)))))))))))))))))))))))))))) R R)⟩
 refine JT λh=>Jx R (Je3 R (Ju (Jw (Ja2 (l:=[.tmp 4]) V4 (Jp2 R R) R ?_))))
 cases h
 exact⟨K252,R,(hE.stp (S3.tr (S10.tr (S20.tr (S29.tr (S39.tr (S46.tr (S49.tr (S57.tr (S66.tr (S76.tr (S83.tr (S86.tr (S97.tr (S104.tr (S113.tr (S122.tr (S134.tr (S155.tr (S160.tr (S174.tr (S184.tr (S196.tr (S205.tr (S215.tr (S222.tr (S225.tr (S236.tr (S243.tr S253)))))))))))))))))))))))))))) R R)⟩
 refine JT λh=>Jx R (Je3 R (Ju (Jw (Ja2 (l:=[.tmp 4]) V4 (Jp2 R R) R ?_))))
 cases h
 exact⟨K252,R,(hE.stp (S3.tr (S10.tr (S20.tr (S29.tr (S39.tr (S46.tr (S49.tr (S57.tr (S66.tr (S76.tr (S83.tr (S86.tr (S97.tr (S104.tr (S113.tr (S122.tr (S134.tr (S155.tr (S160.tr (S174.tr (S184.tr (S196.tr (S205.tr (S215.tr (S222.tr (S225.tr (S236.tr (S243.tr S253)))))))))))))))))))))))))))) R R)⟩
 refine JT λh=>Jx R (Je3 R (Ju (Jw (Ja2 (l:=[.tmp 4]) V4 (Jp2 R R) R ?_))))
 cases h
 exact⟨K242,R,(hE.stp (S3.tr (S10.tr (S20.tr (S29.tr (S39.tr (S46.tr (S49.tr (S57.tr (S66.tr (S76.tr (S83.tr (S86.tr (S97.tr (S104.tr (S113.tr (S122.tr (S134.tr (S155.tr (S160.tr (S174.tr (S184.tr (S196.tr (S205.tr (S215.tr (S222.tr (S225.tr (S236.tr S243))))))))))))))))))))))))))) R R)⟩
 refine JT λh=>Jx R (Je3 R (Ju (Jw (Ja2 (l:=[.tmp 4]) V4 (Jp2 R R) R ?_))))
 cases h
 exact⟨K183,R,(hE.stp (S3.tr (S10.tr (S20.tr (S29.tr (S39.tr (S46.tr (S49.tr (S57.tr (S66.tr (S76.tr (S83.tr (S86.tr (S97.tr (S104.tr (S113.tr (S122.tr (S134.tr (S155.tr (S160.tr (S174.tr S184)))))))))))))))))))) R R)⟩
 refine JT λh=>Jx R (Je3 R (Ju (Jw (Ja2 (l:=[.tmp 4]) V4 (Jp2 R R) R ?_))))
 cases h
 exact⟨K183,R,(hE.stp (S3.tr (S10.tr (S20.tr (S29.tr (S39.tr (S46.tr (S49.tr (S57.tr (S66.tr (S76.tr (S83.tr (S86.tr (S97.tr (S104.tr (S113.tr (S122.tr (S134.tr (S155.tr (S160.tr (S174.tr S184)))))))))))))))))))) R R)⟩
 refine JT λh=>Jx R (Je3 R (Ju (Jw (Ja2 (l:=[.tmp 4]) V4 (Jp2 R R) R ?_))))
 cases h
 exact⟨K159,R,(hE.stp (S3.tr (S10.tr (S20.tr (S29.tr (S39.tr (S46.tr (S49.tr (S57.tr (S66.tr (S76.tr (S83.tr (S86.tr (S97.tr (S104.tr (S113.tr (S122.tr (S134.tr (S155.tr S160)))))))))))))))))) R R)⟩
 refine JT λh=>Jx R (Je3 R (Ju (Jw (Ja2 (l:=[.tmp 4]) V4 (Jp2 R R) R ?_))))
 cases h
 exact⟨K121,R,(hE.stp (S3.tr (S10.tr (S20.tr (S29.tr (S39.tr (S46.tr (S49.tr (S57.tr (S66.tr (S76.tr (S83.tr (S86.tr (S97.tr (S104.tr (S113.tr S122))))))))))))))) R R)⟩
 refine JT λh=>Jx R (Je3 R (Ju (Jw (Ja2 (l:=[.tmp 4]) V4 (Jp2 R R) R ?_))))
 cases h
 exact⟨K103,R,(hE.stp (S3.tr (S10.tr (S20.tr (S29.tr (S39.tr (S46.tr (S49.tr (S57.tr (S66.tr (S76.tr (S83.tr (S86.tr (S97.tr S104))))))))))))) R R)⟩
 refine JT λh=>Jx R (Je3 R (Ju (Jw (Ja2 (l:=[.tmp 4]) V4 (Jp2 R R) R ?_))))
 cases h
 exact⟨K9,R,(hE.stp (S3.tr S10) R R)⟩
end Go.Proofs.YtpcjbkgbnoocaaaGreat
