/- The walks, part 18. By program. -/
import Derived.Test.YtpcjbkgbnoocaaaGreatFns17EI
set_option linter.unusedVariables false
set_option linter.unusedSimpArgs false
namespace Go.Proofs.YtpcjbkgbnoocaaaGreat
open Go Go.Wk Go.Proofs
set_option maxRecDepth 100000
set_option maxHeartbeats 1000000
theorem nf {w:World}{κ:Col}{p0:Sig}{a1 u1}{p1:(List Clause)}(g1:Rd Clause.rp κ w 0 a1 u1 p1){r:Bool}(h:fw p0 p1=some r):Ret Tryz.prog 36 [.agg #[vi p0.In,vi p0.Out],.slice a1 p1.length u1] w (λv w'=>∃(κ':Col),v= .bool r/\Ent κ w κ' w'):=by
 unfold fw at h
 refine Ret.enter F36 R N36 R ?_
 dsimp only[envOf]
 have hE:=Ent.refl κ w
 refine Je [1,2] R (Jf1 (κ:=κ) 2 R R R R R R R λb2 w1 K2 S3 f4=>⟨tv,Jb 1 R (Je [1,2,1,2,2,2,1,1,2] R (Jl tv R R R R (Jd2 (cs:=[vi p0.In,vi p0.Out]) I25 Z25 R R R (haE f4.cells)) (Jn 1 R (Ob h λx10 hx10 h=>Jh R R R C68 (lr (κ:=Mk K2) (p0:=p0) (Ji3 (g1.stp S3 R R)) hx10) ?_))))⟩)
 rintro _ w6 ⟨k7,ac,aa,ab,ad,rfl,e8,f9,f10⟩
 obtain⟨K11,S12,m13⟩:=Ji e8 3 R
 refine⟨tv,Jn 3 R (Jg1 (κ:=K11) 7 R R R R R X100 R λb5 w17 K18 S19 f20=>⟨tv,Jj1 (κ:=K18) 7 (vc:=[.slice ac x10.1.Next.length aa,.slice ab x10.1.Pairs.length ad]) R R R R R R R Z100 R R f20 R λw21 S22 f23=>⟨tv,Jb 1 R (Jg3 [2,2,1,1,1,2,2,2] 2 R (Ob h λp19 h hK24=>Ju1 [(2,1),(3,1),(4,1),(5,2),(6,2)] [(7,2)] (λL w'=>L=[(4,.bool false),(19,.bool p19)]/\∃κ',Stp [] K18 w21 κ' w') tv ?_ ?_))⟩⟩)⟩
 revert h
 cases ht25:x10.2
 refine JF λh=>Jd1 R R R R (Jd1 R R R R (Jd1 R R R R (Jn 2 R ?_)))
 cases h
 exact Jv1 _ tv ⟨R,_,Jj3⟩ (KM R)
 refine JT λh=>Jl tv R R R R (Jd2 (cs:=[vi p0.In,vi p0.Out]) I25 Z25 R R R (haE (f4.stp (S12.tr (S19.tr S22)) R R).cells)) (Jl tv R R R R (Jd2 (cs:=[.slice ac x10.1.Next.length aa,.slice ab x10.1.Pairs.length ad]) I100 Z100 R R R (haE f23.cells)) (Ob h λx17 hx17 h=>Jh R R R C96 (nN (κ:=Mk K18) (p0:=p0) (p1:=x10.1) (Ji3 ((f9.mx (co (bH _) _) m13 R (R:3+2=5)).stp (S19.tr S22) R R).rdc) (Ji3 ((f10.mx Pair.no154 m13 R (R:3+3=6)).stp (S19.tr S22) R R).rdc) hx17) ?_))
 rintro _ w29 ⟨k30,rfl,e31⟩
 obtain⟨K32,S33,m34⟩:=Ji e31 8 R
 refine⟨tv,Jn 2 R ?_⟩
 cases h
 exact Jv1 _ tv ⟨R,_,S33.wk R⟩ (KM R)
 rintro _ w36 _ ⟨rfl,K37,S38⟩
 have h:=hK24
 refine Jb 1 R (Ju (Ja2 (l:=[.tmp 4]) V36 (Jp2 R R) R ?_))
 cases h
 exact⟨K37,R,(hE.stp (S3.tr (S12.tr (S19.tr (S22.tr S38)))) R R)⟩
theorem ox {w:World}{κ:Col}{p0:Sig}{a1 u1}{p1:(List Clause)}(g1:Rd Clause.rp κ w 0 a1 u1 p1){r:Rival×Bool}(h:fP p0 p1=some r):Ret Tryz.prog 18 [.agg #[vi p0.In,vi p0.Out],.slice a1 p1.length u1] w (λv w'=>∃(κ':Col) (ra0:Option Addr) (ru0:Nat) (ra1:Option Addr) (ru1:Nat),v= .tuple #[.agg #[.slice ra0 r.1.In.length ru0,.slice ra1 r.1.Next.length ru1],.bool r.2]/\Ent κ w κ' w'/\Oc E6 2 κ' w' 2 ra0 ru0 r.1.In/\Oc (Ep.own E6 2) 29 κ' w' 3 ra1 ru1 r.1.Next):=by
 unfold fP at h
 refine Ret.enter F18 R N18 R ?_
 dsimp only[envOf]
 have hE:=Ent.refl κ w
 refine Je [1,1,2] R (Jf1 (κ:=κ) 2 R R R R R R R λb2 w1 K2 S3 f4=>⟨tv,Jg1 (κ:=K2) 3 R R R R R X31 R λb4 w5 K6 S7 f8=>⟨tv,Jb 1 R (Je [1,2,1,2,2,2,1,1,2] R ?_)⟩⟩)
 have f9:=f4.stp S7 R R
 refine Jl tv R R R R (Jd2 (cs:=[vi p0.In,vi p0.Out]) I25 Z25 R R R (haE f9.cells)) (Jn 1 R (Ob h λx29 hx29 h=>Jh R R R C68 (lr (κ:=Mk K6) (p0:=p0) (Ji3 (g1.stp (S3.tr S7) R R)) hx29) ?_))
 rintro _ w11 ⟨k12,aK,aM,aF,aD,rfl,e13,f14,f15⟩
 obtain⟨K16,S17,m18⟩:=Ji e13 4 R
 refine⟨tv,Jn 3 R (Jg1 (κ:=K16) 8 R R R R R X100 R λb6 w22 K23 S24 f25=>⟨tv,Jj1 (κ:=K23) 8 (vc:=[.slice aK x29.1.Next.length aM,.slice aF x29.1.Pairs.length aD]) R R R R R R R Z100 R R f25 R λw26 S27 f28=>⟨tv,Jb 1 R (Je [1,1,1,2,2,2,2,1,1,2,2] R ?_)⟩⟩)⟩
 have f29:=f9.stp (S17.tr (S24.tr S27)) R R
 refine Jl tv R R R R (Jd2 (cs:=[vi p0.In,vi p0.Out]) I25 Z25 R R R (haE f29.cells)) (Jl tv R R R R (Jd2 (cs:=[.slice aK x29.1.Next.length aM,.slice aF x29.1.Pairs.length aD]) I100 Z100 R R R (haE f28.cells)) ?_)
 obtain⟨K31,S32,z33⟩:=dg K23 w26 6
 obtain⟨K36,S37,z38⟩:=dg K31 w26 7
 refine Ob h λx35 hx35 h=>?_
 have f40:=(Sl.st z33 ((f14.mx (co (bH _) _) m18 R (R:4+2=6)).stp (S24.tr S27) R R).rdc).stp S37 R R
 refine Jh R R R C69 (kH (κ:=λb=>mp [] 1 (K36 b)) (p0:=p0) (p1:=x29.1) (Jl2 f40 (mp [] 1) R R) (Jl2 (Sl.st z38 ((f15.mx Pair.no154 m18 R (R:4+3=7)).stp (S24.tr (S27.tr S32)) R R).rdc) (mp [] 1) R R) hx35) ?_
 rintro _ w41 ⟨k42,aG,aN,aI,aJ,bi,bl,rfl,e43,f44,f45,f46⟩
 obtain⟨K47,S48,m49,z50⟩:=Jj e43 9 R
 refine⟨tv,Jn 4 R (Jg1 (κ:=K47) 14 R R R R R X104 R λb8 w54 K55 S56 f57=>⟨tv,Jj1 (κ:=K55) 14 (vc:=[.slice aG x35.1.Owner.length aN,.slice aI x35.1.Next.length aJ]) R R R R R R R Z104 R R f57 R λw58 S59 f60=>⟨tv,Jb 2 R (Je [1,2,1,2,2,2,2,1,1,2,2] R (Jl tv R R R R (Jd2 (cs:=[.slice aG x35.1.Owner.length aN,.slice aI x35.1.Next.length aJ]) I104 Z104 R R R (haE f60.cells)) (Jn 1 R ?_)))⟩⟩)⟩
 obtain⟨K62,S63,z64⟩:=dg K55 w58 11
 obtain⟨K67,S68,z69⟩:=dg K62 w58 12
 obtain⟨K72,S73,z74⟩:=dg K67 w58 13
 refine Ob h λx42 hx42 h=>Jh R R R C70 (lV (κ:=λb=>mp [] 1 (K72 b)) (p0:=x35.1) (Jl2 ((Sl.st z64 ((f44.mx (bH _) m49 R (R:9+2=11)).stp (S56.tr S59) R R).rdc).stp (S68.tr S73) R R) (mp [] 1) R R) (Jl2 ((Sl.st z69 ((f45.mxz z50 m49 R (R:9+3=12)).stp (S56.tr (S59.tr S63)) R R).rdc).stp S73 R R) (mp [] 1) R R) (Jl2 (Sl.st z74 ((f46.mx Pair.no154 m49 R (R:9+4=13)).stp (S56.tr (S59.tr (S63.tr S68))) R R).rdc) (mp [] 1) R R) hx42) ?_
 rintro _ w78 ⟨k79,aE,aO,aP,aS,aH,aR,ab,af,rfl,e80,f81,f82,f83,f84⟩
 obtain⟨K85,S86,m87,z88⟩:=Jj e80 15 R
 refine⟨tv,?_⟩
 have f92:=f84.mxz z88 m87 R (R:15+5=20)
 refine Jn 4 R (Jg1 (κ:=K85) 21 R R R R R X108 R λb11 w93 K94 S95 f96=>⟨tv,Jj1 (κ:=K94) 21 (vc:=[.slice aE x42.1.Arena.Owner.length aO,.slice aP x42.1.Arena.Next.length aS,.slice aH x42.1.Prio.length aR]) R R R R R R R Z108 R R f96 R λw97 S98 f99=>⟨tv,Jb 2 R (Jq (Jg3 [2,2,2,2,2,2,2,2,2,2] 3 R (Ob h λp51 h hK100=>Ju1 [(3,2),(4,2),(5,2)] [(6,2),(7,2),(8,2),(9,2)] (λL w'=>L=[(2,.pointer (some ⟨b2,0,none⟩)),(4,.pointer (some ⟨b4,0,none⟩)),(6,.pointer (some ⟨b6,0,none⟩)),(11,.pointer (some ⟨b11,0,none⟩)),(12,.slice ab x42.2.1.length af),(13,.bool x42.2.2),(51,.bool p51)]/\∃κ',Stp [] K94 w97 κ' w') tv ?_ ?_)))⟩⟩)
 revert h
 cases ht101:(!x29.2)
 refine JF λh=>Jn 3 R ?_
 cases h
 exact Jv1 _ tv ⟨R,_,Jj3⟩ (KM R)
 refine JT λh=>Jn 3 R ?_
 cases h
 exact Jv1 _ tv ⟨R,_,Jj3⟩ (KM R)
 rintro _ w102 _ ⟨rfl,K103,S104⟩
 have h:=hK100
 refine Jn 1 R (Ob h λp55 h hK105=>Ju1 [(7,2),(8,2),(9,2)] [] (λL w'=>L=[(2,.pointer (some ⟨b2,0,none⟩)),(4,.pointer (some ⟨b4,0,none⟩)),(6,.pointer (some ⟨b6,0,none⟩)),(11,.pointer (some ⟨b11,0,none⟩)),(12,.slice ab x42.2.1.length af),(55,.bool p55)]/\∃κ',Stp [] K103 w102 κ' w') tv ?_ ?_)
 revert h
 cases ht106:p51
 refine JF λh=>Jn 3 R ?_
 cases h
 exact Jv1 _ tv ⟨R,_,Jj3⟩ (KM R)
 refine JT λh=>Jn 3 R ?_
 cases h
 exact Jv1 _ tv ⟨R,_,Jj3⟩ (KM R)
 rintro _ w107 _ ⟨rfl,K108,S109⟩
 have h:=hK105
 refine Jd ?_
 revert h
 cases ht110:p55
 refine JF λh=>Jy R (Js (Jp (Je [1,1,1,1] R ?_)))
 have f116:=f99.stp (S104.tr S109) R R
 refine Jl tv R R R R (Jd2 (cs:=[.slice aE x42.1.Arena.Owner.length aO,.slice aP x42.1.Arena.Next.length aS,.slice aH x42.1.Prio.length aR]) I108 Z108 R R R (haE f116.cells)) (Ob h λx58 hx58 h=>?_)
 have f118:=(f82.mx (co (bH _) _) m87 R (R:15+3=18)).stp (S95.tr (S98.tr (S104.tr S109))) R R
 have S001:=(S95.tr (S98.tr (S104.tr S109)))
 refine Jh R R R C71 (qJ (κ:=Mk K108) (p0:=x42.1) (Ji3 ((f81.mx (bH _) m87 R (R:15+2=17)).stp S001 R R).rdc) (Ji3 f118.rdc) (Ji3 ((f83.mx (bH _) m87 R (R:15+4=19)).stp S001 R R).rdc) hx58) ?_
 rintro _ w120 ⟨k121,aX,aW,aZ,aU,rfl,e122,f123,f124⟩
 obtain⟨K125,S126,m127⟩:=Ji e122 22 R
 refine⟨tv,?_⟩
 have f129:=f123.mx (bH _) m127 R (R:22+2=24)
 have f130:=f124.mx (bH _) m127 R (R:22+3=25)
 refine Jg1 (κ:=K125) 26 R R R R R X113 R λb14 w131 K132 S133 f134=>⟨tv,Jj1 (κ:=K132) 26 (vc:=[.slice aX x58.Won.length aW,.slice aZ x58.Plan.length aU]) R R R R R R R Z113 R R f134 R λw135 S136 f137=>⟨tv,Jd (Jq (Je [2,1,2,1,2] R (Jd3 R U113 R Z29 (Jb3 R I29 (f137.ld 0 R R) (Ob h λx61 hx61 h=>Jc3 R f129.rdc hx61 U29 Z2 (Jb3 R I2 ((f129.stp (S133.tr S136) R R).rdc.gInt hx61) (Jb 1 R ?_)))))))⟩⟩
 revert h
 cases ht139:(x61==0)
 refine JF λh=>Jy R (Js (Jp (Je [2,1,2,2] R (Jd3 R U100 R Z26 ?_))))
 have f145:=f28.stp (S32.tr (S37.tr (S48.tr (S56.tr (S59.tr (S63.tr (S68.tr (S73.tr (S86.tr (S95.tr (S98.tr (S104.tr (S109.tr (S126.tr (S133.tr S136))))))))))))))) R R
 refine Jb3 R I26 (f145.ld 0 R R) (Jf R (Je2 U26 R R) (Jb 1 R (Je [1,2] R (Jn1 (κ:=K132) (E:=E6) 27 [] (parts:=[(0,.const (vi 0))]) (cells:=[vi 0]) (xs:=([0]:List Int)) R R R R R R Y29 Tryzinfo2 R R R R R R R R R R ⟨[vi 0],[],Zl K132 w135 [],Zl K132 w135 [],R,Zl.sp (l1:=[]) (l2:=[]) R,Zl.sr (l1:=[]) (l2:=[]),R,R⟩ λaT be w146 K147 S148 f149=>⟨tv,Jb 1 R (Je [2,1,1] R (Jf R (bI (parts:=[]) (cells:=[.slice none 0 0,.slice none 0 0]) R R (by kernel_rfl)) (Jg1 (κ:=K147) 28 R R R R R X31 R λb17 w150 K151 S152 f153=>⟨tv,Jj1 (κ:=K151) 28 (vc:=[.slice none 0 0,.slice none 0 0]) R R R R R R R Z31 R R f153 R λw154 S155 f156=>⟨tv,Jd (Jq (Je3 R (Ob h λq2 hq159 hK158=>?_)))⟩⟩)))⟩))))
 clear h
 refine Jx1 (λL w'=>∃κ',∃s3:(List Int)×Int×(List Int)×(List (List Int)),∃aQ aL ac aa ad ae,L=[(4,.pointer (some ⟨b4,0,none⟩)),(17,.pointer (some ⟨b17,0,none⟩))]/\Stp [27,28,29,30,33,35] K151 w154 κ' w'/\Oc E6 2 κ' w' 27 aQ aL s3.1/\Oc E6 2 κ' w' 29 ac aa s3.2.2.1/\Oc (Ep.own E6 2) 29 κ' w' 30 ad ae s3.2.2.2/\Bc κ' w' 28 b17 31 [.slice ac s3.2.2.1.length aa,.slice ad s3.2.2.2.length ae]/\q2=Sum.inr s3) ?_ ?_
 refine Jv (Jy1 (λk L w'=>∃κ',∃s1:(List Int)×Int×(List Int)×(List (List Int)),∃al ai ax ay ah am,L=[(2,.pointer (some ⟨b2,0,none⟩)),(4,.pointer (some ⟨b4,0,none⟩)),(6,.pointer (some ⟨b6,0,none⟩)),(11,.pointer (some ⟨b11,0,none⟩)),(12,.slice ab x42.2.1.length af),(14,.pointer (some ⟨b14,0,none⟩)),(15,vi (x29.1.Next.length:Int)),(16,.slice al s1.1.length ai),(17,.pointer (some ⟨b17,0,none⟩)),(18,vi s1.2.1)]/\Stp [27,28,29,30,33,35] K151 w154 κ' w'/\Oc E6 2 κ' w' 27 al ai s1.1/\Oc E6 2 κ' w' 29 ax ay s1.2.2.1/\Oc (Ep.own E6 2) 29 κ' w' 30 ah am s1.2.2.2/\Bc κ' w' 28 b17 31 [.slice ax s1.2.2.1.length ay,.slice ah s1.2.2.2.length am]/\whileM (c9 p0 x29 x42 x58) k s1=some q2) ⟨_,_,⟨K151,((([0]:List Int):(List Int)),(0:Int),(([]:List Int):(List Int)),(([]:List (List Int)):(List (List Int)))),aT,be,none,0,none,0,R,Jj3,(f149.stp (S152.tr S155) R R),Ow.nil,Ow.nil,f156,hq159⟩,(KM R)⟩ ?_)
 rintro k _ w167 ⟨K168,s1,al,ai,ax,ay,ah,am,rfl,S169,f170,f171,f172,f173,h⟩
 rcases k with _ | k
 cases h
 obtain⟨o157,h,hk175⟩:=BI h;unfold c9 at h
 refine Jq (Jg3 [2,2,2,2] 2 R (Jf R (Je2 U29 R R) (Jb 1 R ?_)))
 revert h
 cases ht176:decide (s1.2.1<(s1.1.length:Int))
 refine JF λh=>Jy R (Jc1 (Jt (Jt ?_)))
 cases h
 have h:=hk175
 refine Jb1 ?_
 cases h
 exact Jw1 _ ⟨K168,((s1.1:(List Int)),(s1.2.1:Int),(s1.2.2.1:(List Int)),(s1.2.2.2:(List (List Int)))),al,ai,ax,ay,ah,am,R,S169.wk R,f170,f171,f172,f173,R⟩ (KM R)
 refine JT λh=>Jx R (Js (Jp (Jq (Jv (Jg3 [2,2,2,2,1,2,2,1,2] 3 R (Ob h λx79 hx79 h=>Jc3 R f170.rdc hx79 U29 Z2 (Jb3 R I2 (f170.rdc.gInt hx79) (Ob h λx81 hx81 h=>Jc3 R f92.rdc hx81 U109 Z116 (Jd3 R U116 R Z2 ?_)))))))))
 have f177:=f92.stp (S95.tr (S98.tr (S104.tr (S109.tr (S126.tr (S133.tr (S136.tr (S148.tr (S152.tr (S155.tr S169)))))))))) R R
 obtain⟨cse178,hre178,hle178⟩:=Ow.gZS f177 hx81
 obtain⟨ae178_0,ue178_0,rfl,fe178_0⟩:=Place.un hre178
 refine Jb3 R I2 (λw' hw'=>hle178 w' hw' 0 _ R) (Jb 1 R (Jq (Js1 (κ:=K168) [0,25,26,27] none [(0,2),(2,2),(3,2),(4,2),(1,0),(5,0),(6,2),(7,0),(8,2)] [] (by kernel_rfl) (by kernel_rfl) λw180 S179=>Jd3 R U113 R Z29 (Jn 2 R (Ob h λx88 hx88 h=>Jc3 R f170.rdc hx88 U29 Z2 (Jg R (Jc2 I29 R R (hvC ((f137.stp (S148.tr (S152.tr (S155.tr (S169.tr S179)))) R R).ld 1 R R) R)) ?_))))))
 have f182:=f170.stp S179 R R
 refine Jg R (Jc2 I2 R R (hvC (f182.rdc.gInt hx88) R)) (Ob h λx90 hx90 h=>Jc3 R f130.rdc hx90 U29 Z2 (Jg R (Jc2 I2 R R (hvC ((f130.stp (S133.tr (S136.tr (S148.tr (S152.tr (S155.tr (S169.tr S179)))))) R R).rdc.gInt hx90) R)) (Jn 1 R (Jt1 (Jd (Jq (Js1 (κ:=K168) [0,2,20] none [(0,2),(1,2),(2,2),(3,2),(5,2),(4,0),(6,2),(7,0),(8,1),(9,2),(10,2)] [] (by kernel_rfl) (by kernel_rfl) λw185 S184=>Jn 2 R (Ob h λx94 hx94 h=>Jc3 R f177.rdc hx94 U109 Z116 (Jd3 R U116 R Z2 (Jn 1 R ?_))))))))))
 have f186:=f177.stp (S179.tr S184) R R
 obtain⟨cse187,hre187,hle187⟩:=Ow.gZS f186 hx94
 obtain⟨ae187_0,ue187_0,rfl,fe187_0⟩:=Place.un hre187
 refine Jg R (Jc2 I2 R R (hvC (λw' hw'=>hle187 w' hw' 0 _ R) R)) (Jn 1 R ?_)
 have f188:=f29.stp (S32.tr (S37.tr (S48.tr (S56.tr (S59.tr (S63.tr (S68.tr (S73.tr (S86.tr (S95.tr (S98.tr (S104.tr (S109.tr (S126.tr (S133.tr (S136.tr (S148.tr (S152.tr (S155.tr (S169.tr (S179.tr S184))))))))))))))))))))) R R
 refine Jg R (Jd2 (cs:=[vi p0.In,vi p0.Out]) I25 Z25 R R R (haC f188.cells R)) (Ob h λx100 hx100 h=>Jh R R R C72 (kX (κ:=Mk K168) (p0:=p0) hx100) ?_)
 rintro _ w189 ⟨k190,rfl,e191⟩
 obtain⟨K192,S193,m194⟩:=Ji e191 31 R
 refine⟨(S193.cl R),Ob h λ_z101 hz101 h=>Jf R (qc R R R (uM hz101)) (Jn 1 R (Jt1 (Jd (Je [1,2] R (Jo1 (κ:=K192) (E:=E6) 33 R R R R R Y29 Tryzinfo2 R λbd bc w196 K197 S198 f199=>⟨tv,Jb 1 R (Jq (Je3 R (Ob h λq5 hq202 hK201=>?_)))⟩)))))⟩
 clear h
 refine Jx1 (λL w'=>∃κ',∃s6:(List Int)×(List Int)×Int,∃aA aw ak aq,L=[(2,.pointer (some ⟨b2,0,none⟩)),(4,.pointer (some ⟨b4,0,none⟩)),(6,.pointer (some ⟨b6,0,none⟩)),(11,.pointer (some ⟨b11,0,none⟩)),(12,.slice ab x42.2.1.length af),(14,.pointer (some ⟨b14,0,none⟩)),(15,vi (x29.1.Next.length:Int)),(16,.slice aA s6.1.length aw),(17,.pointer (some ⟨b17,0,none⟩)),(18,vi s1.2.1),(21,vi (Int.tmod (IntKind.i64.wrap (x94.At-(x29.1.Next.length:Int))) x100)),(22,.slice ak s6.2.1.length aq)]/\Stp [27,33] K197 w196 κ' w'/\Oc E6 2 κ' w' 27 aA aw s6.1/\Oc E6 2 κ' w' 33 ak aq s6.2.1/\q5=Sum.inr s6) ?_ ?_
 refine Jv (Jy1 (λk L w'=>∃κ',∃s4:(List Int)×(List Int)×Int,∃ap ao aj an,L=[(2,.pointer (some ⟨b2,0,none⟩)),(4,.pointer (some ⟨b4,0,none⟩)),(6,.pointer (some ⟨b6,0,none⟩)),(11,.pointer (some ⟨b11,0,none⟩)),(12,.slice ab x42.2.1.length af),(14,.pointer (some ⟨b14,0,none⟩)),(15,vi (x29.1.Next.length:Int)),(16,.slice ap s4.1.length ao),(17,.pointer (some ⟨b17,0,none⟩)),(18,vi s1.2.1),(19,vi x81.At),(20,vi x90),(21,vi (Int.tmod (IntKind.i64.wrap (x94.At-(x29.1.Next.length:Int))) x100)),(22,.slice aj s4.2.1.length an),(23,vi s4.2.2)]/\Stp [27,33] K197 w196 κ' w'/\Oc E6 2 κ' w' 27 ap ao s4.1/\Oc E6 2 κ' w' 33 aj an s4.2.1/\whileM (dA p0 x29 x42 x81 x90 x94 x100) k s4=some q5) ⟨_,_,⟨K197,((s1.1:(List Int)),(([]:List Int):(List Int)),(0:Int)),al,ai,bd,bc,R,Jj3,(f182.stp (S184.tr (S193.tr S198)) R R),f199,hq202⟩,(KM R)⟩ ?_)
 rintro k _ w208 ⟨K209,s4,ap,ao,aj,an,rfl,S210,f211,f212,h⟩
 rcases k with _ | k
 cases h
 obtain⟨o200,h,hk214⟩:=BI h;unfold dA at h
 refine Jq (Jg3 [2,1,1,2] 1 R ?_)
 have f215:=f188.stp (S193.tr (S198.tr S210)) R R
 refine Jl tv R R R R (Jd2 (cs:=[vi p0.In,vi p0.Out]) I25 Z25 R R R (haE f215.cells)) (Ob h λx105 hx105 h=>Jh R R R C73 (nD (κ:=Mk K209) (p0:=p0) hx105) ?_)
 rintro _ w216 ⟨k217,rfl,e218⟩
 obtain⟨K219,S220,m221⟩:=Ji e218 34 R
 refine⟨tv,Jb 1 R ?_⟩
 revert h
 cases ht223:decide (s4.2.2<x105)
 refine JF λh=>Jy R (Jc1 (Jt (Jt ?_)))
 cases h
 have h:=hk214
 refine Jb1 ?_
 cases h
 exact Jw1 _ ⟨K219,((s4.1:(List Int)),(s4.2.1:(List Int)),(s4.2.2:Int)),ap,ao,aj,an,R,(S210.tr S220).wk R,(f211.stp S220 R R),(f212.stp S220 R R),R⟩ (KM R)
 refine JT λh=>Jx R (Js (Jp (Jq (Jv (Jq (Js1 (κ:=K219) [0,2,8,18,21] none [(0,2),(1,2),(3,2),(6,2),(7,2),(9,2),(13,2),(14,2),(2,0),(4,2),(5,0),(8,0),(10,2),(11,0),(12,0),(15,1),(16,2),(17,0),(18,1),(19,2)] [] (by kernel_rfl) (by kernel_rfl) λw225 S224=>Jd3 R U108 R Z104 (Jd3 R U104 R Z26 (Jn 2 R (Jd3 R U100 R Z26 (Jn 3 R (Jg R (Jc2 I26 R R (hvC ((f116.stp (S126.tr (S133.tr (S136.tr (S148.tr (S152.tr (S155.tr (S169.tr (S179.tr (S184.tr (S193.tr (S198.tr (S210.tr (S220.tr S224))))))))))))) R R).ld 1 R R) R)) (Ob h λx113 hx113 h=>Jc3 R f118.rdc hx113 U26 Z29 ?_))))))))))))
 obtain⟨ax113,ux113,f228,hl229⟩:=(f118.stp (S126.tr (S133.tr (S136.tr (S148.tr (S152.tr (S155.tr (S169.tr (S179.tr (S184.tr (S193.tr (S198.tr (S210.tr (S220.tr S224))))))))))))) R R).rdc.gSl hx113
 refine Jg R (Jc2 I29 R R (hvC hl229 R)) (Jg R (Jc2 I26 R R (hvC ((f145.stp (S148.tr (S152.tr (S155.tr (S169.tr (S179.tr (S184.tr (S193.tr (S198.tr (S210.tr (S220.tr S224)))))))))) R R).ld 0 R R) R)) (Ob h λx119 hx119 h=>Jc3 R f40 hx119 U26 Z29 ?_))
 obtain⟨ax119,ux119,f232,hl233⟩:=(f40.stp (S48.tr (S56.tr (S59.tr (S63.tr (S68.tr (S73.tr (S86.tr (S95.tr (S98.tr (S104.tr (S109.tr (S126.tr (S133.tr (S136.tr (S148.tr (S152.tr (S155.tr (S169.tr (S179.tr (S184.tr (S193.tr (S198.tr (S210.tr (S220.tr S224)))))))))))))))))))))))) R R).gSl hx119
 refine Jg R (Jc2 I29 R R (hvC hl233 R)) (Jg R (Jd2 (cs:=[vi p0.In,vi p0.Out]) I25 Z25 R R R (haC (f215.stp (S220.tr S224) R R).cells R)) (Ob h λx124 hx124 h=>Jh R R R C55 (lT (κ:=Mk K219) (p0:=p0) hx124) ?_))
 rintro _ w235 ⟨k236,rfl,e237⟩
 obtain⟨K238,S239,m240⟩:=Ji e237 36 R
 refine⟨(S239.cl R),Ob h λx125 hx125 h=>Jc3 R f232 hx125 U29 Z2 (Jg R (Jc2 I2 R R (hvC (f232.gInt hx125) R)) (Ob h λx127 hx127 h=>Jh R R R C74 (si (κ:=Mk K238) (Ji3 (f228.stp S239 R R)) (Ji3 (f186.stp (S193.tr (S198.tr (S210.tr (S220.tr (S224.tr S239))))) R R).rdc) hx127) ?_))⟩
 rintro _ w244 ⟨k245,rfl,e246⟩
 obtain⟨K247,S248,m249⟩:=Ji e246 38 R
 refine⟨((S239.tr S248).cl R),Jn 1 R (Jt1 (Jd (Jg3 [2,2,1,2] 2 R (Ob h λx130 hx130 h=>?_))))⟩
 have f251:=f211.stp (S220.tr (S224.tr (S239.tr S248))) R R
 refine Jh R R R C75 (pL (κ:=Mk K247) (Ji3 f251.rdc) hx130) ?_
 rintro _ w252 ⟨k253,rfl,e254⟩
 obtain⟨K255,S256,m257⟩:=Ji e254 40 R
 refine⟨tv,Jb 1 R (Jq (Je3 R (Ob h λq7 h hK259=>Jx1 (λL w'=>∃κ' au ar,L=[(2,.pointer (some ⟨b2,0,none⟩)),(4,.pointer (some ⟨b4,0,none⟩)),(6,.pointer (some ⟨b6,0,none⟩)),(11,.pointer (some ⟨b11,0,none⟩)),(12,.slice ab x42.2.1.length af),(14,.pointer (some ⟨b14,0,none⟩)),(15,vi (x29.1.Next.length:Int)),(16,.slice au q7.1.length ar),(17,.pointer (some ⟨b17,0,none⟩)),(18,vi s1.2.1),(19,vi x81.At),(20,vi x90),(21,vi (Int.tmod (IntKind.i64.wrap (x94.At-(x29.1.Next.length:Int))) x100)),(22,.slice aj s4.2.1.length an),(23,vi s4.2.2),(25,vi q7.2)]/\Stp [27] K255 w252 κ' w'/\Oc E6 2 κ' w' 27 au ar q7.1) ?_ ?_)))⟩
 revert h
 cases ht264:decide (x130<0)
 refine JF λh=>Jy R (Js ?_)
 cases h
 exact Jw1 _ ⟨K255,ap,ao,R,Jj3,(f251.stp S256 R R)⟩ (KM R)
 refine JT λh=>Jx R (Jg3 [2,2,2] 1 R (Jf R (Je2 U29 R R) (Jb 1 R (Jh3 [2,2,1,1,2] 2 R (Jn1 (κ:=K255) (E:=E6) 42 [] (parts:=[(0,.tmp 136)]) (cells:=[vi x127]) (xs:=([x127]:List Int)) R R R R R R Y29 Tryzinfo2 R R R R R R R R R R ⟨[vi x127],[],Zl K255 w252 [],Zl K255 w252 [],R,Zl.sp (l1:=[]) (l2:=[]) R,Zl.sr (l1:=[]) (l2:=[]),R,R⟩ λbn bm w265 K266 S267 f268=>⟨tv,Ob h λx138 hx138 h=>Jm1 (κ:=K266) (E:=E6) 27 [] R R R R R R R R R Y29 Tryzinfo2 R R R R (f251.stp (S256.tr S267) R R) (Sl.srcP (bR _) f268.rdc) bJ hx138 R λbb aV w270 K271 S272 f273=>⟨tv,Jc 1 R ?_⟩⟩)))))
 cases h
 exact Jw1 _ ⟨K271,bb,aV,R,(S267.tr S272).wk R,f273⟩ (KM R)
 rintro _ w260 ⟨K261,au,ar,rfl,S262,f263⟩
 have h:=hK259
 refine Jp (Jh3 [2,2,1,1,2] 2 R (Jn1 (κ:=K261) (E:=E6) 42 [] (parts:=[(0,.tmp 140)]) (cells:=[vi q7.2]) (xs:=([q7.2]:List Int)) R R R R R R Y29 Tryzinfo2 R R R R R R R R R R ⟨[vi q7.2],[],Zl K261 w260 [],Zl K261 w260 [],R,Zl.sp (l1:=[]) (l2:=[]) R,Zl.sr (l1:=[]) (l2:=[]),R,R⟩ λbg bh w275 K276 S277 f278=>⟨tv,Ob h λx142 hx142 h=>Jm1 (κ:=K276) (E:=E6) 33 [] R R R R R R R R R Y29 Tryzinfo2 R R R R (f212.stp (S220.tr (S224.tr (S239.tr (S248.tr (S256.tr (S262.tr S277)))))) R R) (Sl.srcP (bR _) f278.rdc) bJ hx142 R λaY ba w280 K281 S282 f283=>⟨tv,Jc 1 R (Jz (Jp (Jf3 R ?_)))⟩⟩))
 cases h
 exact Jz1 λa ha=>⟨k,_,Ja3 _,⟨K281,((q7.1:(List Int)),(x142:(List Int)),((IntKind.i64.wrap (s4.2.2+1)):Int)),au,ar,aY,ba,R,(S210.tr (S220.tr (S224.tr (S239.tr (S248.tr (S256.tr (S262.tr (S277.tr S282)))))))).wk R,(f263.stp (S277.tr S282) R R),f283,hk214⟩,(ha.mm R)⟩
 rintro _ w203 ⟨K204,s6,aA,aw,ak,aq,rfl,S205,f206,f207,rfl⟩
 have h:=hK201
 dsimp only[aft]at h
 refine Jp (Je [2,1,2,1,1,2,1] R (Jd3 R U31 R Z29 ?_))
 have f287:=f173.stp (S179.tr (S184.tr (S193.tr (S198.tr S205)))) R R
 have S002:=(S179.tr (S184.tr (S193.tr (S198.tr S205))))
 refine Jb3 R I29 (f287.ld 0 R R) (Jn 1 R (Jn1 (κ:=K204) (E:=E6) 34 [] (parts:=[(0,.tmp 145)]) (cells:=[vi (Int.tmod (IntKind.i64.wrap (x94.At-(x29.1.Next.length:Int))) x100)]) (xs:=([(Int.tmod (IntKind.i64.wrap (x94.At-(x29.1.Next.length:Int))) x100)]:List Int)) R R R R R R Y29 Tryzinfo2 R R R R R R R R R R ⟨[vi (Int.tmod (IntKind.i64.wrap (x94.At-(x29.1.Next.length:Int))) x100)],[],Zl K204 w203 [],Zl K204 w203 [],R,Zl.sp (l1:=[]) (l2:=[]) R,Zl.sr (l1:=[]) (l2:=[]),R,R⟩ λbj bk w288 K289 S290 f291=>⟨tv,Ob h λx147 hx147 h=>Jm1 (κ:=K289) (E:=E6) 29 [] R R R R R R R R R Y29 Tryzinfo2 R R R R (f171.stp (S002.tr S290) R R) (Sl.srcP (bR _) f291.rdc) bJ hx147 R λaz av w293 K294 S295 f296=>⟨tv,Jd3 R U31 R Z29 (Ji1 (κ:=K294) 28 (off:=0) (vc:=[.slice az x147.length av]) (cs':=[.slice az x147.length av,.slice ah s1.2.2.2.length am]) R R R R R R R Z29 R R (f287.stp (S290.tr S295) R R) R R λw298 S299 f300=>⟨tv,Jd (Ja [2,1,2,1,1,2,1] R (Jd3 R U31 R Z26 (Jb3 R I26 (f300.ld 1 R R) (Jn 1 R (Jn1 (κ:=K294) (E:=(Ep.own E6 2)) 35 [33] (parts:=[(0,.tmp 151)]) (cells:=[.slice ak s6.2.1.length aq]) (xs:=([s6.2.1]:List (List Int))) R R R R R R Y26 Tryzinfo29 R R R R R R R R R R ⟨[.slice ak s6.2.1.length aq],[],Zl K294 w298 [33],Zl K294 w298 [],R,Zl.sp (l1:=[33]) (l2:=[]) R,Zl.sr (l1:=[33]) (l2:=[]),⟨_,_,R,(f207.stp (S290.tr (S295.tr S299)) R R)⟩,R⟩ λbo bf w302 K303 S304 f305=>⟨tv,Ob h λx153 hx153 h=>Jm1 (κ:=K303) (E:=(Ep.own E6 2)) 30 [35] R R R R R R R R R Y26 Tryzinfo29 R R R R (f172.stp (S002.tr (S290.tr (S295.tr (S299.tr S304)))) R R) f305.src (dc R) hx153 R λaB aC w307 K308 S309 f310=>⟨tv,Jd3 R U31 R Z26 (Ji1 (κ:=K308) 28 (off:=1) (vc:=[.slice aB x153.length aC]) (cs':=[.slice az x147.length av,.slice aB x153.length aC]) R R R R R R R Z26 R R (f300.stp (S304.tr S309) R R) R R λw312 S313 f314=>⟨tv,Jo (Jz (Jp (Jf3 R ?_)))⟩)⟩⟩)))))⟩)⟩⟩))
 cases h
 exact Jz1 λa ha=>⟨k,_,Ja3 _,⟨K308,((s6.1:(List Int)),((IntKind.i64.wrap (s1.2.1+1)):Int),(x147:(List Int)),(x153:(List (List Int)))),aA,aw,az,av,aB,aC,R,(S169.tr (S179.tr (S184.tr (S193.tr (S198.tr (S205.tr (S290.tr (S295.tr (S299.tr (S304.tr (S309.tr S313))))))))))).wk R,(f206.stp (S290.tr (S295.tr (S299.tr (S304.tr (S309.tr S313))))) R R),(f296.stp (S299.tr (S304.tr (S309.tr S313))) R R),(f310.stp S313 R R),f314,hk175⟩,(ha.mm R)⟩
 rintro _ w160 ⟨K161,s3,aQ,aL,ac,aa,ad,ae,rfl,S162,f163,f164,f165,f166,rfl⟩
 have h:=hK158
 dsimp only[aft]at h
 refine Jp (Je [1,1,2] R (Jl tv R R R R (Jd2 (cs:=[.slice ac s3.2.2.1.length aa,.slice ad s3.2.2.2.length ae]) I31 Z31 R R R (haE f166.cells)) (Jj1 (κ:=K161) 3 (vc:=[.slice ac s3.2.2.1.length aa,.slice ad s3.2.2.2.length ae]) R R R R R R R Z31 R R (f8.stp (S17.tr (S24.tr (S27.tr (S32.tr (S37.tr (S48.tr (S56.tr (S59.tr (S63.tr (S68.tr (S73.tr (S86.tr (S95.tr (S98.tr (S104.tr (S109.tr (S126.tr (S133.tr (S136.tr (S148.tr (S152.tr (S155.tr S162)))))))))))))))))))))) R R) R λw319 S320 f321=>⟨tv,Jb 1 R (Ju (Ja2 (l:=[.cell 4 31,.tmp 5]) V18 (bL R f321 I31 Z31 R (Jp2 R R)) R ?_))⟩)))
 cases h
 exact⟨(λb=>ren [(29,2),(30,3)] (K161 b)),ac,aa,ad,ae,R,((hE.stp (S3.tr (S7.tr (S17.tr (S24.tr (S27.tr (S32.tr (S37.tr (S48.tr (S56.tr (S59.tr (S63.tr (S68.tr (S73.tr (S86.tr (S95.tr (S98.tr (S104.tr (S109.tr (S126.tr (S133.tr (S136.tr (S148.tr (S152.tr (S155.tr (S162.tr S320))))))))))))))))))))))))) R R).map (ren [(29,2),(30,3)]) R R),((f164.stp S320 R R).map (ren [(29,2),(30,3)]) R R),((f165.stp S320 R R).map (ren [(29,2),(30,3)]) R R)⟩
 refine JT λh=>Jx R (Je [2,1,2] R (Jf R (bI (parts:=[]) (cells:=[.slice none 0 0,.slice none 0 0]) R R (by kernel_rfl)) (Jj1 (κ:=K132) 3 (vc:=[.slice none 0 0,.slice none 0 0]) R R R R R R R Z31 R R (f8.stp (S17.tr (S24.tr (S27.tr (S32.tr (S37.tr (S48.tr (S56.tr (S59.tr (S63.tr (S68.tr (S73.tr (S86.tr (S95.tr (S98.tr (S104.tr (S109.tr (S126.tr (S133.tr S136)))))))))))))))))) R R) R λw141 S142 f143=>⟨tv,Jb 1 R (Ju (Jw (Ja2 (l:=[.cell 4 31,.tmp 5]) V18 (bL R f143 I31 Z31 R (Jp2 R R)) R ?_)))⟩)))
 cases h
 exact⟨K132,none,0,none,0,R,(hE.stp (S3.tr (S7.tr (S17.tr (S24.tr (S27.tr (S32.tr (S37.tr (S48.tr (S56.tr (S59.tr (S63.tr (S68.tr (S73.tr (S86.tr (S95.tr (S98.tr (S104.tr (S109.tr (S126.tr (S133.tr (S136.tr S142))))))))))))))))))))) R R),Ow.nil,Ow.nil⟩
 refine JT λh=>Jx R (Je [2,1,2] R (Jf R (bI (parts:=[]) (cells:=[.slice none 0 0,.slice none 0 0]) R R (by kernel_rfl)) (Jj1 (κ:=K108) 3 (vc:=[.slice none 0 0,.slice none 0 0]) R R R R R R R Z31 R R (f8.stp (S17.tr (S24.tr (S27.tr (S32.tr (S37.tr (S48.tr (S56.tr (S59.tr (S63.tr (S68.tr (S73.tr (S86.tr (S95.tr (S98.tr (S104.tr S109))))))))))))))) R R) R λw112 S113 f114=>⟨tv,Jb 1 R (Ju (Jw (Ja2 (l:=[.cell 4 31,.tmp 5]) V18 (bL R f114 I31 Z31 R (Jp2 R R)) R ?_)))⟩)))
 cases h
 exact⟨K108,none,0,none,0,R,(hE.stp (S3.tr (S7.tr (S17.tr (S24.tr (S27.tr (S32.tr (S37.tr (S48.tr (S56.tr (S59.tr (S63.tr (S68.tr (S73.tr (S86.tr (S95.tr (S98.tr (S104.tr (S109.tr S113)))))))))))))))))) R R),Ow.nil,Ow.nil⟩
theorem pp {w:World}{κ:Col}{p0:Sig}{a1 u1}{p1:(List Clause)}(g1:Rd Clause.rp κ w 0 a1 u1 p1){r:Int}(h:gP p0 p1=some r):Ret Tryz.prog 27 [.agg #[vi p0.In,vi p0.Out],.slice a1 p1.length u1] w (λv w'=>∃(κ':Col),v=vi r/\Ent κ w κ' w'):=by
 unfold gP at h
 refine Ret.enter F27 R N27 R ?_
 dsimp only[envOf]
 have hE:=Ent.refl κ w
 refine Je [1,2] R (Jf1 (κ:=κ) 2 R R R R R R R λb2 w1 K2 S3 f4=>⟨tv,Jb 1 R (Jq (Je [1,2,1] R (Jl tv R R R R (Jd2 (cs:=[vi p0.In,vi p0.Out]) I25 Z25 R R R (haE f4.cells)) (Jn 1 R (Ob h λx9 hx9 h=>?_)))))⟩)
 have f5:=g1.stp S3 R R
 refine Jh R R R C36 (nf (κ:=Mk K2) (p0:=p0) (Ji3 f5) hx9) ?_
 rintro _ w6 ⟨k7,rfl,e8⟩
 obtain⟨K9,S10,m11⟩:=Ji e8 3 R
 refine⟨tv,Jd ?_⟩
 revert h
 cases ht13:x9
 refine JF λh=>Jy R (Js (Jp (Je [1,2,1,2,2,2,1,1,2] R (Jl tv R R R R (Jd2 (cs:=[vi p0.In,vi p0.Out]) I25 Z25 R R R (haE (f4.stp S10 R R).cells)) (Jn 1 R (Ob h λx13 hx13 h=>Jh R R R C18 (ox (κ:=Mk K9) (p0:=p0) (Ji3 (f5.stp S10 R R)) hx13) ?_))))))
 rintro _ w17 ⟨k18,aa,ab,ac,ad,rfl,e19,f20,f21⟩
 obtain⟨K22,S23,m24⟩:=Ji e19 5 R
 refine⟨tv,Jn 3 R (Jg1 (κ:=K22) 9 R R R R R X31 R λb5 w28 K29 S30 f31=>⟨tv,Jj1 (κ:=K29) 9 (vc:=[.slice aa x13.1.In.length ab,.slice ac x13.1.Next.length ad]) R R R R R R R Z31 R R f31 R λw32 S33 f34=>⟨tv,Jb 1 R (Jq (Je3 R ?_))⟩⟩)⟩
 revert h
 cases ht35:x13.2
 refine JF λh=>Jy R (Js (Jp (Je3 R (Ju (Ja2 (l:=[.tmp 4]) V27 (Jp2 R R) R ?_)))))
 cases h
 exact⟨K29,R,(hE.stp (S3.tr (S10.tr (S23.tr (S30.tr S33)))) R R)⟩
 refine JT λh=>Jx R (Je3 R (Ju (Jw (Ja2 (l:=[.tmp 4]) V27 (Jp2 R R) R ?_))))
 cases h
 exact⟨K29,R,(hE.stp (S3.tr (S10.tr (S23.tr (S30.tr S33)))) R R)⟩
 refine JT λh=>Jx R (Je3 R (Ju (Jw (Ja2 (l:=[.tmp 4]) V27 (Jp2 R R) R ?_))))
 cases h
 exact⟨K9,R,(hE.stp (S3.tr S10) R R)⟩
theorem pi {w:World}{κ:Col}{p0:Sig}{a1 u1}{p1:(List Clause)}(g1:Rd Clause.rp κ w 0 a1 u1 p1){r:Int}(h:gL p0 p1=some r):Ret Tryz.prog 28 [.agg #[vi p0.In,vi p0.Out],.slice a1 p1.length u1] w (λv w'=>∃(κ':Col),v=vi r/\Ent κ w κ' w'):=by
 unfold gL at h
 refine Ret.enter F28 R N28 R ?_
 dsimp only[envOf]
 have hE:=Ent.refl κ w
 refine Je [1,2] R (Jf1 (κ:=κ) 2 R R R R R R R λb2 w1 K2 S3 f4=>⟨tv,Jb 1 R (Jq (Je [1,2,1] R (Jl tv R R R R (Jd2 (cs:=[vi p0.In,vi p0.Out]) I25 Z25 R R R (haE f4.cells)) (Jn 1 R (Ob h λx9 hx9 h=>?_)))))⟩)
 have f5:=g1.stp S3 R R
 refine Jh R R R C37 (m9 (κ:=Mk K2) (p0:=p0) (Ji3 f5) hx9) ?_
 rintro _ w6 ⟨k7,rfl,e8⟩
 obtain⟨K9,S10,m11⟩:=Ji e8 3 R
 refine⟨tv,Jd ?_⟩
 revert h
 cases ht13:x9
 refine JF λh=>Jy R (Js (Jp (Jq (Je [1,2,1,2,2,2,1,1,2] R (Jl tv R R R R (Jd2 (cs:=[vi p0.In,vi p0.Out]) I25 Z25 R R R (haE (f4.stp S10 R R).cells)) (Jn 1 R (Ob h λx13 hx13 h=>Jh R R R C21 (n8 (κ:=Mk K9) (p0:=p0) (Ji3 (f5.stp S10 R R)) hx13) ?_)))))))
 rintro _ w17 ⟨k18,aa,ab,ac,ad,rfl,e19,f20,f21⟩
 obtain⟨K22,S23,m24⟩:=Ji e19 5 R
 refine⟨tv,Jn 3 R (Jg1 (κ:=K22) 9 R R R R R X31 R λb5 w28 K29 S30 f31=>⟨tv,Jj1 (κ:=K29) 9 (vc:=[.slice aa x13.1.In.length ab,.slice ac x13.1.Next.length ad]) R R R R R R R Z31 R R f31 R λw32 S33 f34=>⟨tv,Jb 1 R (Je3 R ?_)⟩⟩)⟩
 revert h
 cases ht35:x13.2
 refine JF λh=>Jy R (Js (Jp (Je3 R (Ju (Ja2 (l:=[.tmp 4]) V28 (Jp2 R R) R ?_)))))
 cases h
 exact⟨K29,R,(hE.stp (S3.tr (S10.tr (S23.tr (S30.tr S33)))) R R)⟩
 refine JT λh=>Jx R (Je3 R (Ju (Jw (Ja2 (l:=[.tmp 4]) V28 (Jp2 R R) R ?_))))
 cases h
 exact⟨K29,R,(hE.stp (S3.tr (S10.tr (S23.tr (S30.tr S33)))) R R)⟩
 refine JT λh=>Jx R (Je3 R (Ju (Jw (Ja2 (l:=[.tmp 4]) V28 (Jp2 R R) R ?_))))
 cases h
 exact⟨K9,R,(hE.stp (S3.tr S10) R R)⟩
theorem lj {w:World}{κ:Col}{p0:Sig}{a1 u1}{p1:(List Clause)}(g1:Rd Clause.rp κ w 0 a1 u1 p1){r:Bool}(h:de p0 p1=some r):Ret Tryz.prog 5 [.agg #[vi p0.In,vi p0.Out],.slice a1 p1.length u1] w (λv w'=>∃(κ':Col),v= .bool r/\Ent κ w κ' w'):=by
 unfold de at h
 refine Ret.enter F5 R N5 R ?_
 dsimp only[envOf]
 have hE:=Ent.refl κ w
 refine Je [1,2] R (Jf1 (κ:=κ) 2 R R R R R R R λb2 w1 K2 S3 f4=>⟨tv,Jb 1 R (Je3 R (Jg3 [2,2,1,2] 2 R (Ob h λx11 hx11 h=>?_)))⟩)
 have f5:=g1.stp S3 R R
 refine Jh R R R C17 (oe (κ:=Mk K2) (Ji3 f5) hx11) ?_
 rintro _ w6 ⟨k7,rfl,e8⟩
 obtain⟨K9,S10,m11⟩:=Ji e8 3 R
 refine⟨tv,Jb 1 R (Jq (Je3 R ?_))⟩
 revert h
 cases ht13:decide (x11<0)
 refine JF λh=>Jy R (Js (Jp (Je [1,1,2,1,1,2] R ?_)))
 have f15:=f4.stp S10 R R
 refine Jl tv R R R R (Jd2 (cs:=[vi p0.In,vi p0.Out]) I43 Z43 R R R (haE f15.cells)) (Ob h λx15 hx15 h=>Jh R R R C19 (oG (κ:=Mk K9) (p0:=p0) hx15) ?_)
 rintro _ w16 ⟨k17,rfl,e18⟩
 obtain⟨K19,S20,m21⟩:=Ji e18 5 R
 refine⟨tv,Jn 1 R (Ob h λx17 hx17 h=>?_)⟩
 have f23:=f5.stp (S10.tr S20) R R
 refine Jh R R R C20 (jv (κ:=Mk K19) (Ji3 f23) hx17) ?_
 rintro _ w24 ⟨k25,aa,ad,rfl,e26,f27⟩
 obtain⟨K28,S29,m30⟩:=Ji e26 7 R
 refine⟨tv,Ob h λx18 hx18 h=>Jh R R R C27 (pp (κ:=Mk K28) (p0:=x15) (Ji3 (f27.mx Clause.no119 m30 R (R:7+2=9)).rdc) hx18) ?_⟩
 rintro _ w33 ⟨k34,rfl,e35⟩
 obtain⟨K36,S37,m38⟩:=Ji e35 10 R
 refine⟨tv,Jb 1 R (Jg3 [2,1,2] 1 R (Ob h λx20 hx20 h=>?_))⟩
 have f40:=f23.stp (S29.tr S37) R R
 refine Jh R R R C20 (jv (κ:=Mk K36) (Ji3 f40) hx20) ?_
 rintro _ w41 ⟨k42,ac,af,rfl,e43,f44⟩
 obtain⟨K45,S46,m47⟩:=Ji e43 12 R
 refine⟨tv,Jb 1 R (Je [1,1,2,1,2] R (Jl tv R R R R (Jd2 (cs:=[vi p0.In,vi p0.Out]) I43 Z43 R R R (haE (f15.stp (S20.tr (S29.tr (S37.tr S46))) R R).cells)) (Ob h λx22 hx22 h=>Jh R R R C19 (oG (κ:=Mk K45) (p0:=p0) hx22) ?_)))⟩
 rintro _ w51 ⟨k52,rfl,e53⟩
 obtain⟨K54,S55,m56⟩:=Ji e53 15 R
 refine⟨tv,Jn 1 R (Ob h λx24 hx24 h=>?_)⟩
 have f58:=(f44.mx Clause.no119 m47 R (R:12+2=14)).stp S55 R R
 refine Jh R R R C28 (pi (κ:=Mk K54) (p0:=x22) (Ji3 f58.rdc) hx24) ?_
 rintro _ w59 ⟨k60,rfl,e61⟩
 obtain⟨K62,S63,m64⟩:=Ji e61 17 R
 refine⟨tv,Jb 1 R (Jq (Je3 R ?_))⟩
 revert h
 cases ht66:(x24 !=x18)
 refine JF λh=>Jy R (Js (Jp (Jq (Jg3 [2,2,1,1,2] 2 R (Ob h λx30 hx30 h=>Jh R R R C20 (jv (κ:=Mk K62) (Ji3 (f40.stp (S46.tr (S55.tr S63)) R R)) hx30) ?_)))))
 rintro _ w69 ⟨k70,ab,ae,rfl,e71,f72⟩
 obtain⟨K73,S74,m75⟩:=Ji e71 19 R
 refine⟨tv,Ob h λx31 hx31 h=>Jh R R R C23 (oq (κ:=Mk K73) (Ji3 (f58.stp (S63.tr S74) R R).rdc) (Ji3 (f72.mx Clause.no119 m75 R (R:19+2=21)).rdc) hx31) ?_⟩
 rintro _ w79 ⟨k80,rfl,e81⟩
 obtain⟨K82,S83,m84⟩:=Ji e81 22 R
 refine⟨tv,Jb 1 R ?_⟩
 revert h
 cases ht86:(!x31)
 refine JF λh=>Jy R (Js (Jp (Je3 R (Ju (Ja2 (l:=[.tmp 4]) V5 (Jp2 R R) R ?_)))))
 cases h
 exact⟨K82,R,(hE.stp (S3.tr (S10.tr (S20.tr (S29.tr (S37.tr (S46.tr (S55.tr (S63.tr (S74.tr S83))))))))) R R)⟩
 refine JT λh=>Jx R (Je3 R (Ju (Jw (Ja2 (l:=[.tmp 4]) V5 (Jp2 R R) R ?_))))
 cases h
 exact⟨K82,R,(hE.stp (S3.tr (S10.tr (S20.tr (S29.tr (S37.tr (S46.tr (S55.tr (S63.tr (S74.tr S83))))))))) R R)⟩
 refine JT λh=>Jx R (Je3 R (Ju (Jw (Ja2 (l:=[.tmp 4]) V5 (Jp2 R R) R ?_))))
 cases h
 exact⟨K62,R,(hE.stp (S3.tr (S10.tr (S20.tr (S29.tr (S37.tr (S46.tr (S55.tr S63))))))) R R)⟩
 refine JT λh=>Jx R (Je3 R (Ju (Jw (Ja2 (l:=[.tmp 4]) V5 (Jp2 R R) R ?_))))
 cases h
 exact⟨K9,R,(hE.stp (S3.tr S10) R R)⟩
end Go.Proofs.YtpcjbkgbnoocaaaGreat
