/- The walks, part 11. By program. -/
import Derived.Test.YtmiilifclnanlaaGreatFns8EE
import Derived.Test.YtmiilifclnanlaaGreatFns9EE
set_option linter.unusedVariables false
set_option linter.unusedSimpArgs false
namespace Go.Proofs.YtmiilifclnanlaaGreat
open Go Go.Wk Go.Proofs
set_option maxRecDepth 100000
set_option maxHeartbeats 1000000
theorem s_l32Draw_ok {w:World}{κ:Col}{ab aa}{p0:l1Cur}{ai af ah ae ac ad}{p1:Parity}{b0}(g0_0:Rd (Rp.int .u8) κ w 0 ab aa p0.b) (g1_0_0:Rd (Rp.int .i64) κ w 0 ai af p1.Arena.Owner) (g1_0_1:Rd (Rp.sl (Rp.int .i64)) κ w 0 ah ae p1.Arena.Next) (g1_1:Rd (Rp.int .i64) κ w 0 ac ad p1.Prio) (gb0:Bc κ w 2 b0 107 [.slice ab p0.b.length aa,vi p0.i,vi p0.h]){r:Edit×Int×Int}(h:s_l32Draw p0 p1=some r):Ret Tryz.prog 70 [.pointer (some ⟨b0,0,none⟩),.agg #[.slice ai p1.Arena.Owner.length af,.slice ah p1.Arena.Next.length ae,.slice ac p1.Prio.length ad]] w (fun v w'=>∃(κ':Col),v= .agg #[vi r.1.Kind,vi r.1.V,vi r.1.N]∧Ent κ w κ' w'∧Bc κ' w' 2 b0 107 [.slice ab p0.b.length aa,vi r.2.1,vi r.2.2]):=by
 unfold s_l32Draw at h
 refine Ret.enter F70 R N70 R ?_
 dsimp only[envOf]
 have hE:=Ent.refl κ w
 refine Je [1,1] R (Jf1 (κ:=κ) 3 R R R R R R R fun b3 w1 K2 S3 f4=>⟨tv,Jg1 (κ:=K2) 4 R R R R R X42 R fun b4 w5 K6 S7 f8=>⟨tv,Jd (Je [2,1,2,2] R (Jf R (Jb2 U39 R Z22 R R) ?_))⟩⟩)
 have f9:=f4.stp S7 R R
 refine Jl tv R R R R (Jc2 I22 R R (hvE (f9.ld 2 R R))) (Jf R (Je2 U22 R R) (Jb 1 R (Je [2,1,2,2,2,1,2,1,1] R (Jn 1 R (Ob h fun x11 hx11 h=>?_)))))
 have f10:=g0_0.stp (S3.tr S7) R R
 refine Jh R R R C69 (s_l1Below_ok (κ:=fun b=>mp [(2,2)] 0 (K6 b)) (p0:=p0) (Jl2 f10 (mp [(2,2)] 0) R R) ((gb0.stp (S3.tr S7) R R).map (mp [(2,2)] 0) R R) hx11) ?_
 rintro _ w12 ⟨k13,rfl,e14,f15⟩
 obtain⟨K16,S17,m18⟩:=Ji e14 5 R
 refine⟨tv,Jn 3 R (Ob h fun x15 hx15 h=>?_)⟩
 have f21:=f10.stp S17 R R
 refine Jh R R R C69 (s_l1Below_ok (κ:=fun b=>mp [(7,2)] 0 (K16 b)) (p0:=(⟨p0.b,x11.2.1,x11.2.2⟩:l1Cur)) (Jl2 f21 (mp [(7,2)] 0) R R) ((f15.mx m18 R (R:5+2=7)).map (mp [(7,2)] 0) R R) hx15) ?_
 rintro _ w22 ⟨k23,rfl,e24,f25⟩
 obtain⟨K26,S27,m28⟩:=Ji e24 8 R
 refine⟨tv,?_⟩
 have f30:=f25.mx m28 R (R:8+2=10)
 refine Jf R (rn_build (parts:=[(0,.tmp 12),(1,.tmp 15)]) (cells:=[vi (IntKind.i64.wrap (1+x11.1)),vi x15.1,vi 0]) R R (by kernel_rfl)) (Jg1 (κ:=K26) 11 R R R R R X42 R fun b6 w31 K32 S33 f34=>⟨tv,Jj1 (κ:=K32) 11 (vc:=[vi (IntKind.i64.wrap (1+x11.1)),vi x15.1,vi 0]) R R R R R R R Z42 R R f34 R fun w35 S36 f37=>⟨tv,Jd (Jq (Je [2,1] R (Jf R (Jb2 U42 R Z2 R R) (Jl tv R R R R (Jc2 I2 R R (hvE (f37.ld 0 R R))) (Jd (Jv (Je [2,2] R (Jb 2 R (Ob h fun q1 h hK38=>Jx1 (fun L w'=>∃κ',L=[(0,.pointer (some ⟨b0,0,none⟩)),(4,.pointer (some ⟨b4,0,none⟩)),(5,vi (p1.Prio.length:Int)),(6,.pointer (some ⟨b6,0,none⟩))]∧Stp [10,11,14,17] K32 w35 κ' w'∧Bc κ' w' 10 b0 107 [.slice ab p0.b.length aa,vi q1.1,vi q1.2.1]∧Bc κ' w' 11 b6 42 [vi (IntKind.i64.wrap (1+x11.1)),vi x15.1,vi q1.2.2]) ?_ ?_)))))))))⟩⟩)
 revert h
 cases ht44:((IntKind.i64.wrap (1+x11.1))==1)
 refine JF fun h=>Jy R (Je [2,2] R (Jb 2 R (Ob h fun q2 h hK61=>Jx1 (fun L w'=>∃κ',L=[(0,.pointer (some ⟨b0,0,none⟩)),(4,.pointer (some ⟨b4,0,none⟩)),(5,vi (p1.Prio.length:Int)),(6,.pointer (some ⟨b6,0,none⟩))]∧Stp [10,11,14,17] K32 w35 κ' w'∧Bc κ' w' 10 b0 107 [.slice ab p0.b.length aa,vi q2.1,vi q2.2.1]∧Bc κ' w' 11 b6 42 [vi (IntKind.i64.wrap (1+x11.1)),vi x15.1,vi q2.2.2]) ?_ ?_)))
 revert h
 cases ht67:((IntKind.i64.wrap (1+x11.1))==2)
 refine JF fun h=>Jy R (Je [2,2] R (Jb 2 R (Ob h fun q3 h hK84=>Jx1 (fun L w'=>∃κ',L=[(0,.pointer (some ⟨b0,0,none⟩)),(4,.pointer (some ⟨b4,0,none⟩)),(5,vi (p1.Prio.length:Int)),(6,.pointer (some ⟨b6,0,none⟩))]∧Stp [10,11,14,17] K32 w35 κ' w'∧Bc κ' w' 10 b0 107 [.slice ab p0.b.length aa,vi q3.1,vi q3.2.1]∧Bc κ' w' 11 b6 42 [vi (IntKind.i64.wrap (1+x11.1)),vi x15.1,vi q3.2.2]) ?_ ?_)))
 revert h
 cases ht90:((IntKind.i64.wrap (1+x11.1))==3)
 refine JF fun h=>Jy R (Je [2,2] R (Jb 2 R (Ob h fun q4 h hK107=>Jx1 (fun L w'=>∃κ',L=[(0,.pointer (some ⟨b0,0,none⟩)),(4,.pointer (some ⟨b4,0,none⟩)),(5,vi (p1.Prio.length:Int)),(6,.pointer (some ⟨b6,0,none⟩))]∧Stp [10,11,14,17] K32 w35 κ' w'∧Bc κ' w' 10 b0 107 [.slice ab p0.b.length aa,vi q4.1,vi q4.2.1]∧Bc κ' w' 11 b6 42 [vi (IntKind.i64.wrap (1+x11.1)),vi x15.1,vi q4.2.2]) ?_ ?_)))
 revert h
 cases ht113:((IntKind.i64.wrap (1+x11.1))==4)
 refine JF fun h=>Jy R (Js ?_)
 cases h
 exact Jw1 _ ⟨K32,R,(Jx2 _ _).wk R,(f30.stp (S33.tr S36) R R),f37⟩ (KM R)
 refine JT fun h=>Jx R (Je [2,2,1,2,1] R (Jn 2 R (Ob h fun x39 hx39 h=>?_)))
 have f114:=f21.stp (S27.tr (S33.tr S36)) R R
 refine Jh R R R C69 (s_l1Below_ok (κ:=fun b=>mp [(10,2)] 0 (K32 b)) (p0:=(⟨p0.b,x15.2.1,x15.2.2⟩:l1Cur)) (Jl2 f114 (mp [(10,2)] 0) R R) ((f30.stp (S33.tr S36) R R).map (mp [(10,2)] 0) R R) hx39) ?_
 rintro _ w116 ⟨k117,rfl,e118,f119⟩
 obtain⟨K120,S121,m122⟩:=Ji e118 12 R
 refine⟨tv,?_⟩
 have f124:=f119.mx m122 R (R:12+2=14)
 refine Jf R (Jb2 U42 R Z2 R R) (Ji1 (κ:=K120) 11 (off:=2) (vc:=[vi x39.1]) (cs':=[vi (IntKind.i64.wrap (1+x11.1)),vi x15.1,vi x39.1]) R R R R R R R Z2 R R (f37.stp S121 R R) R R fun w126 S127 f128=>⟨tv,Jd (Je [2,1,2,2,1,2,2,2,2,2,1,2,1,2,1,2,2,2] R (Jf R (Jb2 U42 R Z2 R R) (Jl tv R R R R (Jc2 I2 R R (hvE (f128.ld 1 R R))) (Jf R (Jb2 U39 R Z37 R R) (Jf R (Jb2 U37 R Z23 R R) ?_)))))⟩)
 have f129:=f9.stp (S17.tr (S27.tr (S33.tr (S36.tr (S121.tr S127))))) R R
 refine Jl tv R R R R (Jc2 I23 R R (hvE (f129.ld 1 R R))) (Jf R (Je2 U23 R R) (Jn 2 R (Ob h fun p58 h hK130=>Ju1 [(8,2),(9,2),(10,1),(11,2),(12,1),(13,2),(14,1),(15,2),(16,2),(17,2)] [] (fun L w'=>L=[(0,.pointer (some ⟨b0,0,none⟩)),(3,.pointer (some ⟨b3,0,none⟩)),(4,.pointer (some ⟨b4,0,none⟩)),(5,vi (p1.Prio.length:Int)),(6,.pointer (some ⟨b6,0,none⟩)),(58,.bool p58)]∧∃κ',Stp [] K120 w126 κ' w') tv ?_ ?_)))
 revert h
 cases ht131:decide (x15.1<(p1.Arena.Next.length:Int))
 refine JF fun h=>Jn 2 R (Jd1 R R R R (Jn 1 R (Jd1 R R R R (Jn 1 R (Jd1 R R R R (Jn 3 R ?_))))))
 cases h
 exact Jv1 _ tv ⟨R,_,(Jx2 _ _).wk R⟩ (KM R)
 refine JT fun h=>Jf R (Jb2 U39 R Z37 R R) (Jf R (Jb2 U37 R Z23 R R) (Jl tv R R R R (Jc2 I23 R R (hvE (f129.ld 1 R R))) (Jf R (Jb2 U42 R Z2 R R) (Jl tv R R R R (Jc2 I2 R R (hvE (f128.ld 1 R R))) (Ob h fun x54 hx54 h=>Jf R (Jf2 g1_0_1 hx54 U23 Z22 R R R R) ?_)))))
 obtain⟨ax54,ux54,f133,hl134⟩:=(g1_0_1.stp (S3.tr (S7.tr (S17.tr (S27.tr (S33.tr (S36.tr (S121.tr S127))))))) R R).gSl hx54
 refine Jl tv R R R R (Jc2 I22 R R (hvE hl134)) (Jf R (Je2 U22 R R) (Jn 2 R ?_))
 cases h
 exact Jv1 _ tv ⟨R,_,(Jx2 _ _).wk R⟩ (KM R)
 rintro _ w135 _ ⟨rfl,K136,S137⟩
 have h:=hK130
 refine Jd (Ob h fun q5 h hK138=>Jx1 (fun L w'=>∃κ',L=[(0,.pointer (some ⟨b0,0,none⟩)),(4,.pointer (some ⟨b4,0,none⟩)),(5,vi (p1.Prio.length:Int)),(6,.pointer (some ⟨b6,0,none⟩))]∧Stp [11,14,17] K136 w135 κ' w'∧Bc κ' w' 14 b0 107 [.slice ab p0.b.length aa,vi q5.1,vi q5.2.1]∧Bc κ' w' 11 b6 42 [vi (IntKind.i64.wrap (1+x11.1)),vi x15.1,vi q5.2.2]) ?_ ?_)
 revert h
 cases ht144:p58
 refine JF fun h=>Jy R (Js ?_)
 cases h
 exact Jw1 _ ⟨K136,R,(Jx2 _ _).wk R,(f124.stp (S127.tr S137) R R),(f128.stp S137 R R)⟩ (KM R)
 refine JT fun h=>Jx R (Js1 (κ:=K136) [0,3,11] (some 20) [(0,2),(1,2),(3,2),(7,2),(8,2),(9,2),(11,2),(2,0),(4,0),(5,2),(6,0),(10,0),(12,0),(13,2),(14,0),(15,2),(16,1),(17,2),(18,0),(19,2)] [(20,1)] (by kernel_rfl) (by kernel_rfl) fun w146 S145=>Jf R (Jb2 U39 R Z37 R R) (Jf R (Jb2 U37 R Z23 R R) (Jf R (Jb2 U42 R Z2 R R) (Jn 1 R (Jf R (Jb2 U39 R Z37 R R) (Jf R (Jb2 U37 R Z23 R R) (Jf R (Jb2 U42 R Z2 R R) ?_)))))))
 have f147:=f129.stp (S137.tr S145) R R
 refine Jg R (Jc2 I23 R R (hvC (f147.ld 1 R R) R)) ?_
 have f148:=f128.stp (S137.tr S145) R R
 refine Jg R (Jc2 I2 R R (hvC (f148.ld 1 R R) R)) (Ob h fun x64 hx64 h=>Jf R (Jf2 g1_0_1 hx64 U23 Z22 R R R R) ?_)
 have f149:=g1_0_1.stp (S3.tr (S7.tr (S17.tr (S27.tr (S33.tr (S36.tr (S121.tr (S127.tr (S137.tr S145))))))))) R R
 obtain⟨ax64,ux64,f150,hl151⟩:=f149.gSl hx64
 refine Jg R (Jc2 I22 R R (hvC hl151 R)) (Jg R (Jc2 I23 R R (hvC (f147.ld 1 R R) R)) (Jg R (Jc2 I2 R R (hvC (f148.ld 1 R R) R)) (Ob h fun x72 hx72 h=>Jf R (Jf2 f149 hx72 U23 Z22 R R R R) ?_)))
 obtain⟨ax72,ux72,f152,hl153⟩:=f149.gSl hx72
 refine Jg R (Jc2 I22 R R (hvC hl153 R)) (Jf R (Je2 U22 R R) (Ob h fun x75 hx75 h=>Jh R R R C69 (s_l1Below_ok (κ:=fun b=>mp [(14,2)] 0 (K136 b)) (p0:=(⟨p0.b,x39.2.1,x39.2.2⟩:l1Cur)) (Jl2 (f114.stp (S121.tr (S127.tr (S137.tr S145))) R R) (mp [(14,2)] 0) R R) ((f124.stp (S127.tr (S137.tr S145)) R R).map (mp [(14,2)] 0) R R) hx75) ?_))
 rintro _ w156 ⟨k157,rfl,e158,f159⟩
 obtain⟨K160,S161,m162⟩:=Ji e158 15 R
 refine⟨(S161.cl R),Ob h fun x76 hx76 h=>Jf R (Jf2 f150 hx76 U22 Z2 R R R R) (Jg R (Jc2 I2 R R (hvC (f150.gInt hx76) R)) (Jf R (Jb2 U42 R Z2 R R) (Jt1 (Ji1 (κ:=K160) 11 (off:=2) (vc:=[vi x76]) (cs':=[vi (IntKind.i64.wrap (1+x11.1)),vi x15.1,vi x76]) R R R R R R R Z2 R R (f148.stp S161 R R) R R fun w166 S167 f168=>⟨tv,Jo ?_⟩))))⟩
 cases h
 exact Jw1 _ ⟨(fun b=>ren [(17,14)] (K160 b)),R,(Jy2 ((S145.tr (S161.tr S167)).wk R) [(17,14)] R),(((f159.mx m162 R (R:15+2=17)).stp S167 R R).map (ren [(17,14)]) R R),(f168.map (ren [(17,14)]) R R)⟩ (KM R)
 rintro _ w139 ⟨K140,rfl,S141,f142,f143⟩
 have h:=hK138
 cases h
 exact Jw1 _ ⟨(fun b=>ren [(14,10)] (K140 b)),R,(Jy2 ((S121.tr (S127.tr (S137.tr S141))).wk R) [(14,10)] R),(f142.map (ren [(14,10)]) R R),(f143.map (ren [(14,10)]) R R)⟩ (KM R)
 rintro _ w108 ⟨K109,rfl,S110,f111,f112⟩
 have h:=hK107
 cases h
 exact Jw1 _ ⟨K109,R,S110.wk R,f111,f112⟩ (KM R)
 refine JT fun h=>Jx R (Ja [2,2,1,2,1] R (Jn 2 R (Ob h fun x33 hx33 h=>Jh R R R C69 (s_l1Below_ok (κ:=fun b=>mp [(10,2)] 0 (K32 b)) (p0:=(⟨p0.b,x15.2.1,x15.2.2⟩:l1Cur)) (Jl2 (f21.stp (S27.tr (S33.tr S36)) R R) (mp [(10,2)] 0) R R) ((f30.stp (S33.tr S36) R R).map (mp [(10,2)] 0) R R) hx33) ?_)))
 rintro _ w93 ⟨k94,rfl,e95,f96⟩
 obtain⟨K97,S98,m99⟩:=Ji e95 12 R
 refine⟨tv,Jf R (Jb2 U42 R Z2 R R) (Ji1 (κ:=K97) 11 (off:=2) (vc:=[vi x33.1]) (cs':=[vi (IntKind.i64.wrap (1+x11.1)),vi x15.1,vi x33.1]) R R R R R R R Z2 R R (f37.stp S98 R R) R R fun w103 S104 f105=>⟨tv,Jo ?_⟩)⟩
 cases h
 exact Jw1 _ ⟨(fun b=>ren [(14,10)] (K97 b)),R,(Jy2 ((S98.tr S104).wk R) [(14,10)] R),(((f96.mx m99 R (R:12+2=14)).stp S104 R R).map (ren [(14,10)]) R R),(f105.map (ren [(14,10)]) R R)⟩ (KM R)
 rintro _ w85 ⟨K86,rfl,S87,f88,f89⟩
 have h:=hK84
 cases h
 exact Jw1 _ ⟨K86,R,S87.wk R,f88,f89⟩ (KM R)
 refine JT fun h=>Jx R (Ja [2,1,2,1] R (Jn 1 R (Ob h fun x27 hx27 h=>Jh R R R C69 (s_l1Below_ok (κ:=fun b=>mp [(10,2)] 0 (K32 b)) (p0:=(⟨p0.b,x15.2.1,x15.2.2⟩:l1Cur)) (Jl2 (f21.stp (S27.tr (S33.tr S36)) R R) (mp [(10,2)] 0) R R) ((f30.stp (S33.tr S36) R R).map (mp [(10,2)] 0) R R) hx27) ?_)))
 rintro _ w70 ⟨k71,rfl,e72,f73⟩
 obtain⟨K74,S75,m76⟩:=Ji e72 12 R
 refine⟨tv,Jf R (Jb2 U42 R Z2 R R) (Ji1 (κ:=K74) 11 (off:=2) (vc:=[vi x27.1]) (cs':=[vi (IntKind.i64.wrap (1+x11.1)),vi x15.1,vi x27.1]) R R R R R R R Z2 R R (f37.stp S75 R R) R R fun w80 S81 f82=>⟨tv,Jo ?_⟩)⟩
 cases h
 exact Jw1 _ ⟨(fun b=>ren [(14,10)] (K74 b)),R,(Jy2 ((S75.tr S81).wk R) [(14,10)] R),(((f73.mx m76 R (R:12+2=14)).stp S81 R R).map (ren [(14,10)]) R R),(f82.map (ren [(14,10)]) R R)⟩ (KM R)
 rintro _ w62 ⟨K63,rfl,S64,f65,f66⟩
 have h:=hK61
 cases h
 exact Jw1 _ ⟨K63,R,S64.wk R,f65,f66⟩ (KM R)
 refine JT fun h=>Jx R (Ja [2,1,2,1] R (Jn 1 R (Ob h fun x22 hx22 h=>Jh R R R C69 (s_l1Below_ok (κ:=fun b=>mp [(10,2)] 0 (K32 b)) (p0:=(⟨p0.b,x15.2.1,x15.2.2⟩:l1Cur)) (Jl2 (f21.stp (S27.tr (S33.tr S36)) R R) (mp [(10,2)] 0) R R) ((f30.stp (S33.tr S36) R R).map (mp [(10,2)] 0) R R) hx22) ?_)))
 rintro _ w47 ⟨k48,rfl,e49,f50⟩
 obtain⟨K51,S52,m53⟩:=Ji e49 12 R
 refine⟨tv,Jf R (Jb2 U42 R Z2 R R) (Ji1 (κ:=K51) 11 (off:=2) (vc:=[vi x22.1]) (cs':=[vi (IntKind.i64.wrap (1+x11.1)),vi x15.1,vi x22.1]) R R R R R R R Z2 R R (f37.stp S52 R R) R R fun w57 S58 f59=>⟨tv,Jo ?_⟩)⟩
 cases h
 exact Jw1 _ ⟨(fun b=>ren [(14,10)] (K51 b)),R,(Jy2 ((S52.tr S58).wk R) [(14,10)] R),(((f50.mx m53 R (R:12+2=14)).stp S58 R R).map (ren [(14,10)]) R R),(f59.map (ren [(14,10)]) R R)⟩ (KM R)
 rintro _ w39 ⟨K40,rfl,S41,f42,f43⟩
 have h:=hK38
 refine Jz (Jp (Jq (Je [2,1] R (Jn 1 R (Ob h fun x80 hx80 h=>?_)))))
 have f173:=f21.stp (S27.tr (S33.tr (S36.tr S41))) R R
 refine Jh R R R C71 (s_l1Once_ok (κ:=fun b=>mp [(10,2)] 0 (K40 b)) (p0:=(⟨p0.b,q1.1,q1.2.1⟩:l1Cur)) (Jl2 f173 (mp [(10,2)] 0) R R) (f42.map (mp [(10,2)] 0) R R) hx80) ?_
 rintro _ w174 ⟨k175,rfl,e176,f177⟩
 obtain⟨K178,S179,m180⟩:=Ji e176 12 R
 refine⟨tv,?_⟩
 have f182:=f177.mx m180 R (R:12+2=14)
 refine Jd (Ob h fun q6 h hK183=>Jx1 (fun L w'=>∃κ',L=[(0,.pointer (some ⟨b0,0,none⟩)),(4,.pointer (some ⟨b4,0,none⟩)),(6,.pointer (some ⟨b6,0,none⟩))]∧Stp [11,14,17,20] K178 w174 κ' w'∧Bc κ' w' 14 b0 107 [.slice ab p0.b.length aa,vi q6.1,vi q6.2.1]∧Bc κ' w' 11 b6 42 [vi q6.2.2.1,vi q6.2.2.2.1,vi q6.2.2.2.2]) ?_ ?_)
 revert h
 cases ht189:x80.1
 refine JF fun h=>Jy R (Js ?_)
 cases h
 exact Jw1 _ ⟨K178,R,(Jx2 _ _).wk R,f182,(f43.stp S179 R R)⟩ (KM R)
 refine JT fun h=>Jx R (Je [2,1] R (Jn 1 R (Ob h fun x82 hx82 h=>?_)))
 have f190:=f173.stp S179 R R
 refine Jh R R R C69 (s_l1Below_ok (κ:=fun b=>mp [(14,2)] 0 (K178 b)) (p0:=(⟨p0.b,x80.2.1,x80.2.2⟩:l1Cur)) (Jl2 f190 (mp [(14,2)] 0) R R) (f182.map (mp [(14,2)] 0) R R) hx82) ?_
 rintro _ w191 ⟨k192,rfl,e193,f194⟩
 obtain⟨K195,S196,m197⟩:=Ji e193 15 R
 refine⟨tv,?_⟩
 have f199:=f194.mx m197 R (R:15+2=17)
 refine Jd (Jv (Je [2,2] R (Jb 2 R (Ob h fun q7 h hK200=>Jx1 (fun L w'=>∃κ',L=[(0,.pointer (some ⟨b0,0,none⟩)),(4,.pointer (some ⟨b4,0,none⟩)),(6,.pointer (some ⟨b6,0,none⟩))]∧Stp [11,17,20] K195 w191 κ' w'∧Bc κ' w' 17 b0 107 [.slice ab p0.b.length aa,vi q7.1,vi q7.2.1]∧Bc κ' w' 11 b6 42 [vi q7.2.2.1,vi q7.2.2.2.1,vi q7.2.2.2.2]) ?_ ?_))))
 revert h
 cases ht206:(x82.1==0)
 refine JF fun h=>Jy R (Je [2,2] R (Jb 2 R (Ob h fun q8 h hK222=>Jx1 (fun L w'=>∃κ',L=[(0,.pointer (some ⟨b0,0,none⟩)),(4,.pointer (some ⟨b4,0,none⟩)),(6,.pointer (some ⟨b6,0,none⟩))]∧Stp [11,17,20] K195 w191 κ' w'∧Bc κ' w' 17 b0 107 [.slice ab p0.b.length aa,vi q8.1,vi q8.2.1]∧Bc κ' w' 11 b6 42 [vi (IntKind.i64.wrap (1+x11.1)),vi q8.2.2.1,vi q8.2.2.2]) ?_ ?_)))
 revert h
 cases ht228:(x82.1==1)
 refine JF fun h=>Jy R (Je [2,2] R (Jb 2 R (Ob h fun q9 h hK244=>Jx1 (fun L w'=>∃κ',L=[(0,.pointer (some ⟨b0,0,none⟩)),(4,.pointer (some ⟨b4,0,none⟩)),(6,.pointer (some ⟨b6,0,none⟩))]∧Stp [11,17,20] K195 w191 κ' w'∧Bc κ' w' 17 b0 107 [.slice ab p0.b.length aa,vi q9.1,vi q9.2.1]∧Bc κ' w' 11 b6 42 [vi (IntKind.i64.wrap (1+x11.1)),vi x15.1,vi q9.2.2]) ?_ ?_)))
 revert h
 cases ht250:(x82.1==2)
 refine JF fun h=>Jy R (Js ?_)
 cases h
 exact Jw1 _ ⟨K195,R,(Jx2 _ _).wk R,f199,(f43.stp (S179.tr S196) R R)⟩ (KM R)
 refine JT fun h=>Jx R (Ja [2,1,2,1] R (Jn 1 R (Ob h fun x97 hx97 h=>Jh R R R C108 (s_l1Num_ok (κ:=fun b=>mp [(17,2)] 0 (K195 b)) (p0:=(⟨p0.b,x82.2.1,x82.2.2⟩:l1Cur)) (Jl2 (f190.stp S196 R R) (mp [(17,2)] 0) R R) (f199.map (mp [(17,2)] 0) R R) hx97) ?_)))
 rintro _ w252 ⟨k253,rfl,e254,f255⟩
 obtain⟨K256,S257,m258⟩:=Ji e254 18 R
 refine⟨tv,Jf R (Jb2 U42 R Z2 R R) (Ji1 (κ:=K256) 11 (off:=2) (vc:=[vi x97.1]) (cs':=[vi (IntKind.i64.wrap (1+x11.1)),vi x15.1,vi x97.1]) R R R R R R R Z2 R R (f43.stp (S179.tr (S196.tr S257)) R R) R R fun w262 S263 f264=>⟨tv,Jo ?_⟩)⟩
 cases h
 exact Jw1 _ ⟨(fun b=>ren [(20,17)] (K256 b)),R,(Jy2 ((S257.tr S263).wk R) [(20,17)] R),(((f255.mx m258 R (R:18+2=20)).stp S263 R R).map (ren [(20,17)]) R R),(f264.map (ren [(20,17)]) R R)⟩ (KM R)
 rintro _ w245 ⟨K246,rfl,S247,f248,f249⟩
 have h:=hK244
 cases h
 exact Jw1 _ ⟨K246,R,S247.wk R,f248,f249⟩ (KM R)
 refine JT fun h=>Jx R (Ja [2,2,1,2,1] R (Jn 2 R (Ob h fun x92 hx92 h=>Jh R R R C108 (s_l1Num_ok (κ:=fun b=>mp [(17,2)] 0 (K195 b)) (p0:=(⟨p0.b,x82.2.1,x82.2.2⟩:l1Cur)) (Jl2 (f190.stp S196 R R) (mp [(17,2)] 0) R R) (f199.map (mp [(17,2)] 0) R R) hx92) ?_)))
 rintro _ w230 ⟨k231,rfl,e232,f233⟩
 obtain⟨K234,S235,m236⟩:=Ji e232 18 R
 refine⟨tv,Jf R (Jb2 U42 R Z2 R R) (Ji1 (κ:=K234) 11 (off:=1) (vc:=[vi x92.1]) (cs':=[vi (IntKind.i64.wrap (1+x11.1)),vi x92.1,vi q1.2.2]) R R R R R R R Z2 R R (f43.stp (S179.tr (S196.tr S235)) R R) R R fun w240 S241 f242=>⟨tv,Jo ?_⟩)⟩
 cases h
 exact Jw1 _ ⟨(fun b=>ren [(20,17)] (K234 b)),R,(Jy2 ((S235.tr S241).wk R) [(20,17)] R),(((f233.mx m236 R (R:18+2=20)).stp S241 R R).map (ren [(20,17)]) R R),(f242.map (ren [(20,17)]) R R)⟩ (KM R)
 rintro _ w223 ⟨K224,rfl,S225,f226,f227⟩
 have h:=hK222
 cases h
 exact Jw1 _ ⟨K224,R,S225.wk R,f226,f227⟩ (KM R)
 refine JT fun h=>Jx R (Ja [2,1,2,1] R (Jn 1 R (Ob h fun x86 hx86 h=>Jh R R R C111 (s_l1From_ok (κ:=fun b=>mp [(17,2)] 0 (K195 b)) (p0:=(⟨p0.b,x82.2.1,x82.2.2⟩:l1Cur)) (Jl2 (f190.stp S196 R R) (mp [(17,2)] 0) R R) (f199.map (mp [(17,2)] 0) R R) hx86) ?_)))
 rintro _ w208 ⟨k209,rfl,e210,f211⟩
 obtain⟨K212,S213,m214⟩:=Ji e210 18 R
 refine⟨tv,Jf R (Jb2 U42 R Z2 R R) (Ji1 (κ:=K212) 11 (off:=0) (vc:=[vi x86.1]) (cs':=[vi x86.1,vi x15.1,vi q1.2.2]) R R R R R R R Z2 R R (f43.stp (S179.tr (S196.tr S213)) R R) R R fun w218 S219 f220=>⟨tv,Jo ?_⟩)⟩
 cases h
 exact Jw1 _ ⟨(fun b=>ren [(20,17)] (K212 b)),R,(Jy2 ((S213.tr S219).wk R) [(20,17)] R),(((f211.mx m214 R (R:18+2=20)).stp S219 R R).map (ren [(20,17)]) R R),(f220.map (ren [(20,17)]) R R)⟩ (KM R)
 rintro _ w201 ⟨K202,rfl,S203,f204,f205⟩
 have h:=hK200
 refine Jz ?_
 cases h
 exact Jw1 _ ⟨(fun b=>ren [(17,14)] (K202 b)),R,(Jy2 ((S196.tr S203).wk R) [(17,14)] R),(f204.map (ren [(17,14)]) R R),(f205.map (ren [(17,14)]) R R)⟩ (KM R)
 rintro _ w184 ⟨K185,rfl,S186,f187,f188⟩
 have h:=hK183
 refine Jp (Je [1,1] R (Jl tv R R R R (Jd2 (cs:=[vi q6.2.2.1,vi q6.2.2.2.1,vi q6.2.2.2.2]) I42 Z42 R R R (haE f188.cells)) (Jj1 (κ:=K185) 4 (vc:=[vi q6.2.2.1,vi q6.2.2.2.1,vi q6.2.2.2.2]) R R R R R R R Z42 R R (f8.stp (S17.tr (S27.tr (S33.tr (S36.tr (S41.tr (S179.tr S186)))))) R R) R fun w269 S270 f271=>⟨tv,Jd (Ju (Ja2 (l:=[.cell 4 42]) V70 (res_cellA R f271 I42 Z42 R R) R ?_))⟩)))
 cases h
 exact⟨(fun b=>ren [(14,2)] (K185 b)),R,((hE.stp (S3.tr (S7.tr (S17.tr (S27.tr (S33.tr (S36.tr (S41.tr (S179.tr (S186.tr S270))))))))) R R).map (ren [(14,2)]) R R),((f187.stp S270 R R).map (ren [(14,2)]) R R)⟩
theorem s_ParityOk_ok {w:World}{κ:Col}{aa ad ab ac ae af}{p0:Parity}(g0_0_0:Rd (Rp.int .i64) κ w 0 aa ad p0.Arena.Owner) (g0_0_1:Rd (Rp.sl (Rp.int .i64)) κ w 0 ab ac p0.Arena.Next) (g0_1:Rd (Rp.int .i64) κ w 0 ae af p0.Prio){r:Bool}(h:s_ParityOk p0=some r):Ret Tryz.prog 55 [.agg #[.slice aa p0.Arena.Owner.length ad,.slice ab p0.Arena.Next.length ac,.slice ae p0.Prio.length af]] w (fun v w'=>∃(κ':Col),v= .bool r∧Ent κ w κ' w'):=by
 unfold s_ParityOk at h
 refine Ret.enter F55 R N55 R ?_
 dsimp only[envOf]
 have hE:=Ent.refl κ w
 refine Je [1,2] R (Jf1 (κ:=κ) 2 R R R R R R R fun b1 w1 K2 S3 f4=>⟨tv,Jb 1 R (Jq (Je [2,1,1,2,2,2,1,2,2,2,1,2,2,2] R (Jf R (Jb2 U39 R Z37 R R) (Jl tv R R R R (Jd2 (cs:=[.slice aa p0.Arena.Owner.length ad,.slice ab p0.Arena.Next.length ac]) I37 Z37 R R R (haE (f4.lds 0 2 R))) (Ob h fun x6 hx6 h=>Jh R R R C95 (s_ArenaOk_ok (κ:=fun b=>mp [] 0 (K2 b)) (p0:=p0.Arena) (Jl2 (g0_0_0.stp S3 R R) (mp [] 0) R R) (Jl2 (g0_0_1.stp S3 R R) (mp [] 0) R R) hx6) ?_)))))⟩)
 rintro _ w7 ⟨k8,rfl,e9⟩
 obtain⟨K10,S11,m12⟩:=Ji e9 3 R
 refine⟨tv,Jn 2 R (Ob h fun p17 h hK14=>Ju1 [(5,2),(6,1),(7,2),(8,2),(9,2),(10,1),(11,2),(12,2),(13,2)] [] (fun L w'=>L=[(1,.pointer (some ⟨b1,0,none⟩)),(17,.bool p17)]∧∃κ',Stp [] K10 w7 κ' w') tv ?_ ?_)⟩
 revert h
 cases ht15:(!x6)
 refine JF fun h=>Jf R (Jb2 U39 R Z22 R R) ?_
 have f16:=f4.stp S11 R R
 refine Jl tv R R R R (Jc2 I22 R R (hvE (f16.ld 2 R R))) (Jf R (Je2 U22 R R) (Jf R (Jb2 U39 R Z37 R R) (Jf R (Jb2 U37 R Z22 R R) (Jl tv R R R R (Jc2 I22 R R (hvE (f16.ld 0 R R))) (Jf R (Je2 U22 R R) (Jn 2 R ?_))))))
 cases h
 exact Jv1 _ tv ⟨R,_,(Jx2 _ _).wk R⟩ (KM R)
 refine JT fun h=>Jn 1 R (Jd1 R R R R (Jn 3 R (Jd1 R R R R (Jn 3 R ?_))))
 cases h
 exact Jv1 _ tv ⟨R,_,(Jx2 _ _).wk R⟩ (KM R)
 rintro _ w17 _ ⟨rfl,K18,S19⟩
 have h:=hK14
 refine Jd ?_
 revert h
 cases ht20:p17
 refine JF fun h=>Jy R (Js (Jp (Jq (Je [2] R (Jb 1 R ?_)))))
 have hN22:(p0.Prio.length:Int)≤9223372036854775807:=g0_1.len_le
 refine Ob h fun q2 hq24 hK23=>?_
 clear h
 refine Jx1 (fun L w'=>∃κ',L=[]∧Stp [] K18 w17 κ' w'∧q2=Sum.inr ()) ?_ ?_
 refine Jv (Jy1 (fun k L w'=>∃κ' v3,L=[(1,.pointer (some ⟨b1,0,none⟩)),(3,vi v3)]∧Stp [] K18 w17 κ' w'∧0≤v3∧Int.toNat ((p0.Prio.length:Int)-v3)=k∧cntM (s_ParityOk_b0 p0) k v3 ()=some q2) ⟨_,_,⟨K18,0,R,(Jx2 _ _).wk R,(by decide),(by simp),hq24⟩,(KM R)⟩ ?_)
 rintro k _ w28 ⟨K29,v3,rfl,S30,hj22,hJ22,h⟩
 rcases k with _ | k
 have hk31:=h;obtain⟨o22,h⟩:=ex_eq (Sum.inr (Sum.inl ()):Bool⊕((Unit)⊕(Unit)))
 have hc22:decide (v3<(p0.Prio.length:Int))=false:=Jo2 (by omega)
 refine Jq (Je [2,2,1,2,2] R (Jn 1 R (Jf R (Jb2 U39 R Z22 R R) (Jl tv R R R R (Jc2 I22 R R (hvE ((f4.stp (S11.tr (S19.tr S30)) R R).ld 2 R R))) (Jf R (Je2 U22 R R) (Jb 1 R (Jw2 R hc22 (Jc1 (Jt (Jt ?_))))))))))
 cases h
 have h:=hk31
 refine Jb1 ?_
 cases h
 exact Jw1 _ ⟨K29,R,S30.wk R,R⟩ KN
 obtain⟨o22,h,hk31⟩:=BI h;unfold s_ParityOk_b0 at h
 have hc22:decide (v3<(p0.Prio.length:Int))=true:=Jn2 (by omega)
 refine Jq (Je [2,2,1,2,2] R (Jn 1 R (Jf R (Jb2 U39 R Z22 R R) ?_)))
 have f33:=f4.stp (S11.tr (S19.tr S30)) R R
 refine Jl tv R R R R (Jc2 I22 R R (hvE (f33.ld 2 R R))) (Jf R (Je2 U22 R R) (Jb 1 R (Jv2 R hc22 (Js (Jp (Jq (Jv (Je [2,1,2,2,1,1,2] R (Jf R (Jb2 U39 R Z22 R R) (Jl tv R R R R (Jc2 I22 R R (hvE (f33.ld 2 R R))) (Jn 1 R (Ob h fun x28 hx28 h=>Jf R (Jf2 g0_1 hx28 U22 Z2 R R R R) (Jl tv R R R R (Jc2 I2 R R (hvE ((g0_1.stp (S3.tr (S11.tr (S19.tr S30))) R R).gInt hx28))) (Ob h fun x30 hx30 h=>Jh R R R C75 (s_l1In_ok (κ:=fun b=>mp [] 0 (K29 b)) hx30) ?_))))))))))))))
 rintro _ w35 ⟨k36,rfl,e37⟩
 obtain⟨K38,S39,m40⟩:=Ji e37 5 R
 refine⟨tv,Jb 1 R ?_⟩
 revert h
 cases ht42:(!x30)
 refine JF fun h=>Jy R (Js (Jz (Jp (Ja [2,2,2] R (Jc 3 R ?_)))))
 have hw22:IntKind.wrap .i64 (v3+1)=v3+1:=wr1 hj22 (Jm2 hc22) hN22
 rw[hw22]
 have hc22:=Jm2 hc22
 cases h
 exact Jz1 fun a ha=>⟨k,_,Ja3 _,⟨K38,v3+1,R,(S30.tr S39).wk R,by omega,by omega,hk31⟩,(ha.mm R)⟩
 refine JT fun h=>Jx R (Je [2] R (Jb 1 R (Ju (Ja1 (Jw (Jw ?_))))))
 cases h
 obtain rfl:=Option.some.inj hk31
 have h:=hK23
 dsimp only[aft]at h
 refine Ja1 (Jq2 (Jw (Ja2 (l:=[.tmp 2]) V55 (Jp2 R R) R ?_)))
 cases h
 exact⟨K38,R,(hE.stp (S3.tr (S11.tr (S19.tr (S30.tr S39)))) R R)⟩
 rintro _ w25 ⟨K26,rfl,S27,rfl⟩
 have h:=hK23
 dsimp only[aft]at h
 refine Jp (Je [2] R (Jb 1 R (Ju (Ja2 (l:=[.tmp 2]) V55 (Jp2 R R) R ?_))))
 cases h
 exact⟨K26,R,(hE.stp (S3.tr (S11.tr (S19.tr S27))) R R)⟩
 refine JT fun h=>Jx R (Je [2] R (Jb 1 R (Ju (Jw (Ja2 (l:=[.tmp 2]) V55 (Jp2 R R) R ?_)))))
 cases h
 exact⟨K18,R,(hE.stp (S3.tr (S11.tr S19)) R R)⟩
theorem i_winners_ok {w:World}{κ:Col}{ac af ad ae ah ai}{p0:Parity}(g0_0_0:Rd (Rp.int .i64) κ w 0 ac af p0.Arena.Owner) (g0_0_1:Rd (Rp.sl (Rp.int .i64)) κ w 0 ad ae p0.Arena.Next) (g0_1:Rd (Rp.int .i64) κ w 0 ah ai p0.Prio){r:(List Int)}(h:i_winners p0=some r):Ret Tryz.prog 61 [.agg #[.slice ac p0.Arena.Owner.length af,.slice ad p0.Arena.Next.length ae,.slice ah p0.Prio.length ai]] w (fun v w'=>∃(κ':Col) (ra0:Option Addr) (ru0:Nat),v= .slice ra0 r.length ru0∧Ent κ w κ' w'∧Oc E6 2 κ' w' 2 ra0 ru0 r):=by
 unfold i_winners at h
 refine Ret.enter F61 R N61 R ?_
 dsimp only[envOf]
 have hE:=Ent.refl κ w
 refine Je [1,2] R (Jf1 (κ:=κ) 2 R R R R R R R fun b1 w1 K2 S3 f4=>⟨tv,Jb 1 R (Je [2,1,2,1,2] R (Jf R (Jb2 U39 R Z22 R R) (Jl tv R R R R (Jc2 I22 R R (hvE (f4.ld 2 R R))) (Jf R (Je2 U22 R R) (Ob h fun x11 hx11 h=>Jl1 (κ:=K2) (E:=E6) (z:=(0:Int)) 3 R R R R R R R Y22 Tryzinfo2 R R R R R (fun _ _ _=>R) (Ju2 hx11) fun ab aa w5 K6 S7 f8=>⟨tv,Jb 1 R (Jq (Js1 (κ:=K6) [2] none [(1,2),(0,0),(2,0),(3,1),(4,1),(5,2),(6,2),(7,2),(8,2),(9,2)] [] (by kernel_rfl) (by kernel_rfl) fun w10 S9=>Jf R (Jb2 U39 R Z37 R R) ?_))⟩)))))⟩)
 have f11:=f4.stp (S7.tr S9) R R
 refine Jg R (Jd2 (cs:=[.slice ac p0.Arena.Owner.length af,.slice ad p0.Arena.Next.length ae,.slice ah p0.Prio.length ai]) I39 Z39 R R R (haC f11.cells R)) (Jg R (Jd2 (cs:=[.slice ac p0.Arena.Owner.length af,.slice ad p0.Arena.Next.length ae]) I37 Z37 R R R (haC (f11.lds 0 2 R) R)) (Ob h fun x16 hx16 h=>?_))
 have f12:=g0_0_0.stp (S3.tr (S7.tr S9)) R R
 have f13:=g0_0_1.stp (S3.tr (S7.tr S9)) R R
 refine Jh R R R C102 (i_allOf_ok (κ:=fun b=>mp [] 0 (K6 b)) (p0:=p0.Arena) (Jl2 f12 (mp [] 0) R R) (Jl2 f13 (mp [] 0) R R) hx16) ?_
 rintro _ w14 ⟨k15,al,an,rfl,e16,f17⟩
 obtain⟨K18,S19,m20⟩:=Ji e16 4 R
 refine⟨(S19.cl R),Ob h fun x17 hx17 h=>Jh R R R C101 (i_wonIn_ok (κ:=fun b=>mp [] 0 (K18 b)) (p0:=p0) (Jl2 (f12.stp S19 R R) (mp [] 0) R R) (Jl2 (f13.stp S19 R R) (mp [] 0) R R) (Jl2 (g0_1.stp (S3.tr (S7.tr (S9.tr S19))) R R) (mp [] 0) R R) (Jl2 (f17.mx (no_int _) m20 R (R:4+2=6)).rdc (mp [] 0) R R) hx17) ?_⟩
 rintro _ w26 ⟨k27,ao,am,aj,ak,rfl,e28,f29,f30⟩
 obtain⟨K31,S32,m33⟩:=Ji e28 7 R
 refine⟨((S19.tr S32).cl R),?_⟩
 have f36:=f30.mx (no_int _) m33 R (R:7+3=10)
 refine Jn 5 R (Jt1 (Jd (Jq (Je [2,2,2] R (Jn 1 R (Jf R (Je2 U22 R R) (Jb 1 R ?_)))))))
 have hN37:(x17.2.length:Int)≤9223372036854775807:=f36.len_le
 refine Ob h fun q2 hq39 hK38=>?_
 clear h
 refine Jx1 (fun L w'=>∃κ',∃s3:(List Int),L=[(3,.slice ab x11.length aa)]∧Stp [3] K31 w26 κ' w'∧Oc E6 2 κ' w' 3 ab aa s3∧x11.length=s3.length∧q2=Sum.inr s3) ?_ ?_
 refine Jv (Jy1 (fun k L w'=>∃κ' v22,∃s1:(List Int),L=[(3,.slice ab x11.length aa),(20,.slice aj x17.2.length ak),(21,vi (x17.2.length:Int)),(22,vi v22)]∧Stp [3] K31 w26 κ' w'∧Oc E6 2 κ' w' 3 ab aa s1∧x11.length=s1.length∧0≤v22∧Int.toNat ((x17.2.length:Int)-v22)=k∧cntM (i_winners_b0 x17) k v22 s1=some q2) ⟨_,_,⟨K31,0,(x11:(List Int)),R,(Jx2 _ _).wk R,(f8.stp (S9.tr (S19.tr S32)) R R),R,(by decide),(by simp),hq39⟩,(KM R)⟩ ?_)
 rintro k _ w45 ⟨K46,v22,s1,rfl,S47,f48,hn49,hj37,hJ37,h⟩
 rcases k with _ | k
 have hk51:=h;obtain⟨o37,h⟩:=ex_eq (Sum.inr (Sum.inl s1):(List Int)⊕(((List Int))⊕((List Int))))
 have hc37:decide (v22<(x17.2.length:Int))=false:=Jo2 (by omega)
 refine Je [2] R (Jb 1 R (Jq (Jw2 R hc37 (Jc1 (Jt (Jt ?_))))))
 cases h
 have h:=hk51
 refine Jb1 ?_
 cases h
 exact Jw1 _ ⟨K46,(s1:(List Int)),R,S47.wk R,f48,hn49,R⟩ (KM R)
 obtain⟨o37,h,hk51⟩:=BI h;unfold i_winners_b0 at h
 have hc37:decide (v22<(x17.2.length:Int))=true:=Jn2 (by omega)
 refine Je [2] R (Jb 1 R (Jq (Jv2 R hc37 (Js (Jp (Jq (Jv (Je [2,1,2] R (Ob h fun x24 hx24 h=>Jf R (Jf2 f36.rdc hx24 U22 Z2 R R R R) (Jl tv R R R R (Jc2 I2 R R (hvE ((f36.stp S47 R R).rdc.gInt hx24))) (Jb 1 R (Ja [2,2,2,1] R (Jn 2 R (Ob h fun x28 hx28 h=>Jf R (Jf2 f48.rdc hx28 U22 Z2 R R hn49 R) (Ob h fun y317 hy317 h=>Jk1 (κ:=K46) (E:=E6) 3 [] R R R R R R R R Z2 R R R R f48 hy317 fun w53 K54 S55 f56=>⟨tv,?_⟩)))))))))))))))
 have hn57:x11.length=y317.length:=hn49.trans (Jt2 hy317).2.2.2.symm
 refine Jo (Jz (Jp (Ja [2,2] R (Jc 2 R ?_))))
 have hw37:IntKind.wrap .i64 (v22+1)=v22+1:=wr1 hj37 (Jm2 hc37) hN37
 rw[hw37]
 have hc37:=Jm2 hc37
 cases h
 exact Jz1 fun a ha=>⟨k,_,Ja3 _,⟨K54,v22+1,(y317:(List Int)),R,(S47.tr S55).wk R,f56,hn57,by omega,by omega,hk51⟩,(ha.mm R)⟩
 rintro _ w40 ⟨K41,s3,rfl,S42,f43,hn44,rfl⟩
 have h:=hK38
 dsimp only[aft]at h
 refine Jp (Je [2,2] R (Jb 2 R (Ju (Ja2 (l:=[.tmp 2]) V61 (Jp2 R R) R ?_))))
 cases h
 exact⟨(fun b=>ren [(3,2)] (K41 b)),ab,aa,(by simp only[hn44]),((hE.stp (S3.tr (S7.tr (S9.tr (S19.tr (S32.tr S42))))) R R).map (ren [(3,2)]) R R),(f43.map (ren [(3,2)]) R R)⟩
theorem i_planFrom_ok {w:World}{κ:Col}{ak ai af al am ae}{p0:Parity}{a1 u1}{p1:(List Int)}{a2 u2}{p2:(List Int)}(g0_0_0:Rd (Rp.int .i64) κ w 0 ak ai p0.Arena.Owner) (g0_0_1:Rd (Rp.sl (Rp.int .i64)) κ w 0 af al p0.Arena.Next) (g0_1:Rd (Rp.int .i64) κ w 0 am ae p0.Prio) (g1:Rd (Rp.int .i64) κ w 0 a1 u1 p1) (g2:Rd (Rp.int .i64) κ w 0 a2 u2 p2){r:Answer}(h:i_planFrom p0 p1 p2=some r):Ret Tryz.prog 87 [.agg #[.slice ak p0.Arena.Owner.length ai,.slice af p0.Arena.Next.length al,.slice am p0.Prio.length ae],.slice a1 p1.length u1,.slice a2 p2.length u2] w (fun v w'=>∃(κ':Col) (ra0:Option Addr) (ru0:Nat) (ra1:Option Addr) (ru1:Nat),v= .agg #[.slice ra0 r.Won.length ru0,.slice ra1 r.Plan.length ru1]∧Ent κ w κ' w'∧Oc E6 2 κ' w' 2 ra0 ru0 r.Won∧Oc E6 2 κ' w' 3 ra1 ru1 r.Plan):=by
 unfold i_planFrom at h
 refine Ret.enter F87 R N87 R ?_
 dsimp only[envOf]
 have hE:=Ent.refl κ w
 refine Je [1,1] R (Jf1 (κ:=κ) 2 R R R R R R R fun b3 w1 K2 S3 f4=>⟨tv,Jg1 (κ:=K2) 3 R R R R R X34 R fun b6 w5 K6 S7 f8=>⟨tv,Jd (Je [1,2,1,2] R (Jo1 (κ:=K6) (E:=E6) 4 R R R R R Y22 Tryzinfo2 R fun av aq w9 K10 S11 f12=>⟨tv,Jn 1 R (Ob h fun x16 hx16 h=>Jm1 (κ:=K10) (E:=E6) 4 [] R R R R R R R R R Y22 Tryzinfo2 R R R R f12 (Sl.srcP (pu_int _) (g1.stp (S3.tr (S7.tr S11)) R R)) sy_false hx16 R fun ab aa w14 K15 S16 f17=>⟨tv,Jb 1 R (Jq (Je [2,2,2] R (Jn 1 R (Jf R (Je2 U22 R R) (Jb 1 R ?_)))))⟩)⟩))⟩⟩)
 have hN18:(x16.length:Int)≤9223372036854775807:=f17.len_le
 refine Ob h fun q2 hq20 hK19=>?_
 clear h
 refine Jx1 (fun L w'=>∃κ',∃s3:(List Int),L=[(2,.slice a2 p2.length u2),(6,.pointer (some ⟨b6,0,none⟩)),(7,.slice ab x16.length aa)]∧Stp [4] K15 w14 κ' w'∧Oc E6 2 κ' w' 4 ab aa s3∧x16.length=s3.length∧q2=Sum.inr s3) ?_ ?_
 refine Jv (Jy1 (fun k L w'=>∃κ' v19,∃s1:(List Int),L=[(2,.slice a2 p2.length u2),(3,.pointer (some ⟨b3,0,none⟩)),(6,.pointer (some ⟨b6,0,none⟩)),(7,.slice ab x16.length aa),(18,vi (x16.length:Int)),(19,vi v19)]∧Stp [4] K15 w14 κ' w'∧Oc E6 2 κ' w' 4 ab aa s1∧x16.length=s1.length∧0≤v19∧Int.toNat ((x16.length:Int)-v19)=k∧cntM (i_planFrom_b0 p0 p2) k v19 s1=some q2) ⟨_,_,⟨K15,0,(x16:(List Int)),R,(Jx2 _ _).wk R,f17,R,(by decide),(by simp),hq20⟩,(KM R)⟩ ?_)
 rintro k _ w26 ⟨K27,v19,s1,rfl,S28,f29,hn30,hj18,hJ18,h⟩
 rcases k with _ | k
 have hk31:=h;obtain⟨o18,h⟩:=ex_eq (Sum.inr (Sum.inl s1):Answer⊕(((List Int))⊕((List Int))))
 have hc18:decide (v19<(x16.length:Int))=false:=Jo2 (by omega)
 refine Je [2] R (Jb 1 R (Jq (Jw2 R hc18 (Jc1 (Jt (Jt ?_))))))
 cases h
 have h:=hk31
 refine Jb1 ?_
 cases h
 exact Jw1 _ ⟨K27,(s1:(List Int)),R,S28.wk R,f29,hn30,R⟩ (KM R)
 obtain⟨o18,h,hk31⟩:=BI h;unfold i_planFrom_b0 at h
 have hc18:decide (v19<(x16.length:Int))=true:=Jn2 (by omega)
 refine Je [2] R (Jb 1 R (Jq (Jv2 R hc18 (Js (Jp (Jq (Jv (Je [2,2] R (Jb 2 R (Jq (Jq (Js1 (κ:=K27) [0,2,4] none [(0,2),(1,2),(3,2),(6,2),(7,2),(8,2),(2,0),(4,2),(5,0),(9,0),(10,2),(11,2),(12,2),(13,2),(14,2),(15,0),(16,2),(17,2)] [] (by kernel_rfl) (by kernel_rfl) fun w33 S32=>Jf R (Jb2 U39 R Z37 R R) (Jf R (Jb2 U37 R Z22 R R) (Jn 3 R (Ob h fun x30 hx30 h=>Jf R (Jf2 g2 hx30 U22 Z2 R R R R) ?_)))))))))))))))
 have f34:=f4.stp (S7.tr (S11.tr (S16.tr (S28.tr S32)))) R R
 refine Jg R (Jc2 I22 R R (hvC (f34.ld 0 R R) R)) (Ob h fun x26 hx26 h=>Jf R (Jf2 g0_0_0 hx26 U22 Z2 R R R R) ?_)
 have f35:=g0_0_0.stp (S3.tr (S7.tr (S11.tr (S16.tr (S28.tr S32))))) R R
 refine Jg R (Jc2 I2 R R (hvC (f35.gInt hx26) R)) ?_
 have f36:=g2.stp (S3.tr (S7.tr (S11.tr (S16.tr (S28.tr S32))))) R R
 refine Jg R (Jc2 I2 R R (hvC (f36.gInt hx30) R)) (Jn 2 R (Ob h fun p39 h hK37=>Ju1 [(12,2),(13,2),(14,2),(15,0),(16,2),(17,2)] [] (fun L w'=>L=[(2,.slice a2 p2.length u2),(3,.pointer (some ⟨b3,0,none⟩)),(6,.pointer (some ⟨b6,0,none⟩)),(7,.slice ab x16.length aa),(8,vi v19),(18,vi (x16.length:Int)),(19,vi v19),(39,.bool p39)]∧∃κ',Stp [] K27 w33 κ' w') (Cl.refl _ _ _) ?_ ?_))
 revert h
 cases ht38:(x26 !=x30)
 refine JF fun h=>Jn 2 R (Ob h fun x36 hx36 h=>Jf R (Jf2 f29.rdc hx36 U22 Z2 R R hn30 R) (Jg R (Jc2 I2 R R (hvC ((f29.stp S32 R R).rdc.gInt hx36) R)) (Jn 2 R ?_)))
 cases h
 exact Jv1 _ (Cl.refl _ _ _) ⟨R,_,(Jx2 _ _).wk R⟩ (KM R)
 refine JT fun h=>Jn 3 R (Je1 R R R R (Jn 2 R ?_))
 cases h
 exact Jv1 _ (Cl.refl _ _ _) ⟨R,_,(Jx2 _ _).wk R⟩ (KM R)
 rintro _ w40 _ ⟨rfl,K41,S42⟩
 have h:=hK37
 refine Jt1 (Jd ?_)
 revert h
 cases ht43:p39
 refine JF fun h=>Jy R (Js (Jp (Je [2,2,2,2,2,1,1,2] R (Jn 1 R (Jf R (rn_build (parts:=[(0,.tmp 40)]) (cells:=[.slice a2 p2.length u2,.slice none 0 0]) R R (by kernel_rfl)) (Jn 2 R (Ob h fun x44 hx44 h=>Jf R (Jf2 f36 hx44 U22 Z2 R R R R) ?_)))))))
 have f45:=f36.stp S42 R R
 refine Jl tv R R R R (Jc2 I2 R R (hvE (f45.gInt hx44))) (Ob h fun x46 hx46 h=>Jh R R R C82 (i_RegionOf_ok (κ:=fun b=>mp [] 0 (K41 b)) (p0:=(⟨p2,([]:List Int)⟩:Answer)) (Jl2 f45 (mp [] 0) R R) Sl.nil hx46) ?_)
 rintro _ w46 ⟨k47,ad,ac,rfl,e48,f49⟩
 obtain⟨K50,S51,m52⟩:=Ji e48 5 R
 refine⟨tv,Jb 1 R (Je [2,2,1,2,2,1,2,2] R (Jf R (Jb2 U39 R Z37 R R) (Jf R (Jb2 U37 R Z23 R R) ?_)))⟩
 have f55:=f34.stp (S42.tr S51) R R
 refine Jl tv R R R R (Jc2 I23 R R (hvE (f55.ld 1 R R))) (Jn 1 R (Ob h fun x51 hx51 h=>Jf R (Jf2 g0_0_1 hx51 U23 Z22 R R R R) ?_))
 have f56:=g0_0_1.stp (S3.tr (S7.tr (S11.tr (S16.tr (S28.tr (S32.tr (S42.tr S51))))))) R R
 obtain⟨ax51,ux51,f57,hl58⟩:=f56.gSl hx51
 refine Jl tv R R R R (Jc2 I22 R R (hvE hl58)) (Jf R (Je2 U22 R R) (Jb 1 R ?_))
 have hN59:(x51.length:Int)≤9223372036854775807:=f57.len_le
 refine Ob h fun q5 hq61 hK60=>?_
 clear h
 refine Jx1 (fun L w'=>∃κ',∃s6:(List Int),L=[(2,.slice a2 p2.length u2),(3,.pointer (some ⟨b3,0,none⟩)),(6,.pointer (some ⟨b6,0,none⟩)),(7,.slice ab x16.length aa),(18,vi (x16.length:Int)),(19,vi v19)]∧Stp [4] K50 w46 κ' w'∧Oc E6 2 κ' w' 4 ab aa s6∧x16.length=s6.length∧q5=Sum.inr s6) ?_ ?_
 refine Jv (Jy1 (fun k L w'=>∃κ' v54,∃s4:(List Int),L=[(2,.slice a2 p2.length u2),(3,.pointer (some ⟨b3,0,none⟩)),(6,.pointer (some ⟨b6,0,none⟩)),(7,.slice ab x16.length aa),(8,vi v19),(9,.slice ad x46.length ac),(18,vi (x16.length:Int)),(19,vi v19),(52,.slice ax51 x51.length ux51),(53,vi (x51.length:Int)),(54,vi v54)]∧Stp [4] K50 w46 κ' w'∧Oc E6 2 κ' w' 4 ab aa s4∧x16.length=s4.length∧0≤v54∧Int.toNat ((x51.length:Int)-v54)=k∧cntM (i_planFrom_b2 p0 p2 v19 x46 x51) k v54 s4=some q5) ⟨_,_,⟨K50,0,(s1:(List Int)),R,(Jx2 _ _).wk R,(f29.stp (S32.tr (S42.tr S51)) R R),hn30,(by decide),(by simp),hq61⟩,(KM R)⟩ ?_)
 rintro k _ w67 ⟨K68,v54,s4,rfl,S69,f70,hn71,hj59,hJ59,h⟩
 rcases k with _ | k
 have hk73:=h;obtain⟨o59,h⟩:=ex_eq (Sum.inr (Sum.inl s4):Answer⊕(((List Int))⊕((List Int))))
 have hc59:decide (v54<(x51.length:Int))=false:=Jo2 (by omega)
 refine Je [2] R (Jb 1 R (Jq (Jw2 R hc59 (Jc1 (Jt (Jt ?_))))))
 cases h
 have h:=hk73
 refine Jb1 ?_
 cases h
 exact Jw1 _ ⟨K68,(s4:(List Int)),R,S69.wk R,f70,hn71,R⟩ (KM R)
 obtain⟨o59,h,hk73⟩:=BI h;unfold i_planFrom_b2 at h
 have hc59:decide (v54<(x51.length:Int))=true:=Jn2 (by omega)
 refine Je [2] R (Jb 1 R (Jq (Jv2 R hc59 (Js (Jp (Jq (Jv (Je [2,1,2] R (Ob h fun x56 hx56 h=>Jf R (Jf2 f57 hx56 U22 Z2 R R R R) (Jl tv R R R R (Jc2 I2 R R (hvE ((f57.stp S69 R R).gInt hx56))) (Jb 1 R (Jq (Jq (Js1 (κ:=K68) [0] none [(0,2),(1,2),(2,2),(4,2),(5,2),(6,2),(3,0),(7,0),(8,2)] [] (by kernel_rfl) (by kernel_rfl) fun w76 S75=>Jn 2 R (Ob h fun x60 hx60 h=>Jf R (Jf2 f45 hx60 U22 Z2 R R R R) (Jn 2 R (Ob h fun x64 hx64 h=>Jf R (Jf2 f45 hx64 U22 Z2 R R R R) ?_)))))))))))))))))
 have f77:=f45.stp (S51.tr (S69.tr S75)) R R
 refine Jg R (Jc2 I2 R R (hvC (f77.gInt hx60) R)) (Jg R (Jc2 I2 R R (hvC (f77.gInt hx64) R)) (Jn 1 R (Jt1 (Jd ?_))))
 revert h
 cases ht78:(x60 !=x64)
 refine JF fun h=>Jy R (Js (Jp (Je [2,2,2,2,1] R (Jn 3 R (Ob h fun x70 hx70 h=>Jf R (Jf2 f70.rdc hx70 U22 Z2 R R hn71 R) (Ob h fun y321 hy321 h=>Jk1 (κ:=K68) (E:=E6) 4 [] R R R R R R R R Z2 R R R R (f70.stp S75 R R) hy321 fun w81 K82 S83 f84=>⟨tv,?_⟩))))))
 have hn85:x16.length=y321.length:=hn71.trans (Jt2 hy321).2.2.2.symm
 refine Jd (Je [1,2,1,2,1,2,2,2,2,2] R (Jl tv R R R R (Jd2 (cs:=[.slice ak p0.Arena.Owner.length ai,.slice af p0.Arena.Next.length al,.slice am p0.Prio.length ae]) I39 Z39 R R R (haE (f55.stp (S69.tr (S75.tr S83)) R R).cells)) (Jn 1 R (Ob h fun x74 hx74 h=>Jh R R R C119 (Ret.cast (by simp only[hn85,List.cons_append,List.nil_append]) (i_onlyBy_ok (κ:=fun b=>mp [] 0 (K82 b)) (p0:=p0) (Jl2 (f35.stp (S42.tr (S51.tr (S69.tr (S75.tr S83)))) R R) (mp [] 0) R R) (Jl2 (f56.stp (S69.tr (S75.tr S83)) R R) (mp [] 0) R R) (Jl2 (g0_1.stp (S3.tr (S7.tr (S11.tr (S16.tr (S28.tr (S32.tr (S42.tr (S51.tr (S69.tr (S75.tr S83)))))))))) R R) (mp [] 0) R R) (Jl2 f84.rdc (mp [] 0) R R) hx74)) ?_))))
 rintro _ w90 ⟨k91,au,ay,aB,ax,az,aC,rfl,e92,f93,f94,f95⟩
 obtain⟨K96,S97,m98⟩:=Ji e92 8 R
 refine⟨tv,Jn 1 R (Ob h fun x76 hx76 h=>Jh R R R C101 (i_wonIn_ok (κ:=fun b=>mp [] 0 (K96 b)) (p0:=x74) (Jl2 (f93.mx (no_int _) m98 R (R:8+2=10)).rdc (mp [] 0) R R) (Jl2 (f94.mx (no_own (no_int _) _) m98 R (R:8+3=11)).rdc (mp [] 0) R R) (Jl2 (f95.mx (no_int _) m98 R (R:8+4=12)).rdc (mp [] 0) R R) (Jl2 ((f49.mx (no_int _) m52 R (R:5+2=7)).stp (S69.tr (S75.tr (S83.tr S97))) R R).rdc (mp [] 0) R R) hx76) ?_)⟩
 rintro _ w104 ⟨k105,an,ao,aA,aw,rfl,e106,f107,f108⟩
 obtain⟨K109,S110,m111⟩:=Ji e106 13 R
 refine⟨tv,Jb 5 R (Jq (Je [2,2,2,1,2,2,2,2,2,2,2,2,2,2,1,2,2,2,2,2,2,2] R (Jn 2 R (Ob h fun x81 hx81 h=>Jf R (Jf2 f77 hx81 U22 Z2 R R R R) ?_))))⟩
 have f115:=f77.stp (S83.tr (S97.tr S110)) R R
 refine Jl tv R R R R (Jc2 I2 R R (hvE (f115.gInt hx81))) (Jn 2 R (Ob h fun p88 h hK116=>Ju1 [(6,2),(7,2),(8,2),(9,2)] [(10,2),(11,2),(12,2),(13,2),(14,1),(15,2),(16,2),(17,2),(18,2),(19,2),(20,2),(21,2)] (fun L w'=>L=[(2,.slice a2 p2.length u2),(3,.pointer (some ⟨b3,0,none⟩)),(6,.pointer (some ⟨b6,0,none⟩)),(7,.slice ab x16.length aa),(8,vi v19),(9,.slice ad x46.length ac),(12,.slice an x76.1.length ao),(18,vi (x16.length:Int)),(19,vi v19),(52,.slice ax51 x51.length ux51),(53,vi (x51.length:Int)),(54,vi v54),(88,.bool p88)]∧∃κ',Stp [] K109 w104 κ' w') tv ?_ ?_))
 revert h
 cases ht117:(x81==0)
 refine JF fun h=>Jn 4 R ?_
 cases h
 exact Jv1 _ tv ⟨R,_,(Jx2 _ _).wk R⟩ (KM R)
 refine JT fun h=>Jn 1 R (Jf R (Je2 U22 R R) (Jn 2 R ?_))
 cases h
 exact Jv1 _ tv ⟨R,_,(Jx2 _ _).wk R⟩ (KM R)
 rintro _ w118 _ ⟨rfl,K119,S120⟩
 have h:=hK116
 refine Jn 1 R (Ob h fun p100 h hK121=>Ju1 [(11,2),(12,2),(13,2),(14,1),(15,2),(16,2),(17,2),(18,2),(19,2),(20,2),(21,2)] [] (fun L w'=>L=[(2,.slice a2 p2.length u2),(3,.pointer (some ⟨b3,0,none⟩)),(6,.pointer (some ⟨b6,0,none⟩)),(7,.slice ab x16.length aa),(8,vi v19),(9,.slice ad x46.length ac),(18,vi (x16.length:Int)),(19,vi v19),(52,.slice ax51 x51.length ux51),(53,vi (x51.length:Int)),(54,vi v54),(100,.bool p100)]∧∃κ',Stp [] K119 w118 κ' w') tv ?_ ?_)
 revert h
 cases ht122:p88
 refine JF fun h=>Jn 2 R (Ob h fun x92 hx92 h=>Jf R (Jf2 f115 hx92 U22 Z2 R R R R) (Jl tv R R R R (Jc2 I2 R R (hvE ((f115.stp S120 R R).gInt hx92))) (Jn 2 R (Ob h fun p99 h hK124=>Ju1 [(17,2),(18,2),(19,2),(20,2)] [(21,2)] (fun L w'=>L=[(2,.slice a2 p2.length u2),(3,.pointer (some ⟨b3,0,none⟩)),(6,.pointer (some ⟨b6,0,none⟩)),(7,.slice ab x16.length aa),(8,vi v19),(9,.slice ad x46.length ac),(18,vi (x16.length:Int)),(19,vi v19),(52,.slice ax51 x51.length ux51),(53,vi (x51.length:Int)),(54,vi v54),(89,.bool false),(90,.slice a2 p2.length u2),(91,vi v19),(92,.pointer (some (aAt a2 (v19.toNat * 1)))),(93,vi x92),(94,.bool (x92==1)),(95,.bool (x92==1)),(99,.bool p99)]∧∃κ',Stp [] K119 w118 κ' w') tv ?_ ?_))))
 revert h
 cases ht125:(x92==1)
 refine JF fun h=>Jn 4 R ?_
 cases h
 exact Jv1 _ tv ⟨R,_,(Jx2 _ _).wk R⟩ (KM R)
 refine JT fun h=>Jn 1 R (Jf R (Je2 U22 R R) (Jn 2 R ?_))
 cases h
 exact Jv1 _ tv ⟨R,_,(Jx2 _ _).wk R⟩ (KM R)
 rintro _ w126 _ ⟨rfl,K127,S128⟩
 have h:=hK124
 refine Jn 1 R ?_
 cases h
 exact Jv1 _ tv ⟨R,_,S128.wk R⟩ (KM R)
 refine JT fun h=>Jn 3 R (Jd1 R R R R (Jn 7 R ?_))
 cases h
 exact Jv1 _ tv ⟨R,_,(Jx2 _ _).wk R⟩ (KM R)
 rintro _ w129 _ ⟨rfl,K130,S131⟩
 have h:=hK121
 refine Jd ?_
 revert h
 cases ht132:p100
 refine JF fun h=>Jy R (Js (Jp (Ja [2,2,2,1] R (Jn 2 R (Ob h fun x103 hx103 h=>Jf R (Jf2 f84.rdc hx103 U22 Z2 R R hn85 R) (Ob h fun y326 hy326 h=>Jk1 (κ:=K130) (E:=E6) 4 [] R R R R R R R R Z2 R R R R (f84.stp (S97.tr (S110.tr (S120.tr S131))) R R) hy326 fun w135 K136 S137 f138=>⟨tv,?_⟩))))))
 have hn139:x16.length=y326.length:=hn85.trans (Jt2 hy326).2.2.2.symm
 refine Jo (Jz (Jp (Ja [2,2] R (Jc 2 R ?_))))
 have hw59:IntKind.wrap .i64 (v54+1)=v54+1:=wr1 hj59 (Jm2 hc59) hN59
 rw[hw59]
 have hc59:=Jm2 hc59
 cases h
 exact Jz1 fun a ha=>⟨k,_,Ja3 _,⟨K136,v54+1,(y326:(List Int)),R,(S69.tr (S75.tr (S83.tr (S97.tr (S110.tr (S120.tr (S131.tr S137))))))).wk R,f138,hn139,by omega,by omega,hk73⟩,(ha.mm R)⟩
 refine JT fun h=>Jx R (Jc1 (Jt (Jz2 R (Jt (Jt ?_)))))
 cases h
 have h:=hk73
 refine Jb1 ?_
 cases h
 exact Jw1 _ ⟨K130,(y321:(List Int)),R,(S69.tr (S75.tr (S83.tr (S97.tr (S110.tr (S120.tr S131)))))).wk R,(f84.stp (S97.tr (S110.tr (S120.tr S131))) R R),hn85,R⟩ (KM R)
 refine JT fun h=>Jx R (Jc1 (Jt (Jb1 (Jp (Ja [2,2] R (Jc 2 R ?_))))))
 have hw59:IntKind.wrap .i64 (v54+1)=v54+1:=wr1 hj59 (Jm2 hc59) hN59
 rw[hw59]
 have hc59:=Jm2 hc59
 cases h
 exact Jz1 fun a ha=>⟨k,_,Ja3 _,⟨K68,v54+1,(s4:(List Int)),R,(S69.tr S75).wk R,(f70.stp S75 R R),hn71,by omega,by omega,hk73⟩,(ha.mm R)⟩
 rintro _ w62 ⟨K63,s6,rfl,S64,f65,hn66,rfl⟩
 have h:=hK60
 dsimp only[aft]at h
 refine Jz (Jp (Ja [2,2] R (Jc 2 R ?_)))
 have hw18:IntKind.wrap .i64 (v19+1)=v19+1:=wr1 hj18 (Jm2 hc18) hN18
 rw[hw18]
 have hc18:=Jm2 hc18
 cases h
 exact Jz1 fun a ha=>⟨k,_,Ja3 _,⟨K63,v19+1,(s6:(List Int)),R,(S28.tr (S32.tr (S42.tr (S51.tr S64)))).wk R,f65,hn66,by omega,by omega,hk31⟩,(ha.mm R)⟩
 refine JT fun h=>Jx R (Jc1 (Jt (Jb1 (Jp (Ja [2,2] R (Jc 2 R ?_))))))
 have hw18:IntKind.wrap .i64 (v19+1)=v19+1:=wr1 hj18 (Jm2 hc18) hN18
 rw[hw18]
 have hc18:=Jm2 hc18
 cases h
 exact Jz1 fun a ha=>⟨k,_,Ja3 _,⟨K41,v19+1,(s1:(List Int)),R,(S28.tr (S32.tr S42)).wk R,(f29.stp (S32.tr S42) R R),hn30,by omega,by omega,hk31⟩,(ha.mm R)⟩
 rintro _ w21 ⟨K22,s3,rfl,S23,f24,hn25,rfl⟩
 have h:=hK19
 dsimp only[aft]at h
 refine Jp (Je [1,2,1,2,2,1] R (Jo1 (κ:=K22) (E:=E6) 5 R R R R R Y22 Tryzinfo2 R fun ap ar w140 K141 S142 f143=>⟨tv,Jn 1 R (Ob h fun x108 hx108 h=>Jm1 (κ:=K141) (E:=E6) 5 [] R R R R R R R R R Y22 Tryzinfo2 R R R R f143 (Sl.srcP (pu_int _) (g2.stp (S3.tr (S7.tr (S11.tr (S16.tr (S23.tr S142))))) R R)) sy_false hx108 R fun aj ah w145 K146 S147 f148=>⟨tv,Jn 1 R (Jf R (rn_build (parts:=[(0,.tmp 108),(1,.tmp 109)]) (cells:=[.slice aj x108.length ah,.slice ab x16.length aa]) R R (by kernel_rfl)) (Jj1 (κ:=K146) 3 (vc:=[.slice aj x108.length ah,.slice ab x16.length aa]) R R R R R R R Z34 R R (f8.stp (S11.tr (S16.tr (S23.tr (S142.tr S147)))) R R) R fun w150 S151 f152=>⟨tv,Jd (Ju (Ja2 (l:=[.cell 6 34]) V87 (res_cellA R f152 I34 Z34 R R) R ?_))⟩))⟩)⟩))
 cases h
 exact⟨(fun b=>ren [(5,2),(4,3)] (K146 b)),aj,ah,ab,aa,(by simp only[hn25]),((hE.stp (S3.tr (S7.tr (S11.tr (S16.tr (S23.tr (S142.tr (S147.tr S151))))))) R R).map (ren [(5,2),(4,3)]) R R),((f148.stp S151 R R).map (ren [(5,2),(4,3)]) R R),((f24.stp (S142.tr (S147.tr S151)) R R).map (ren [(5,2),(4,3)]) R R)⟩
theorem s_PlanOk_ok {w:World}{κ:Col}{ad aa ab ac}{p0:Arena}{p1:Int}{a2 u2}{p2:(List Int)}(g0_0:Rd (Rp.int .i64) κ w 0 ad aa p0.Owner) (g0_1:Rd (Rp.sl (Rp.int .i64)) κ w 0 ab ac p0.Next) (g2:Rd (Rp.int .i64) κ w 0 a2 u2 p2){r:Bool}(h:s_PlanOk p0 p1 p2=some r):Ret Tryz.prog 135 [.agg #[.slice ad p0.Owner.length aa,.slice ab p0.Next.length ac],vi p1,.slice a2 p2.length u2] w (fun v w'=>∃(κ':Col),v= .bool r∧Ent κ w κ' w'):=by
 unfold s_PlanOk at h
 refine Ret.enter F135 R N135 R ?_
 dsimp only[envOf]
 have hE:=Ent.refl κ w
 refine Je [1,2] R (Jf1 (κ:=κ) 2 R R R R R R R fun b3 w1 K2 S3 f4=>⟨tv,Jb 1 R (Je [1,1,2,2,1,2,2,1,2,2,1,2,2] R (Jl tv R R R R (Jd2 (cs:=[.slice ad p0.Owner.length aa,.slice ab p0.Next.length ac]) I37 Z37 R R R (haE f4.cells)) (Ob h fun x8 hx8 h=>?_)))⟩)
 have f5:=g0_0.stp S3 R R
 have f6:=g0_1.stp S3 R R
 refine Jh R R R C95 (s_ArenaOk_ok (κ:=fun b=>mp [] 0 (K2 b)) (p0:=p0) (Jl2 f5 (mp [] 0) R R) (Jl2 f6 (mp [] 0) R R) hx8) ?_
 rintro _ w7 ⟨k8,rfl,e9⟩
 obtain⟨K10,S11,m12⟩:=Ji e9 3 R
 refine⟨tv,Jn 1 R (Ob h fun p12 h hK14=>Ju1 [(3,2),(4,1),(5,2)] [(6,2),(7,1),(8,2),(9,2),(10,1),(11,2),(12,2)] (fun L w'=>L=[(1,vi p1),(2,.slice a2 p2.length u2),(3,.pointer (some ⟨b3,0,none⟩)),(6,.bool false),(12,.bool p12)]∧∃κ',Stp [] K10 w7 κ' w') tv ?_ ?_)⟩
 revert h
 cases ht15:x8
 refine JF fun h=>Jn 1 R (Jd1 R R R R (Jn 1 R ?_))
 cases h
 exact Jv1 _ tv ⟨R,_,(Jx2 _ _).wk R⟩ (KM R)
 refine JT fun h=>Jn 1 R (Ob h fun x11 hx11 h=>Jh R R R C75 (s_l1In_ok (κ:=fun b=>mp [] 0 (K10 b)) hx11) ?_)
 rintro _ w16 ⟨k17,rfl,e18⟩
 obtain⟨K19,S20,m21⟩:=Ji e18 5 R
 refine⟨tv,Jn 1 R ?_⟩
 cases h
 exact Jv1 _ tv ⟨R,_,S20.wk R⟩ (KM R)
 rintro _ w23 _ ⟨rfl,K24,S25⟩
 have h:=hK14
 refine Jn 1 R (Ob h fun p18 h hK26=>Ju1 [(7,1),(8,2),(9,2),(10,1),(11,2)] [(12,2)] (fun L w'=>L=[(6,.bool false),(18,.bool p18)]∧∃κ',Stp [] K24 w23 κ' w') tv ?_ ?_)
 revert h
 cases ht27:p12
 refine JF fun h=>Jd1 R R R R (Jn 2 R (Jd1 R R R R (Jn 1 R ?_)))
 cases h
 exact Jv1 _ tv ⟨R,_,(Jx2 _ _).wk R⟩ (KM R)
 refine JT fun h=>Jl tv R R R R (Jd2 (cs:=[.slice ad p0.Owner.length aa,.slice ab p0.Next.length ac]) I37 Z37 R R R (haE (f4.stp (S11.tr S25) R R).cells)) (Jn 2 R (Ob h fun x17 hx17 h=>Jh R R R C158 (s_l5Plan_ok (κ:=fun b=>mp [] 0 (K24 b)) (p0:=p0) (Jl2 (f5.stp (S11.tr S25) R R) (mp [] 0) R R) (Jl2 (f6.stp (S11.tr S25) R R) (mp [] 0) R R) (Jl2 (g2.stp (S3.tr (S11.tr S25)) R R) (mp [] 0) R R) hx17) ?_))
 rintro _ w32 ⟨k33,rfl,e34⟩
 obtain⟨K35,S36,m37⟩:=Ji e34 5 R
 refine⟨tv,Jn 1 R ?_⟩
 cases h
 exact Jv1 _ tv ⟨R,_,S36.wk R⟩ (KM R)
 rintro _ w39 _ ⟨rfl,K40,S41⟩
 have h:=hK26
 refine Jb 1 R (Ju (Ja2 (l:=[.tmp 6]) V135 (Jp2 R R) R ?_))
 cases h
 exact⟨K40,R,(hE.stp (S3.tr (S11.tr (S25.tr S41))) R R)⟩
theorem s_l2Both_ok {w:World}{κ:Col}{a0 u0}{p0:(List Int)}{a1 u1}{p1:(List Int)}(g0:Rd (Rp.int .i64) κ w 0 a0 u0 p0) (g1:Rd (Rp.int .i64) κ w 0 a1 u1 p1){r:Bool}(h:s_l2Both p0 p1=some r):Ret Tryz.prog 66 [.slice a0 p0.length u0,.slice a1 p1.length u1] w (fun v w'=>∃(κ':Col),v= .bool r∧Ent κ w κ' w'):=by
 unfold s_l2Both at h
 refine Ret.enter F66 R N66 R ?_
 dsimp only[envOf]
 have hE:=Ent.refl κ w
 refine Je [2] R (Jb 1 R (Je [2,1,2,2,1,2,2] R (Jn 1 R (Ob h fun x6 hx6 h=>Jh R R R C106 (s_SetOk_ok (κ:=fun b=>mp [] 0 (κ b)) (Jl2 g0 (mp [] 0) R R) hx6) ?_))))
 rintro _ w1 ⟨k2,rfl,e3⟩
 obtain⟨K4,S5,m6⟩:=Ji e3 2 R
 refine⟨tv,Jn 1 R (Ob h fun p10 h hK8=>Ju1 [(3,2),(4,1),(5,2)] [(6,2)] (fun L w'=>L=[(4,.bool false),(10,.bool p10)]∧∃κ',Stp [] K4 w1 κ' w') tv ?_ ?_)⟩
 revert h
 cases ht9:x6
 refine JF fun h=>Jn 1 R (Jd1 R R R R (Jn 1 R ?_))
 cases h
 exact Jv1 _ tv ⟨R,_,(Jx2 _ _).wk R⟩ (KM R)
 refine JT fun h=>Jn 1 R (Ob h fun x9 hx9 h=>Jh R R R C106 (s_SetOk_ok (κ:=fun b=>mp [] 0 (K4 b)) (Jl2 (g1.stp S5 R R) (mp [] 0) R R) hx9) ?_)
 rintro _ w11 ⟨k12,rfl,e13⟩
 obtain⟨K14,S15,m16⟩:=Ji e13 4 R
 refine⟨tv,Jn 1 R ?_⟩
 cases h
 exact Jv1 _ tv ⟨R,_,S15.wk R⟩ (KM R)
 rintro _ w18 _ ⟨rfl,K19,S20⟩
 have h:=hK8
 refine Jb 1 R (Ju (Ja2 (l:=[.tmp 4]) V66 (Jp2 R R) R ?_))
 cases h
 exact⟨K19,R,(hE.stp (S5.tr S20) R R)⟩
end Go.Proofs.YtmiilifclnanlaaGreat
