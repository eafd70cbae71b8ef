/- The walks, part 14. By program. -/
import Derived.Test.YtmiilifclnanlaaGreatFns12ED
import Derived.Test.YtmiilifclnanlaaGreatFns13ED
set_option linter.unusedVariables false
set_option linter.unusedSimpArgs false
namespace Go.Proofs.YtmiilifclnanlaaGreat
open Go Go.Wk Go.Proofs
set_option maxRecDepth 100000
set_option maxHeartbeats 1000000
theorem s_DrawEditedAll_ok {w:World}{κ:Col}{a0 u0}{p0:(List Int)}(g0:Rd (Rp.int .u8) κ w 0 a0 u0 p0){r:Parity×(List Edit)}(h:s_DrawEditedAll p0=some r):Ret Tryz.prog 31 [.slice a0 p0.length u0] w (fun v w'=>∃(κ':Col) (ra0:Option Addr) (ru0:Nat) (ra1:Option Addr) (ru1:Nat) (ra2:Option Addr) (ru2:Nat) (ra3:Option Addr) (ru3:Nat),v= .tuple #[.agg #[.slice ra0 r.1.Arena.Owner.length ru0,.slice ra1 r.1.Arena.Next.length ru1,.slice ra2 r.1.Prio.length ru2],.slice ra3 r.2.length ru3]∧Ent κ w κ' w'∧Rd (Rp.int .i64) κ' w' 0 ra0 ru0 r.1.Arena.Owner∧Rd (Rp.sl (Rp.int .i64)) κ' w' 0 ra1 ru1 r.1.Arena.Next∧Rd (Rp.int .i64) κ' w' 0 ra2 ru2 r.1.Prio∧Oc Edit.ep42 42 κ' w' 5 ra3 ru3 r.2):=by
 unfold s_DrawEditedAll at h
 refine Ret.enter F31 R N31 R ?_
 dsimp only[envOf]
 have hE:=Ent.refl κ w
 refine Je [1,2] R (Jg1 (κ:=κ) 2 R R R R R X39 R fun b2 w1 K2 S3 f4=>⟨tv,Jb 1 R (Je [2,1,2] R (Jn 1 R (Ob h fun x11 hx11 h=>Jh R R R C52 (s_l1New_ok (κ:=fun b=>mp [] 1 (K2 b)) (Jl2 (g0.stp S3 R R) (mp [] 1) R R) hx11) ?_)))⟩)
 rintro _ w6 ⟨k7,aQ,aM,b11,rfl,e8,f9,f10⟩
 obtain⟨K11,S12,m13,z14⟩:=Jj e8 3 R
 refine⟨tv,?_⟩
 have f15:=f9.mx z14
 refine Jb 1 R (Je [2,1,1,1] R (Jn 1 R (Ob h fun x13 hx13 h=>Jh R R R C68 (s_l4DrawAny_ok (κ:=fun b=>mp [(6,2)] 0 (K11 b)) (p0:=x11) (Jl2 f15 (mp [(6,2)] 0) R R) ((f10.mx m13 R (R:3+3=6)).map (mp [(6,2)] 0) R R) hx13) ?_)))
 rintro _ w17 ⟨k18,am,al,ah,aj,ai,ak,rfl,e19,f20,f21,f22,f23⟩
 obtain⟨K24,S25,m26⟩:=Ji e19 7 R
 refine⟨tv,Jg1 (κ:=K24) 13 R R R R R X39 R fun b5 w32 K33 S34 f35=>⟨tv,Jj1 (κ:=K33) 13 (vc:=[.slice am x13.1.Arena.Owner.length al,.slice ah x13.1.Arena.Next.length aj,.slice ai x13.1.Prio.length ak]) R R R R R R R Z39 R R f35 R fun w36 S37 f38=>⟨tv,Jd (Je [1,2] R (Jo1 (κ:=K33) (E:=Edit.ep42) 14 R R R R R Y62 Tryzinfo42 R fun aU aR w39 K40 S41 f42=>⟨tv,Jb 1 R (Je [1,1,1] R ?_)⟩))⟩⟩⟩
 have f43:=f38.stp S41 R R
 refine Jl tv R R R R (Jd2 (cs:=[.slice am x13.1.Arena.Owner.length al,.slice ah x13.1.Arena.Next.length aj,.slice ai x13.1.Prio.length ak]) I39 Z39 R R R (haE f43.cells)) (Jg1 (κ:=K40) 15 R R R R R X39 R fun b7 w44 K45 S46 f47=>⟨tv,Jj1 (κ:=K45) 15 (vc:=[.slice am x13.1.Arena.Owner.length al,.slice ah x13.1.Arena.Next.length aj,.slice ai x13.1.Prio.length ak]) R R R R R R R Z39 R R f47 R fun w48 S49 f50=>⟨tv,Jd (Jq (Je [2,1,2] R (Jn 1 R (Ob h fun x17 hx17 h=>?_))))⟩⟩)
 have f51:=f15.stp (S25.tr (S34.tr (S37.tr (S41.tr (S46.tr S49))))) R R
 refine Jh R R R C69 (s_l1Below_ok (κ:=fun b=>mp [(9,2)] 0 (K45 b)) (p0:=(⟨x11.b,x13.2.1,x13.2.2⟩:l1Cur)) (Jl2 f51 (mp [(9,2)] 0) R R) (((f23.mx m26 R (R:7+2=9)).stp (S34.tr (S37.tr (S41.tr (S46.tr S49)))) R R).map (mp [(9,2)] 0) R R) hx17) ?_
 rintro _ w53 ⟨k54,rfl,e55,f56⟩
 obtain⟨K57,S58,m59⟩:=Ji e55 16 R
 refine⟨tv,Jb 1 R ?_⟩
 obtain⟨K64,S65,z66⟩:=fz_ex K57 w53 10
 have f67:=Sl.st z66 ((f20.mx (no_int _) m26 R (R:7+3=10)).stp (S34.tr (S37.tr (S41.tr (S46.tr (S49.tr S58))))) R R).rdc
 obtain⟨K70,S71,z72⟩:=fz_ex K64 w53 11
 have f73:=Sl.st z72 ((f21.mx (no_own (no_int _) _) m26 R (R:7+4=11)).stp (S34.tr (S37.tr (S41.tr (S46.tr (S49.tr (S58.tr S65)))))) R R).rdc
 obtain⟨K76,S77,z78⟩:=fz_ex K70 w53 12
 have f79:=Sl.st z78 ((f22.mx (no_int _) m26 R (R:7+5=12)).stp (S34.tr (S37.tr (S41.tr (S46.tr (S49.tr (S58.tr (S65.tr S71))))))) R R).rdc
 refine Ob h fun q2 hq82 hK81=>?_
 clear h
 refine Jx1 (fun L w'=>∃κ',∃s3:(List Edit)×Int×(List Int)×(List (List Int))×(List Int)×Int×Int,∃ax ao aB aC aG aE aF aD,L=[(2,.pointer (some ⟨b2,0,none⟩)),(4,.pointer (some ⟨b11,0,none⟩)),(5,.pointer (some ⟨b5,0,none⟩)),(6,.slice ax s3.1.length ao)]∧Stp [14,15,18,21,22,28,29,30] K76 w53 κ' w'∧Oc Edit.ep42 42 κ' w' 14 ax ao s3.1∧Rd (Rp.int .i64) κ' w' 0 aB aC s3.2.2.1∧Rd (Rp.sl (Rp.int .i64)) κ' w' 0 aG aE s3.2.2.2.1∧Rd (Rp.int .i64) κ' w' 0 aF aD s3.2.2.2.2.1∧Bc κ' w' 18 b11 107 [.slice aQ x11.b.length aM,vi s3.2.2.2.2.2.1,vi s3.2.2.2.2.2.2]∧Bc κ' w' 15 b7 39 [.slice aB s3.2.2.1.length aC,.slice aG s3.2.2.2.1.length aE,.slice aF s3.2.2.2.2.1.length aD]∧q2=Sum.inr s3) ?_ ?_
 refine Jv (Jy1 (fun k L w'=>∃κ',∃s1:(List Edit)×Int×(List Int)×(List (List Int))×(List Int)×Int×Int,∃an az ac aa ae ad ab af,L=[(2,.pointer (some ⟨b2,0,none⟩)),(4,.pointer (some ⟨b11,0,none⟩)),(5,.pointer (some ⟨b5,0,none⟩)),(6,.slice an s1.1.length az),(7,.pointer (some ⟨b7,0,none⟩)),(8,vi s1.2.1)]∧Stp [14,15,18,21,22,28,29,30] K76 w53 κ' w'∧Oc Edit.ep42 42 κ' w' 14 an az s1.1∧Rd (Rp.int .i64) κ' w' 0 ac aa s1.2.2.1∧Rd (Rp.sl (Rp.int .i64)) κ' w' 0 ae ad s1.2.2.2.1∧Rd (Rp.int .i64) κ' w' 0 ab af s1.2.2.2.2.1∧Bc κ' w' 18 b11 107 [.slice aQ x11.b.length aM,vi s1.2.2.2.2.2.1,vi s1.2.2.2.2.2.2]∧Bc κ' w' 15 b7 39 [.slice ac s1.2.2.1.length aa,.slice ae s1.2.2.2.1.length ad,.slice ab s1.2.2.2.2.1.length af]∧whileM (s_DrawEditedAll_b0 x11) k s1=some q2) ⟨_,_,⟨K76,((([]:List Edit):(List Edit)),(x17.1:Int),(x13.1.Arena.Owner:(List Int)),(x13.1.Arena.Next:(List (List Int))),(x13.1.Prio:(List Int)),(x17.2.1:Int),(x17.2.2:Int)),aU,aR,am,al,ah,aj,ai,ak,R,(Jx2 _ _).wk R,(f42.stp (S46.tr (S49.tr (S58.tr (S65.tr (S71.tr S77))))) R R),(f67.stp (S71.tr S77) R R),(f73.stp S77 R R),f79,((f56.mx m59 R (R:16+2=18)).stp (S65.tr (S71.tr S77)) R R),(f50.stp (S58.tr (S65.tr (S71.tr S77))) R R),hq82⟩,(KM R)⟩ ?_)
 rintro k _ w92 ⟨K93,s1,an,az,ac,aa,ae,ad,ab,af,rfl,S94,f95,f96,f97,f98,f99,f100,h⟩
 rcases k with _ | k
 cases h
 obtain⟨o80,h,hk106⟩:=BI h;unfold s_DrawEditedAll_b0 at h
 refine Jq (Je [2,2] R (Jb 2 R ?_))
 revert h
 cases ht107:decide (0<s1.2.1)
 refine JF fun h=>Jy R (Jc1 (Jt (Jt ?_)))
 cases h
 have h:=hk106
 refine Jb1 ?_
 cases h
 exact Jw1 _ ⟨K93,((s1.1:(List Edit)),(s1.2.1:Int),(s1.2.2.1:(List Int)),(s1.2.2.2.1:(List (List Int))),(s1.2.2.2.2.1:(List Int)),(s1.2.2.2.2.2.1:Int),(s1.2.2.2.2.2.2:Int)),an,az,ac,aa,ae,ad,ab,af,R,S94.wk R,f95,f96,f97,f98,f99,f100,R⟩ (KM R)
 refine JT fun h=>Jx R (Js (Jp (Jq (Jv (Je [2,1,1,1,1] R (Jn 1 R (Jl tv R R R R (Jd2 (cs:=[.slice ac s1.2.2.1.length aa,.slice ae s1.2.2.2.1.length ad,.slice ab s1.2.2.2.2.1.length af]) I39 Z39 R R R (haE f100.cells)) (Ob h fun x24 hx24 h=>Jh R R R C70 (s_l32Draw_ok (κ:=fun b=>mp [(18,2)] 0 (K93 b)) (p1:=(⟨(⟨s1.2.2.1,s1.2.2.2.1⟩:Arena),s1.2.2.2.2.1⟩:Parity)) (p0:=(⟨x11.b,s1.2.2.2.2.2.1,s1.2.2.2.2.2.2⟩:l1Cur)) (Jl2 (f51.stp (S58.tr (S65.tr (S71.tr (S77.tr S94)))) R R) (mp [(18,2)] 0) R R) (Jl2 f96 (mp [(18,2)] 0) R R) (Jl2 f97 (mp [(18,2)] 0) R R) (Jl2 f98 (mp [(18,2)] 0) R R) (f99.map (mp [(18,2)] 0) R R) hx24) ?_))))))))
 rintro _ w109 ⟨k110,rfl,e111,f112⟩
 obtain⟨K113,S114,m115⟩:=Ji e111 19 R
 refine⟨tv,Jg1 (κ:=K113) 22 R R R R R X42 R fun b9 w118 K119 S120 f121=>⟨tv,Jj1 (κ:=K119) 22 (vc:=[vi x24.1.Kind,vi x24.1.V,vi x24.1.N]) R R R R R R R Z42 R R f121 R fun w122 S123 f124=>⟨tv,Jd (Je [2,1,1,1,2] R (Jn 1 R (Jl tv R R R R (Jd2 (cs:=[vi x24.1.Kind,vi x24.1.V,vi x24.1.N]) I42 Z42 R R R (haE f124.cells)) (Jn1 (κ:=K119) (E:=Edit.ep42) 23 [] (parts:=[(0,.tmp 26)]) (cells:=[vi x24.1.Kind,vi x24.1.V,vi x24.1.N]) (xs:=([x24.1]:List Edit)) R R R R R R Y62 Tryzinfo42 R R R R R R R R R R ⟨[vi x24.1.Kind,vi x24.1.V,vi x24.1.N],[],Zl K119 w122 [],Zl K119 w122 [],R,Zl.sp (l1:=[]) (l2:=[]) R,Zl.sr (l1:=[]) (l2:=[]),⟨[vi x24.1.Kind],[vi x24.1.V,vi x24.1.N],Zl K119 w122 [],Zl K119 w122 [],R,Zl.sp (l1:=[]) (l2:=[]) R,Zl.sr (l1:=[]) (l2:=[]),R,⟨[vi x24.1.V],[vi x24.1.N],Zl K119 w122 [],Zl K119 w122 [],R,Zl.sp (l1:=[]) (l2:=[]) R,Zl.sr (l1:=[]) (l2:=[]),R,R⟩⟩,R⟩ fun aV aW w125 K126 S127 f128=>⟨tv,Ob h fun x28 hx28 h=>Jm1 (κ:=K126) (E:=Edit.ep42) 14 [] R R R R R R R R R Y62 Tryzinfo42 R R R R (f95.stp (S114.tr (S120.tr (S123.tr S127))) R R) (Sl.srcP Edit.pu42 f128.rdc) sy_false hx28 R fun aH aI w130 K131 S132 f133=>⟨tv,Jb 1 R (Je [1,1,1] R ?_)⟩⟩))))⟩⟩⟩
 have f134:=f100.stp (S114.tr (S120.tr (S123.tr (S127.tr S132)))) R R
 refine Jl tv R R R R (Jd2 (cs:=[.slice ac s1.2.2.1.length aa,.slice ae s1.2.2.2.1.length ad,.slice ab s1.2.2.2.2.1.length af]) I39 Z39 R R R (haE f134.cells)) ?_
 have f135:=f124.stp (S127.tr S132) R R
 refine Jl tv R R R R (Jd2 (cs:=[vi x24.1.Kind,vi x24.1.V,vi x24.1.N]) I42 Z42 R R R (haE f135.cells)) (Ob h fun x31 hx31 h=>?_)
 have f136:=f96.stp (S114.tr (S120.tr (S123.tr (S127.tr S132)))) R R
 have f137:=f97.stp (S114.tr (S120.tr (S123.tr (S127.tr S132)))) R R
 have f138:=f98.stp (S114.tr (S120.tr (S123.tr (S127.tr S132)))) R R
 refine Jh R R R C36 (s_EditOk_ok (κ:=fun b=>mp [] 0 (K131 b)) (p0:=(⟨(⟨s1.2.2.1,s1.2.2.2.1⟩:Arena),s1.2.2.2.2.1⟩:Parity)) (p1:=x24.1) (Jl2 f136 (mp [] 0) R R) (Jl2 f137 (mp [] 0) R R) (Jl2 f138 (mp [] 0) R R) hx31) ?_
 rintro _ w139 ⟨k140,rfl,e141⟩
 obtain⟨K142,S143,m144⟩:=Ji e141 24 R
 refine⟨tv,Jd (Ob h fun q4 h hK146=>Jx1 (fun L w'=>∃κ' ay au aq ar av aA,L=[(2,.pointer (some ⟨b2,0,none⟩)),(4,.pointer (some ⟨b11,0,none⟩)),(5,.pointer (some ⟨b5,0,none⟩)),(6,.slice aH x28.length aI),(7,.pointer (some ⟨b7,0,none⟩)),(8,vi s1.2.1)]∧Stp [15,28,29,30] K142 w139 κ' w'∧Rd (Rp.int .i64) κ' w' 0 ay au q4.1∧Rd (Rp.sl (Rp.int .i64)) κ' w' 0 aq ar q4.2.1∧Rd (Rp.int .i64) κ' w' 0 av aA q4.2.2∧Bc κ' w' 15 b7 39 [.slice ay q4.1.length au,.slice aq q4.2.1.length ar,.slice av q4.2.2.length aA]) ?_ ?_)⟩
 revert h
 cases ht154:x31
 refine JF fun h=>Jy R (Js ?_)
 cases h
 exact Jw1 _ ⟨K142,ac,aa,ae,ad,ab,af,R,(Jx2 _ _).wk R,(f136.stp S143 R R),(f137.stp S143 R R),(f138.stp S143 R R),(f134.stp S143 R R)⟩ (KM R)
 refine JT fun h=>Jx R (Ja [1,1,1,1] R ?_)
 have f155:=f134.stp S143 R R
 refine Jl tv R R R R (Jd2 (cs:=[.slice ac s1.2.2.1.length aa,.slice ae s1.2.2.2.1.length ad,.slice ab s1.2.2.2.2.1.length af]) I39 Z39 R R R (haE f155.cells)) (Jl tv R R R R (Jd2 (cs:=[vi x24.1.Kind,vi x24.1.V,vi x24.1.N]) I42 Z42 R R R (haE (f135.stp S143 R R).cells)) (Ob h fun x34 hx34 h=>Jh R R R C38 (s_l32Do_ok (κ:=fun b=>mp [] 1 (K142 b)) (p0:=(⟨(⟨s1.2.2.1,s1.2.2.2.1⟩:Arena),s1.2.2.2.2.1⟩:Parity)) (p1:=x24.1) (Jl2 (f136.stp S143 R R) (mp [] 1) R R) (Jl2 (f137.stp S143 R R) (mp [] 1) R R) (Jl2 (f138.stp S143 R R) (mp [] 1) R R) hx34) ?_))
 rintro _ w160 ⟨k161,aN,aP,aO,aJ,aK,aL,rfl,e162,f163,f164,f165⟩
 obtain⟨K166,S167,m168,z169⟩:=Jj e162 26 R
 refine⟨tv,Jj1 (κ:=K166) 15 (vc:=[.slice aN x34.Arena.Owner.length aP,.slice aO x34.Arena.Next.length aJ,.slice aK x34.Prio.length aL]) R R R R R R R Z39 R R (f155.stp S167 R R) R fun w174 S175 f176=>⟨tv,Jo ?_⟩⟩
 obtain⟨K178,S179,z180⟩:=fz_ex K166 w174 28
 obtain⟨K183,S184,z185⟩:=fz_ex K178 w174 29
 obtain⟨K188,S189,z190⟩:=fz_ex K183 w174 30
 cases h
 exact Jw1 _ ⟨K188,aN,aP,aO,aJ,aK,aL,R,(S167.tr (S175.tr (S179.tr (S184.tr S189)))).wk R,((Sl.st z180 ((f163.mx (no_int _) m168 R (R:26+2=28)).stp S175 R R).rdc).stp (S184.tr S189) R R),((Sl.st z185 ((f164.mxz z169 m168 R (R:26+3=29)).stp (S175.tr S179) R R).rdc).stp S189 R R),(Sl.st z190 ((f165.mx (no_int _) m168 R (R:26+4=30)).stp (S175.tr (S179.tr S184)) R R).rdc),(f176.stp (S179.tr (S184.tr S189)) R R)⟩ (KM R)
 rintro _ w147 ⟨K148,ay,au,aq,ar,av,aA,rfl,S149,f150,f151,f152,f153⟩
 have h:=hK146
 refine Jz (Jp (Ja [2,2,2] R (Jc 3 R ?_)))
 cases h
 exact Jz1 fun a ha=>⟨k,_,Ja3 _,⟨(fun b=>ren [(21,18)] (K148 b)),((x28:(List Edit)),((IntKind.i64.wrap (s1.2.1-1)):Int),(q4.1:(List Int)),(q4.2.1:(List (List Int))),(q4.2.2:(List Int)),(x24.2.1:Int),(x24.2.2:Int)),aH,aI,ay,au,aq,ar,av,aA,R,(Jy2 ((S94.tr (S114.tr (S120.tr (S123.tr (S127.tr (S132.tr (S143.tr S149))))))).wk R) [(21,18)] R),((f133.stp (S143.tr S149) R R).map (ren [(21,18)]) R R),(f150.map (ren [(21,18)]) R R),(f151.map (ren [(21,18)]) R R),(f152.map (ren [(21,18)]) R R),(((f112.mx m115 R (R:19+2=21)).stp (S120.tr (S123.tr (S127.tr (S132.tr (S143.tr S149))))) R R).map (ren [(21,18)]) R R),(f153.map (ren [(21,18)]) R R),hk106⟩,(ha.mm R)⟩
 rintro _ w83 ⟨K84,s3,ax,ao,aB,aC,aG,aE,aF,aD,rfl,S85,f86,f87,f88,f89,f90,f91,rfl⟩
 have h:=hK81
 dsimp only[aft]at h
 refine Jp (Jq (Je [2,1] R (Jn 1 R (Ob h fun x36 hx36 h=>?_))))
 have f201:=f51.stp (S58.tr (S65.tr (S71.tr (S77.tr S85)))) R R
 refine Jh R R R C71 (s_l1Once_ok (κ:=fun b=>mp [(18,2)] 0 (K84 b)) (p0:=(⟨x11.b,s3.2.2.2.2.2.1,s3.2.2.2.2.2.2⟩:l1Cur)) (Jl2 f201 (mp [(18,2)] 0) R R) (f90.map (mp [(18,2)] 0) R R) hx36) ?_
 rintro _ w202 ⟨k203,rfl,e204,f205⟩
 obtain⟨K206,S207,m208⟩:=Ji e204 19 R
 refine⟨tv,Jd (Ob h fun q5 h hK211=>Jx1 (fun L w'=>∃κ' aw ap,L=[(2,.pointer (some ⟨b2,0,none⟩)),(5,.pointer (some ⟨b5,0,none⟩)),(6,.slice aw q5.length ap)]∧Stp [21,25] K206 w202 κ' w'∧Oc Edit.ep42 42 κ' w' 14 aw ap q5) ?_ ?_)⟩
 revert h
 cases ht216:x36.1
 refine JF fun h=>Jy R (Js ?_)
 cases h
 exact Jw1 _ ⟨K206,ax,ao,R,(Jx2 _ _).wk R,(f86.stp S207 R R)⟩ (KM R)
 refine JT fun h=>Jx R (Ja [2,1,2,1,2] R (Jn 1 R (Ob h fun x38 hx38 h=>Jh R R R C69 (s_l1Below_ok (κ:=fun b=>mp [(21,2)] 0 (K206 b)) (p0:=(⟨x11.b,x36.2.1,x36.2.2⟩:l1Cur)) (Jl2 (f201.stp S207 R R) (mp [(21,2)] 0) R R) ((f205.mx m208 R (R:19+2=21)).map (mp [(21,2)] 0) R R) hx38) ?_)))
 rintro _ w218 ⟨k219,rfl,e220,f221⟩
 obtain⟨K222,S223,m224⟩:=Ji e220 22 R
 refine⟨tv,Jn 1 R (Ob h fun x40 hx40 h=>Jl1 (κ:=K222) (E:=Edit.ep42) (z:=((⟨0,0,0⟩:Edit):Edit)) 25 R R R R R R R Y62 Tryzinfo42 R R R R R (fun _ _ _=>⟨[vi 0],[vi 0,vi 0],fun _=>False,fun _=>False,R,fun _ h=>h.elim,fun _ h=>h.elim,R,⟨[vi 0],[vi 0],fun _=>False,fun _=>False,R,fun _ h=>h.elim,fun _ h=>h.elim,R,R⟩⟩) (Ju2 hx40) fun aS aT w227 K228 S229 f230=>⟨tv,Jc 1 R ?_⟩)⟩
 cases h
 exact Jw1 _ ⟨(fun b=>ren [(25,14)] (K228 b)),aS,aT,R,(Jy2 ((S223.tr S229).wk R) [(25,14)] R),(f230.map (ren [(25,14)]) R R)⟩ (KM R)
 rintro _ w212 ⟨K213,aw,ap,rfl,S214,f215⟩
 have h:=hK211
 refine Jp (Je [1,2,1,2] R (Jl tv R R R R (Jd2 (cs:=[.slice am x13.1.Arena.Owner.length al,.slice ah x13.1.Arena.Next.length aj,.slice ai x13.1.Prio.length ak]) I39 Z39 R R R (haE (f43.stp (S46.tr (S49.tr (S58.tr (S65.tr (S71.tr (S77.tr (S85.tr (S207.tr S214)))))))) R R).cells)) (Jn 1 R (Jj1 (κ:=K213) 2 (vc:=[.slice am x13.1.Arena.Owner.length al,.slice ah x13.1.Arena.Next.length aj,.slice ai x13.1.Prio.length ak]) R R R R R R R Z39 R R (f4.stp (S12.tr (S25.tr (S34.tr (S37.tr (S41.tr (S46.tr (S49.tr (S58.tr (S65.tr (S71.tr (S77.tr (S85.tr (S207.tr S214))))))))))))) R R) R fun w234 S235 f236=>⟨tv,Jb 1 R (Ju (Ja2 (l:=[.cell 2 39,.tmp 3]) V31 (res_cellA R f236 I39 Z39 R (Jp2 R R)) R ?_))⟩))))
 cases h
 exact⟨(fun b=>ren [(14,5)] (K213 b)),am,al,ah,aj,ai,ak,aw,ap,R,((hE.stp (S3.tr (S12.tr (S25.tr (S34.tr (S37.tr (S41.tr (S46.tr (S49.tr (S58.tr (S65.tr (S71.tr (S77.tr (S85.tr (S207.tr (S214.tr S235))))))))))))))) R R).map (ren [(14,5)]) R R),((f67.stp (S71.tr (S77.tr (S85.tr (S207.tr (S214.tr S235))))) R R).map (ren [(14,5)]) R R),((f73.stp (S77.tr (S85.tr (S207.tr (S214.tr S235)))) R R).map (ren [(14,5)]) R R),((f79.stp (S85.tr (S207.tr (S214.tr S235))) R R).map (ren [(14,5)]) R R),((f215.stp S235 R R).map (ren [(14,5)]) R R)⟩
theorem i_EditedAll_ok {w:World}{κ:Col}{ao an ap ar au aq}{p0:Parity}{a1 u1}{p1:(List Edit)}(g0_0_0:Rd (Rp.int .i64) κ w 0 ao an p0.Arena.Owner) (g0_0_1:Rd (Rp.sl (Rp.int .i64)) κ w 0 ap ar p0.Arena.Next) (g0_1:Rd (Rp.int .i64) κ w 0 au aq p0.Prio) (g1:Rd Edit.rp κ w 0 a1 u1 p1){r:Parity×Int}(h:i_EditedAll p0 p1=some r):Ret Tryz.prog 32 [.agg #[.slice ao p0.Arena.Owner.length an,.slice ap p0.Arena.Next.length ar,.slice au p0.Prio.length aq],.slice a1 p1.length u1] w (fun v w'=>∃(κ':Col) (ra0:Option Addr) (ru0:Nat) (ra1:Option Addr) (ru1:Nat) (ra2:Option Addr) (ru2:Nat),v= .tuple #[.agg #[.slice ra0 r.1.Arena.Owner.length ru0,.slice ra1 r.1.Arena.Next.length ru1,.slice ra2 r.1.Prio.length ru2],vi r.2]∧Ent κ w κ' w'∧Oc E6 2 κ' w' 2 ra0 ru0 r.1.Arena.Owner∧Oc (Ep.own E6 2) 22 κ' w' 3 ra1 ru1 r.1.Arena.Next∧Oc E6 2 κ' w' 4 ra2 ru2 r.1.Prio):=by
 unfold i_EditedAll at h
 refine Ret.enter F32 R N32 R ?_
 dsimp only[envOf]
 have hE:=Ent.refl κ w
 refine Je [1,1,2] R (Jf1 (κ:=κ) 2 R R R R R R R fun b2 w1 K2 S3 f4=>⟨tv,Jg1 (κ:=K2) 3 R R R R R X39 R fun b4 w5 K6 S7 f8=>⟨tv,Jb 1 R (Jq (Je [1,1,2,2,2,2,2,2] R ?_))⟩⟩)
 have f9:=f4.stp S7 R R
 refine Jl tv R R R R (Jd2 (cs:=[.slice ao p0.Arena.Owner.length an,.slice ap p0.Arena.Next.length ar,.slice au p0.Prio.length aq]) I39 Z39 R R R (haE f9.cells)) (Ob h fun x10 hx10 h=>?_)
 have f10:=g0_0_0.stp (S3.tr S7) R R
 have f11:=g0_0_1.stp (S3.tr S7) R R
 have f12:=g0_1.stp (S3.tr S7) R R
 refine Jh R R R C54 (i_ParityOk_ok (κ:=fun b=>mp [] 0 (K6 b)) (p0:=p0) (Jl2 f10 (mp [] 0) R R) (Jl2 f11 (mp [] 0) R R) (Jl2 f12 (mp [] 0) R R) hx10) ?_
 rintro _ w13 ⟨k14,rfl,e15⟩
 obtain⟨K16,S17,m18⟩:=Ji e15 4 R
 refine⟨tv,Jn 2 R (Ob h fun p16 h hK20=>Ju1 [(4,2),(5,2),(6,2),(7,2)] [] (fun L w'=>L=[(1,.slice a1 p1.length u1),(2,.pointer (some ⟨b2,0,none⟩)),(4,.pointer (some ⟨b4,0,none⟩)),(16,.bool p16)]∧∃κ',Stp [] K16 w13 κ' w') tv ?_ ?_)⟩
 revert h
 cases ht21:(!x10)
 refine JF fun h=>Jn 1 R (Jf R (Je2 U62 R R) (Jn 2 R ?_))
 cases h
 exact Jv1 _ tv ⟨R,_,(Jx2 _ _).wk R⟩ (KM R)
 refine JT fun h=>Jn 4 R ?_
 cases h
 exact Jv1 _ tv ⟨R,_,(Jx2 _ _).wk R⟩ (KM R)
 rintro _ w22 _ ⟨rfl,K23,S24⟩
 have h:=hK20
 refine Jd ?_
 revert h
 cases ht25:p16
 have S001:=(S17.tr S24)
 refine JF fun h=>Jy R (Js (Jp (Je [1,1,1,1] R (Jl tv R R R R (Jd2 (cs:=[.slice ao p0.Arena.Owner.length an,.slice ap p0.Arena.Next.length ar,.slice au p0.Prio.length aq]) I39 Z39 R R R (haE (f9.stp S001 R R).cells)) (Ob h fun x19 hx19 h=>Jh R R R C72 (i_copyParity_ok (κ:=fun b=>mp [] 0 (K23 b)) (p0:=p0) (Jl2 (f10.stp S001 R R) (mp [] 0) R R) (Jl2 (f11.stp S001 R R) (mp [] 0) R R) (Jl2 (f12.stp S001 R R) (mp [] 0) R R) hx19) ?_)))))
 rintro _ w35 ⟨k36,av,aB,ax,aF,aw,az,rfl,e37,f38,f39,f40⟩
 obtain⟨K41,S42,m43⟩:=Ji e37 6 R
 refine⟨tv,Jg1 (κ:=K41) 11 R R R R R X39 R fun b6 w48 K49 S50 f51=>⟨tv,Jj1 (κ:=K49) 11 (vc:=[.slice av x19.Arena.Owner.length aB,.slice ax x19.Arena.Next.length aF,.slice aw x19.Prio.length az]) R R R R R R R Z39 R R f51 R fun w52 S53 f54=>⟨tv,Jd (Jq (Je [2,2,2] R (Jn 1 R (Jf R (Je2 U62 R R) (Jb 1 R ?_)))))⟩⟩⟩
 have hN55:(p1.length:Int)≤9223372036854775807:=g1.len_le
 refine Ob h fun q2 hq57 hK56=>?_
 clear h
 refine Jx1 (fun L w'=>∃κ',∃s3:(List Int)×(List (List Int))×(List Int),∃al ah ai aj am ak,L=[(1,.slice a1 p1.length u1),(4,.pointer (some ⟨b4,0,none⟩)),(6,.pointer (some ⟨b6,0,none⟩))]∧Stp [11,12,17,18,19] K49 w52 κ' w'∧Oc E6 2 κ' w' 8 al ah s3.1∧Oc (Ep.own E6 2) 22 κ' w' 9 ai aj s3.2.1∧Oc E6 2 κ' w' 10 am ak s3.2.2∧Bc κ' w' 11 b6 39 [.slice al s3.1.length ah,.slice ai s3.2.1.length aj,.slice am s3.2.2.length ak]∧q2=Sum.inr s3) ?_ ?_
 refine Jv (Jy1 (fun k L w'=>∃κ' v22,∃s1:(List Int)×(List (List Int))×(List Int),∃ab af ac aa ae ad,L=[(1,.slice a1 p1.length u1),(4,.pointer (some ⟨b4,0,none⟩)),(6,.pointer (some ⟨b6,0,none⟩)),(20,.slice a1 p1.length u1),(21,vi (p1.length:Int)),(22,vi v22)]∧Stp [11,12,17,18,19] K49 w52 κ' w'∧Oc E6 2 κ' w' 8 ab af s1.1∧Oc (Ep.own E6 2) 22 κ' w' 9 ac aa s1.2.1∧Oc E6 2 κ' w' 10 ae ad s1.2.2∧Bc κ' w' 11 b6 39 [.slice ab s1.1.length af,.slice ac s1.2.1.length aa,.slice ae s1.2.2.length ad]∧0≤v22∧Int.toNat ((p1.length:Int)-v22)=k∧cntM (i_EditedAll_b0 p1) k v22 s1=some q2) ⟨_,_,⟨K49,0,((x19.Arena.Owner:(List Int)),(x19.Arena.Next:(List (List Int))),(x19.Prio:(List Int))),av,aB,ax,aF,aw,az,R,(Jx2 _ _).wk R,((f38.mx (no_int _) m43 R (R:6+2=8)).stp (S50.tr S53) R R),((f39.mx (no_own (no_int _) _) m43 R (R:6+3=9)).stp (S50.tr S53) R R),((f40.mx (no_int _) m43 R (R:6+4=10)).stp (S50.tr S53) R R),f54,(by decide),(by simp),hq57⟩,(KM R)⟩ ?_)
 rintro k _ w65 ⟨K66,v22,s1,ab,af,ac,aa,ae,ad,rfl,S67,f68,f69,f70,f71,hj55,hJ55,h⟩
 rcases k with _ | k
 have hk75:=h;obtain⟨o55,h⟩:=ex_eq (Sum.inr (Sum.inl s1):(Parity×Int)⊕(((List Int)×(List (List Int))×(List Int))⊕((List Int)×(List (List Int))×(List Int))))
 have hc55:decide (v22<(p1.length:Int))=false:=Jo2 (by omega)
 refine Je [2] R (Jb 1 R (Jq (Jw2 R hc55 (Jc1 (Jt (Jt ?_))))))
 cases h
 have h:=hk75
 refine Jb1 ?_
 cases h
 exact Jw1 _ ⟨K66,((s1.1:(List Int)),(s1.2.1:(List (List Int))),(s1.2.2:(List Int))),ab,af,ac,aa,ae,ad,R,S67.wk R,f68,f69,f70,f71,R⟩ (KM R)
 obtain⟨o55,h,hk75⟩:=BI h;unfold i_EditedAll_b0 at h
 have hc55:decide (v22<(p1.length:Int))=true:=Jn2 (by omega)
 refine Je [2] R (Jb 1 R (Jq (Jv2 R hc55 (Js (Jp (Jq (Jv (Je [2,2,1,1,2,1] R (Jn 1 R (Ob h fun x25 hx25 h=>Jf R (Jf2 g1 hx25 U62 Z42 R R R R) ?_))))))))))
 obtain⟨cse77,hre77,hle77⟩:=((g1.stp (S3.tr (S7.tr (S17.tr (S24.tr (S42.tr (S50.tr (S53.tr S67))))))) R R)).gSt hx25
 obtain rfl:=Edit.un hre77
 refine Jl tv R R R R (Jd2 (cs:=[vi x25.Kind,vi x25.V,vi x25.N]) I42 Z42 R R R (haE hle77)) (Jg1 (κ:=K66) 12 R R R R R X42 R fun b8 w78 K79 S80 f81=>⟨tv,Jn 1 R (Jj1 (κ:=K79) 12 (vc:=[vi x25.Kind,vi x25.V,vi x25.N]) R R R R R R R Z42 R R f81 R fun w82 S83 f84=>⟨tv,Jd (Jq (Je [1,1,1,2] R ?_))⟩)⟩)
 have f85:=f71.stp (S80.tr S83) R R
 refine Jl tv R R R R (Jd2 (cs:=[.slice ab s1.1.length af,.slice ac s1.2.1.length aa,.slice ae s1.2.2.length ad]) I39 Z39 R R R (haE f85.cells)) (Jl tv R R R R (Jd2 (cs:=[vi x25.Kind,vi x25.V,vi x25.N]) I42 Z42 R R R (haE f84.cells)) (Ob h fun x29 hx29 h=>?_))
 have f86:=f68.stp (S80.tr S83) R R
 have f87:=f69.stp (S80.tr S83) R R
 have f88:=f70.stp (S80.tr S83) R R
 refine Jh R R R C42 (i_isEdit_ok (κ:=fun b=>mp [] 0 (K79 b)) (p0:=(⟨(⟨s1.1,s1.2.1⟩:Arena),s1.2.2⟩:Parity)) (p1:=x25) (Jl2 f86.rdc (mp [] 0) R R) (Jl2 f87.rdc (mp [] 0) R R) (Jl2 f88.rdc (mp [] 0) R R) hx29) ?_
 rintro _ w89 ⟨k90,rfl,e91⟩
 obtain⟨K92,S93,m94⟩:=Ji e91 13 R
 refine⟨tv,Jb 1 R ?_⟩
 revert h
 cases ht96:(!x29)
 refine JF fun h=>Jy R (Js (Jp (Ja [1,1,1,1] R ?_)))
 have f106:=f85.stp S93 R R
 refine Jl tv R R R R (Jd2 (cs:=[.slice ab s1.1.length af,.slice ac s1.2.1.length aa,.slice ae s1.2.2.length ad]) I39 Z39 R R R (haE f106.cells)) (Jl tv R R R R (Jd2 (cs:=[vi x25.Kind,vi x25.V,vi x25.N]) I42 Z42 R R R (haE (f84.stp S93 R R).cells)) (Ob h fun x35 hx35 h=>Jh R R R C44 (i_edited_ok (κ:=fun b=>mp [] 0 (K92 b)) (p0:=(⟨(⟨s1.1,s1.2.1⟩:Arena),s1.2.2⟩:Parity)) (p1:=x25) (Jl2 (f86.stp S93 R R).rdc (mp [] 0) R R) (Jl2 (f87.stp S93 R R).rdc (mp [] 0) R R) (Jl2 (f88.stp S93 R R).rdc (mp [] 0) R R) hx35) ?_))
 rintro _ w111 ⟨k112,aA,ay,aD,aE,aG,aC,rfl,e113,f114,f115,f116⟩
 obtain⟨K117,S118,m119⟩:=Ji e113 15 R
 refine⟨tv,Jj1 (κ:=K117) 11 (vc:=[.slice aA x35.Arena.Owner.length ay,.slice aD x35.Arena.Next.length aE,.slice aG x35.Prio.length aC]) R R R R R R R Z39 R R (f106.stp S118 R R) R fun w125 S126 f127=>⟨tv,Jo (Jz (Jp (Ja [2,2] R (Jc 2 R ?_))))⟩⟩
 have hw55:IntKind.wrap .i64 (v22+1)=v22+1:=wr1 hj55 (Jm2 hc55) hN55
 rw[hw55]
 have hc55:=Jm2 hc55
 cases h
 exact Jz1 fun a ha=>⟨k,_,Ja3 _,⟨(fun b=>ren [(17,8),(18,9),(19,10)] (K117 b)),v22+1,((x35.Arena.Owner:(List Int)),(x35.Arena.Next:(List (List Int))),(x35.Prio:(List Int))),aA,ay,aD,aE,aG,aC,R,(Jy2 ((S67.tr (S80.tr (S83.tr (S93.tr (S118.tr S126))))).wk R) [(17,8),(18,9),(19,10)] R),(((f114.mx (no_int _) m119 R (R:15+2=17)).stp S126 R R).map (ren [(17,8),(18,9),(19,10)]) R R),(((f115.mx (no_own (no_int _) _) m119 R (R:15+3=18)).stp S126 R R).map (ren [(17,8),(18,9),(19,10)]) R R),(((f116.mx (no_int _) m119 R (R:15+4=19)).stp S126 R R).map (ren [(17,8),(18,9),(19,10)]) R R),(f127.map (ren [(17,8),(18,9),(19,10)]) R R),by omega,by omega,hk75⟩,(ha.mm R)⟩
 refine JT fun h=>Jx R (Je [1,2,1,2] R (Jl tv R R R R (Jd2 (cs:=[.slice ab s1.1.length af,.slice ac s1.2.1.length aa,.slice ae s1.2.2.length ad]) I39 Z39 R R R (haE (f85.stp S93 R R).cells)) (Jn 1 R (Jj1 (κ:=K92) 3 (vc:=[.slice ab s1.1.length af,.slice ac s1.2.1.length aa,.slice ae s1.2.2.length ad]) R R R R R R R Z39 R R (f8.stp (S17.tr (S24.tr (S42.tr (S50.tr (S53.tr (S67.tr (S80.tr (S83.tr S93)))))))) R R) R fun w99 S100 f101=>⟨tv,Jb 1 R (Ju (Jw (Ja1 (Jw (Jw ?_)))))⟩))))
 cases h
 obtain rfl:=Option.some.inj hk75
 have h:=hK56
 dsimp only[aft]at h
 refine Ja1 (Jq2 (Jw (Ja2 (l:=[.cell 4 39,.tmp 5]) V32 (res_cellA R f101 I39 Z39 R (Jp2 R R)) R ?_)))
 cases h
 exact⟨(fun b=>ren [(8,2),(9,3),(10,4)] (K92 b)),ab,af,ac,aa,ae,ad,R,((hE.stp (S3.tr (S7.tr (S17.tr (S24.tr (S42.tr (S50.tr (S53.tr (S67.tr (S80.tr (S83.tr (S93.tr S100))))))))))) R R).map (ren [(8,2),(9,3),(10,4)]) R R),((f86.stp (S93.tr S100) R R).map (ren [(8,2),(9,3),(10,4)]) R R),((f87.stp (S93.tr S100) R R).map (ren [(8,2),(9,3),(10,4)]) R R),((f88.stp (S93.tr S100) R R).map (ren [(8,2),(9,3),(10,4)]) R R)⟩
 rintro _ w58 ⟨K59,s3,al,ah,ai,aj,am,ak,rfl,S60,f61,f62,f63,f64,rfl⟩
 have h:=hK56
 dsimp only[aft]at h
 refine Jp (Je [1,2,2,1,2] R (Jl tv R R R R (Jd2 (cs:=[.slice al s3.1.length ah,.slice ai s3.2.1.length aj,.slice am s3.2.2.length ak]) I39 Z39 R R R (haE f64.cells)) (Jn 1 R (Jf R (Je2 U62 R R) (Jj1 (κ:=K59) 3 (vc:=[.slice al s3.1.length ah,.slice ai s3.2.1.length aj,.slice am s3.2.2.length ak]) R R R R R R R Z39 R R (f8.stp (S17.tr (S24.tr (S42.tr (S50.tr (S53.tr S60))))) R R) R fun w132 S133 f134=>⟨tv,Jb 1 R (Ju (Ja2 (l:=[.cell 4 39,.tmp 5]) V32 (res_cellA R f134 I39 Z39 R (Jp2 R R)) R ?_))⟩)))))
 cases h
 exact⟨(fun b=>ren [(8,2),(9,3),(10,4)] (K59 b)),al,ah,ai,aj,am,ak,R,((hE.stp (S3.tr (S7.tr (S17.tr (S24.tr (S42.tr (S50.tr (S53.tr (S60.tr S133)))))))) R R).map (ren [(8,2),(9,3),(10,4)]) R R),((f61.stp S133 R R).map (ren [(8,2),(9,3),(10,4)]) R R),((f62.stp S133 R R).map (ren [(8,2),(9,3),(10,4)]) R R),((f63.stp S133 R R).map (ren [(8,2),(9,3),(10,4)]) R R)⟩
 refine JT fun h=>Jx R (Je [2,1,2] R (Jf R (rn_build (parts:=[]) (cells:=[.slice none 0 0,.slice none 0 0,.slice none 0 0]) R R (by kernel_rfl)) (Jj1 (κ:=K23) 3 (vc:=[.slice none 0 0,.slice none 0 0,.slice none 0 0]) R R R R R R R Z39 R R (f8.stp (S17.tr S24) R R) R fun w27 S28 f29=>⟨tv,Jb 1 R (Ju (Jw (Ja2 (l:=[.cell 4 39,.tmp 5]) V32 (res_cellA R f29 I39 Z39 R (Jp2 R R)) R ?_)))⟩)))
 cases h
 exact⟨K23,none,0,none,0,none,0,R,(hE.stp (S3.tr (S7.tr (S17.tr (S24.tr S28)))) R R),Ow.nil,Ow.nil,Ow.nil⟩
theorem s_Edited_ok {w:World}{κ:Col}{ae aa ab ac af ad}{p0:Parity}{p1:Edit}(g0_0_0:Rd (Rp.int .i64) κ w 0 ae aa p0.Arena.Owner) (g0_0_1:Rd (Rp.sl (Rp.int .i64)) κ w 0 ab ac p0.Arena.Next) (g0_1:Rd (Rp.int .i64) κ w 0 af ad p0.Prio){r:Parity×Bool}(h:s_Edited p0 p1=some r):Ret Tryz.prog 21 [.agg #[.slice ae p0.Arena.Owner.length aa,.slice ab p0.Arena.Next.length ac,.slice af p0.Prio.length ad],.agg #[vi p1.Kind,vi p1.V,vi p1.N]] w (fun v w'=>∃(κ':Col) (ra0:Option Addr) (ru0:Nat) (ra1:Option Addr) (ru1:Nat) (ra2:Option Addr) (ru2:Nat),v= .tuple #[.agg #[.slice ra0 r.1.Arena.Owner.length ru0,.slice ra1 r.1.Arena.Next.length ru1,.slice ra2 r.1.Prio.length ru2],.bool r.2]∧Ent κ w κ' w'∧Oc E6 2 κ' w' 2 ra0 ru0 r.1.Arena.Owner∧Oc (Ep.fz (Rp.sl (Rp.int .i64))) 22 κ' w' 3 ra1 ru1 r.1.Arena.Next∧Oc E6 2 κ' w' 4 ra2 ru2 r.1.Prio):=by
 unfold s_Edited at h
 refine Ret.enter F21 R N21 R ?_
 dsimp only[envOf]
 have hE:=Ent.refl κ w
 refine Je [1,1,1,2] R (Jf1 (κ:=κ) 2 R R R R R R R fun b2 w1 K2 S3 f4=>⟨tv,Jf1 (κ:=K2) 3 R R R R R R R fun b3 w5 K6 S7 f8=>⟨tv,Jg1 (κ:=K6) 4 R R R R R X39 R fun b4 w9 K10 S11 f12=>⟨tv,Jb 1 R (Jq (Je [1,1,1,2] R ?_))⟩⟩⟩)
 have f13:=f4.stp (S7.tr S11) R R
 refine Jl tv R R R R (Jd2 (cs:=[.slice ae p0.Arena.Owner.length aa,.slice ab p0.Arena.Next.length ac,.slice af p0.Prio.length ad]) I39 Z39 R R R (haE f13.cells)) ?_
 have f14:=f8.stp S11 R R
 refine Jl tv R R R R (Jd2 (cs:=[vi p1.Kind,vi p1.V,vi p1.N]) I42 Z42 R R R (haE f14.cells)) (Ob h fun x8 hx8 h=>?_)
 have f15:=g0_0_0.stp (S3.tr (S7.tr S11)) R R
 have f16:=g0_0_1.stp (S3.tr (S7.tr S11)) R R
 have f17:=g0_1.stp (S3.tr (S7.tr S11)) R R
 refine Jh R R R C36 (s_EditOk_ok (κ:=fun b=>mp [] 0 (K10 b)) (p0:=p0) (p1:=p1) (Jl2 f15 (mp [] 0) R R) (Jl2 f16 (mp [] 0) R R) (Jl2 f17 (mp [] 0) R R) hx8) ?_
 rintro _ w18 ⟨k19,rfl,e20⟩
 obtain⟨K21,S22,m23⟩:=Ji e20 5 R
 refine⟨tv,Jb 1 R ?_⟩
 revert h
 cases ht25:(!x8)
 refine JF fun h=>Jy R (Js (Jp (Je [1,1,1,1,2] R (Jl tv R R R R (Jd2 (cs:=[.slice ae p0.Arena.Owner.length aa,.slice ab p0.Arena.Next.length ac,.slice af p0.Prio.length ad]) I39 Z39 R R R (haE (f13.stp S22 R R).cells)) (Jl tv R R R R (Jd2 (cs:=[vi p1.Kind,vi p1.V,vi p1.N]) I42 Z42 R R R (haE (f14.stp S22 R R).cells)) (Ob h fun x13 hx13 h=>Jh R R R C38 (s_l32Do_ok (κ:=fun b=>mp [] 1 (K21 b)) (p0:=p0) (p1:=p1) (Jl2 (f15.stp S22 R R) (mp [] 1) R R) (Jl2 (f16.stp S22 R R) (mp [] 1) R R) (Jl2 (f17.stp S22 R R) (mp [] 1) R R) hx13) ?_))))))
 rintro _ w36 ⟨k37,al,ak,aj,ah,am,ai,rfl,e38,f39,f40,f41⟩
 obtain⟨K42,S43,m44,z45⟩:=Jj e38 7 R
 refine⟨tv,Jj1 (κ:=K42) 4 (vc:=[.slice al x13.Arena.Owner.length ak,.slice aj x13.Arena.Next.length ah,.slice am x13.Prio.length ai]) R R R R R R R Z39 R R (f12.stp (S22.tr S43) R R) R fun w50 S51 f52=>⟨tv,Jb 1 R (Ju (Ja2 (l:=[.cell 4 39,.tmp 5]) V21 (res_cellA R f52 I39 Z39 R (Jp2 R R)) R ?_))⟩⟩
 cases h
 exact⟨(fun b=>ren [(9,2),(10,3),(11,4)] (K42 b)),al,ak,aj,ah,am,ai,R,((hE.stp (S3.tr (S7.tr (S11.tr (S22.tr (S43.tr S51))))) R R).map (ren [(9,2),(10,3),(11,4)]) R R),(((f39.mx (no_int _) m44 R (R:7+2=9)).stp S51 R R).map (ren [(9,2),(10,3),(11,4)]) R R),(((f40.mxz z45 m44 R (R:7+3=10)).stp S51 R R).map (ren [(9,2),(10,3),(11,4)]) R R),(((f41.mx (no_int _) m44 R (R:7+4=11)).stp S51 R R).map (ren [(9,2),(10,3),(11,4)]) R R)⟩
 refine JT fun h=>Jx R (Je [2,1,2] R (Jf R (rn_build (parts:=[]) (cells:=[.slice none 0 0,.slice none 0 0,.slice none 0 0]) R R (by kernel_rfl)) (Jj1 (κ:=K21) 4 (vc:=[.slice none 0 0,.slice none 0 0,.slice none 0 0]) R R R R R R R Z39 R R (f12.stp S22 R R) R fun w27 S28 f29=>⟨tv,Jb 1 R (Ju (Jw (Ja2 (l:=[.cell 4 39,.tmp 5]) V21 (res_cellA R f29 I39 Z39 R (Jp2 R R)) R ?_)))⟩)))
 cases h
 exact⟨K21,none,0,none,0,none,0,R,(hE.stp (S3.tr (S7.tr (S11.tr (S22.tr S28)))) R R),Ow.nil,Ow.nil,Ow.nil⟩
theorem s_KeepsWon_ok {w:World}{κ:Col}{ae aa ab ac af ad}{p0:Parity}{a1 u1}{p1:(List Int)}(g0_0_0:Rd (Rp.int .i64) κ w 0 ae aa p0.Arena.Owner) (g0_0_1:Rd (Rp.sl (Rp.int .i64)) κ w 0 ab ac p0.Arena.Next) (g0_1:Rd (Rp.int .i64) κ w 0 af ad p0.Prio) (g1:Rd (Rp.int .i64) κ w 0 a1 u1 p1){r:Bool}(h:s_KeepsWon p0 p1=some r):Ret Tryz.prog 96 [.agg #[.slice ae p0.Arena.Owner.length aa,.slice ab p0.Arena.Next.length ac,.slice af p0.Prio.length ad],.slice a1 p1.length u1] w (fun v w'=>∃(κ':Col),v= .bool r∧Ent κ w κ' w'):=by
 unfold s_KeepsWon at h
 refine Ret.enter F96 R N96 R ?_
 dsimp only[envOf]
 have hE:=Ent.refl κ w
 refine Je [1,2] R (Jf1 (κ:=κ) 2 R R R R R R R fun b2 w1 K2 S3 f4=>⟨tv,Jb 1 R (Je [1,2,1,2,2,2,1,1,2] R (Jl tv R R R R (Jd2 (cs:=[.slice ae p0.Arena.Owner.length aa,.slice ab p0.Arena.Next.length ac,.slice af p0.Prio.length ad]) I39 Z39 R R R (haE f4.cells)) (Jn 1 R (Ob h fun x10 hx10 h=>?_))))⟩)
 have f5:=g0_0_0.stp S3 R R
 have f6:=g0_0_1.stp S3 R R
 have f7:=g0_1.stp S3 R R
 refine Jh R R R C124 (s_OnlyBy_ok (κ:=fun b=>mp [] 0 (K2 b)) (p0:=p0) (Jl2 f5 (mp [] 0) R R) (Jl2 f6 (mp [] 0) R R) (Jl2 f7 (mp [] 0) R R) (Jl2 (g1.stp S3 R R) (mp [] 0) R R) hx10) ?_
 rintro _ w9 ⟨k10,aj,ah,ai,ak,al,am,rfl,e11,f12,f13,f14⟩
 obtain⟨K15,S16,m17⟩:=Ji e11 3 R
 refine⟨tv,Jn 3 R (Jg1 (κ:=K15) 8 R R R R R X39 R fun b5 w22 K23 S24 f25=>⟨tv,Jj1 (κ:=K23) 8 (vc:=[.slice aj x10.1.Arena.Owner.length ah,.slice ai x10.1.Arena.Next.length ak,.slice al x10.1.Prio.length am]) R R R R R R R Z39 R R f25 R fun w26 S27 f28=>⟨tv,Jb 1 R (Jq (Js1 (κ:=K23) [2,8] none [(0,2),(1,2),(2,0),(4,0),(3,1),(5,1),(6,1),(7,2),(8,2)] [] (by kernel_rfl) (by kernel_rfl) fun w30 S29=>Jn 2 R (Ob h fun p20 h hK31=>Ju1 [(2,0),(4,0),(3,1),(5,1),(6,1),(7,2)] [(8,2)] (fun L w'=>L=[(4,.bool false),(20,.bool p20)]∧∃κ',Stp [] K23 w30 κ' w') (Cl.refl _ _ _) ?_ ?_)))⟩⟩)⟩
 revert h
 cases ht32:x10.2
 refine JF fun h=>Je1 R R R R (Je1 R R R R (Jd1 R R R R (Jd1 R R R R (Jd1 R R R R (Jn 1 R ?_)))))
 cases h
 exact Jv1 _ (Cl.refl _ _ _) ⟨R,_,(Jx2 _ _).wk R⟩ (KM R)
 have S001:=(S24.tr (S27.tr S29))
 refine JT fun h=>Jg R (Jd2 (cs:=[.slice aj x10.1.Arena.Owner.length ah,.slice ai x10.1.Arena.Next.length ak,.slice al x10.1.Prio.length am]) I39 Z39 R R R (haC (f28.stp S29 R R).cells R)) (Jg R (Jd2 (cs:=[.slice ae p0.Arena.Owner.length aa,.slice ab p0.Arena.Next.length ac,.slice af p0.Prio.length ad]) I39 Z39 R R R (haC (f4.stp (S16.tr (S24.tr (S27.tr S29))) R R).cells R)) (Ob h fun x16 hx16 h=>Jh R R R C97 (s_l7Won_ok (κ:=fun b=>mp [] 0 (K23 b)) (p0:=x10.1) (Jl2 ((f12.mx (no_int _) m17 R (R:3+2=5)).stp S001 R R).rdc (mp [] 0) R R) (Jl2 ((f13.mx (no_own (no_int _) _) m17 R (R:3+3=6)).stp S001 R R).rdc (mp [] 0) R R) (Jl2 ((f14.mx (no_int _) m17 R (R:3+4=7)).stp S001 R R).rdc (mp [] 0) R R) hx16) ?_))
 rintro _ w38 ⟨k39,aq,an,rfl,e40,f41⟩
 obtain⟨K42,S43,m44⟩:=Ji e40 9 R
 have S002:=(S16.tr (S24.tr (S27.tr (S29.tr S43))))
 refine⟨(S43.cl R),Ob h fun x18 hx18 h=>Jh R R R C97 (s_l7Won_ok (κ:=fun b=>mp [] 0 (K42 b)) (p0:=p0) (Jl2 (f5.stp S002 R R) (mp [] 0) R R) (Jl2 (f6.stp S002 R R) (mp [] 0) R R) (Jl2 (f7.stp S002 R R) (mp [] 0) R R) hx18) ?_⟩
 rintro _ w50 ⟨k51,ao,ap,rfl,e52,f53⟩
 obtain⟨K54,S55,m56⟩:=Ji e52 12 R
 refine⟨((S43.tr S55).cl R),Ob h fun x19 hx19 h=>Jh R R R C125 (s_l7Same_ok (κ:=fun b=>mp [] 0 (K54 b)) (Jl2 ((f41.mx (no_int _) m44 R (R:9+2=11)).stp S55 R R).rdc (mp [] 0) R R) (Jl2 (f53.mx (no_int _) m56 R (R:12+2=14)).rdc (mp [] 0) R R) hx19) ?_⟩
 rintro _ w60 ⟨k61,rfl,e62⟩
 obtain⟨K63,S64,m65⟩:=Ji e62 15 R
 refine⟨((S43.tr (S55.tr S64)).cl R),Jn 1 R ?_⟩
 cases h
 exact Jv1 _ ((S43.tr (S55.tr S64)).cl R) ⟨R,_,(S43.tr (S55.tr S64)).wk R⟩ (KM R)
 rintro _ w67 _ ⟨rfl,K68,S69⟩
 have h:=hK31
 refine Jn 1 R (Jt1 (Jd (Ju (Ja2 (l:=[.tmp 4]) V96 (Jp2 R R) R ?_))))
 cases h
 exact⟨K68,R,(hE.stp (S3.tr (S16.tr (S24.tr (S27.tr (S29.tr S69))))) R R)⟩
theorem i_ResolvedBy_ok {w:World}{κ:Col}{ab aa ae ah ak aj}{p0:Parity}{ao am al an}{p1:Answer}{p2:Edit}(g0_0_0:Rd (Rp.int .i64) κ w 0 ab aa p0.Arena.Owner) (g0_0_1:Rd (Rp.sl (Rp.int .i64)) κ w 0 ae ah p0.Arena.Next) (g0_1:Rd (Rp.int .i64) κ w 0 ak aj p0.Prio) (g1_0:Rd (Rp.int .i64) κ w 0 ao am p1.Won) (g1_1:Rd (Rp.int .i64) κ w 0 al an p1.Plan){r:Answer×Bool}(h:i_ResolvedBy p0 p1 p2=some r):Ret Tryz.prog 12 [.agg #[.slice ab p0.Arena.Owner.length aa,.slice ae p0.Arena.Next.length ah,.slice ak p0.Prio.length aj],.agg #[.slice ao p1.Won.length am,.slice al p1.Plan.length an],.agg #[vi p2.Kind,vi p2.V,vi p2.N]] w (fun v w'=>∃(κ':Col) (ra0:Option Addr) (ru0:Nat) (ra1:Option Addr) (ru1:Nat),v= .tuple #[.agg #[.slice ra0 r.1.Won.length ru0,.slice ra1 r.1.Plan.length ru1],.bool r.2]∧Ent κ w κ' w'∧Oc E6 2 κ' w' 2 ra0 ru0 r.1.Won∧Oc E6 2 κ' w' 3 ra1 ru1 r.1.Plan):=by
 unfold i_ResolvedBy at h
 refine Ret.enter F12 R N12 R ?_
 dsimp only[envOf]
 have hE:=Ent.refl κ w
 refine Je [1,1,1,1,2] R (Jf1 (κ:=κ) 2 R R R R R R R fun b3 w1 K2 S3 f4=>⟨tv,Jf1 (κ:=K2) 3 R R R R R R R fun b4 w5 K6 S7 f8=>⟨tv,Jf1 (κ:=K6) 4 R R R R R R R fun b5 w9 K10 S11 f12=>⟨tv,Jg1 (κ:=K10) 5 R R R R R X34 R fun b6 w13 K14 S15 f16=>⟨tv,Jb 1 R (Jq (Je [1,1,1,2,2,1,1,1,2,2] R ?_))⟩⟩⟩⟩)
 have f17:=f4.stp (S7.tr (S11.tr S15)) R R
 refine Jl tv R R R R (Jd2 (cs:=[.slice ab p0.Arena.Owner.length aa,.slice ae p0.Arena.Next.length ah,.slice ak p0.Prio.length aj]) I39 Z39 R R R (haE f17.cells)) ?_
 have f18:=f8.stp (S11.tr S15) R R
 refine Jl tv R R R R (Jd2 (cs:=[.slice ao p1.Won.length am,.slice al p1.Plan.length an]) I34 Z34 R R R (haE f18.cells)) (Ob h fun x13 hx13 h=>?_)
 have f19:=g0_0_0.stp (S3.tr (S7.tr (S11.tr S15))) R R
 have f20:=g0_0_1.stp (S3.tr (S7.tr (S11.tr S15))) R R
 have f21:=g0_1.stp (S3.tr (S7.tr (S11.tr S15))) R R
 have f22:=g1_0.stp (S3.tr (S7.tr (S11.tr S15))) R R
 have f23:=g1_1.stp (S3.tr (S7.tr (S11.tr S15))) R R
 refine Jh R R R C41 (i_AnswerOk_ok (κ:=fun b=>mp [] 0 (K14 b)) (p0:=p0) (p1:=p1) (Jl2 f19 (mp [] 0) R R) (Jl2 f20 (mp [] 0) R R) (Jl2 f21 (mp [] 0) R R) (Jl2 f22 (mp [] 0) R R) (Jl2 f23 (mp [] 0) R R) hx13) ?_
 rintro _ w24 ⟨k25,rfl,e26⟩
 obtain⟨K27,S28,m29⟩:=Ji e26 6 R
 refine⟨tv,Jn 2 R (Ob h fun p20 h hK31=>Ju1 [(5,1),(6,1),(7,1),(8,2),(9,2)] [] (fun L w'=>L=[(3,.pointer (some ⟨b3,0,none⟩)),(4,.pointer (some ⟨b4,0,none⟩)),(5,.pointer (some ⟨b5,0,none⟩)),(6,.pointer (some ⟨b6,0,none⟩)),(20,.bool p20)]∧∃κ',Stp [] K27 w24 κ' w') tv ?_ ?_)⟩
 revert h
 cases ht32:(!x13)
 refine JF fun h=>Jl tv R R R R (Jd2 (cs:=[.slice ab p0.Arena.Owner.length aa,.slice ae p0.Arena.Next.length ah,.slice ak p0.Prio.length aj]) I39 Z39 R R R (haE (f17.stp S28 R R).cells)) (Jl tv R R R R (Jd2 (cs:=[vi p2.Kind,vi p2.V,vi p2.N]) I42 Z42 R R R (haE (f12.stp (S15.tr S28) R R).cells)) (Ob h fun x18 hx18 h=>Jh R R R C42 (i_isEdit_ok (κ:=fun b=>mp [] 0 (K27 b)) (p0:=p0) (p1:=p2) (Jl2 (f19.stp S28 R R) (mp [] 0) R R) (Jl2 (f20.stp S28 R R) (mp [] 0) R R) (Jl2 (f21.stp S28 R R) (mp [] 0) R R) hx18) ?_))
 rintro _ w38 ⟨k39,rfl,e40⟩
 obtain⟨K41,S42,m43⟩:=Ji e40 8 R
 refine⟨tv,Jn 2 R ?_⟩
 cases h
 exact Jv1 _ tv ⟨R,_,S42.wk R⟩ (KM R)
 refine JT fun h=>Jd1 R R R R (Jd1 R R R R (Jd1 R R R R (Jn 2 R ?_)))
 cases h
 exact Jv1 _ tv ⟨R,_,(Jx2 _ _).wk R⟩ (KM R)
 rintro _ w45 _ ⟨rfl,K46,S47⟩
 have h:=hK31
 refine Jd ?_
 revert h
 cases ht48:p20
 refine JF fun h=>Jy R (Js (Jp (Je [1,1,1,1,1,1] R ?_)))
 have f54:=f17.stp (S28.tr S47) R R
 refine Jl tv R R R R (Jd2 (cs:=[.slice ab p0.Arena.Owner.length aa,.slice ae p0.Arena.Next.length ah,.slice ak p0.Prio.length aj]) I39 Z39 R R R (haE f54.cells)) ?_
 have f55:=f12.stp (S15.tr (S28.tr S47)) R R
 refine Jl tv R R R R (Jd2 (cs:=[vi p2.Kind,vi p2.V,vi p2.N]) I42 Z42 R R R (haE f55.cells)) (Ob h fun x24 hx24 h=>?_)
 have f56:=f19.stp (S28.tr S47) R R
 have f57:=f20.stp (S28.tr S47) R R
 refine Jh R R R C44 (i_edited_ok (κ:=fun b=>mp [] 0 (K46 b)) (p0:=p0) (p1:=p2) (Jl2 f56 (mp [] 0) R R) (Jl2 f57 (mp [] 0) R R) (Jl2 (f21.stp (S28.tr S47) R R) (mp [] 0) R R) hx24) ?_
 rintro _ w59 ⟨k60,ar,aB,az,aC,ax,av,rfl,e61,f62,f63,f64⟩
 obtain⟨K65,S66,m67⟩:=Ji e61 8 R
 refine⟨tv,Ob h fun x25 hx25 h=>Jh R R R C43 (i_Solved_ok (κ:=fun b=>mp [] 0 (K65 b)) (p0:=x24) (Jl2 (f62.mx (no_int _) m67 R (R:8+2=10)).rdc (mp [] 0) R R) (Jl2 (f63.mx (no_own (no_int _) _) m67 R (R:8+3=11)).rdc (mp [] 0) R R) (Jl2 (f64.mx (no_int _) m67 R (R:8+4=12)).rdc (mp [] 0) R R) hx25) ?_⟩
 rintro _ w72 ⟨k73,ad,ai,ac,af,rfl,e74,f75,f76⟩
 obtain⟨K77,S78,m79⟩:=Ji e74 13 R
 refine⟨tv,Jg1 (κ:=K77) 17 R R R R R X34 R fun b8 w83 K84 S85 f86=>⟨tv,Jj1 (κ:=K84) 17 (vc:=[.slice ad x25.Won.length ai,.slice ac x25.Plan.length af]) R R R R R R R Z34 R R f86 R fun w87 S88 f89=>⟨tv,Jd (Jq (Jq (Js1 (κ:=K84) [2,4] none [(0,2),(2,2),(4,2),(10,2),(1,0),(3,0),(5,0),(6,1),(7,1),(8,1),(9,2)] [] (by kernel_rfl) (by kernel_rfl) fun w91 S90=>Jf R (Jb2 U39 R Z37 R R) (Jf R (Jb2 U39 R Z37 R R) (Jf R (Jb2 U42 R Z2 R R) (Jn 1 R ?_))))))⟩⟩⟩
 have f92:=f54.stp (S66.tr (S78.tr (S85.tr (S88.tr S90)))) R R
 refine Jg R (Jd2 (cs:=[.slice ab p0.Arena.Owner.length aa,.slice ae p0.Arena.Next.length ah]) I37 Z37 R R R (haC (f92.lds 0 2 R) R)) (Jg R (Jd2 (cs:=[.slice ab p0.Arena.Owner.length aa,.slice ae p0.Arena.Next.length ah]) I37 Z37 R R R (haC (f92.lds 0 2 R) R)) (Jg R (Jc2 I2 R R (hvC ((f55.stp (S66.tr (S78.tr (S85.tr (S88.tr S90)))) R R).ld 1 R R) R)) (Jn1 (κ:=K84) (E:=E6) 18 [] (parts:=[(0,.tmp 31)]) (cells:=[vi p2.V]) (xs:=([p2.V]:List Int)) R R R R R R Y22 Tryzinfo2 R R R R R R R R R R ⟨[vi p2.V],[],Zl K84 w91 [],Zl K84 w91 [],R,Zl.sp (l1:=[]) (l2:=[]) R,Zl.sr (l1:=[]) (l2:=[]),R,R⟩ fun ay au w94 K95 S96 f97=>⟨(S96.cl R),Ob h fun x33 hx33 h=>?_⟩)))
 have f98:=f56.stp (S66.tr (S78.tr (S85.tr (S88.tr (S90.tr S96))))) R R
 have f99:=f57.stp (S66.tr (S78.tr (S85.tr (S88.tr (S90.tr S96))))) R R
 refine Jh R R R C46 (i_markOf_ok (κ:=fun b=>mp [] 0 (K95 b)) (p0:=p0.Arena) (Jl2 f98 (mp [] 0) R R) (Jl2 f99 (mp [] 0) R R) (Jl2 f97.rdc (mp [] 0) R R) hx33) ?_
 rintro _ w100 ⟨k101,aw,aA,rfl,e102,f103⟩
 obtain⟨K104,S105,m106⟩:=Ji e102 19 R
 refine⟨((S96.tr S105).cl R),Ob h fun x34 hx34 h=>Jh R R R C45 (i_leadTo_ok (κ:=fun b=>mp [] 0 (K104 b)) (p0:=p0.Arena) (Jl2 (f98.stp S105 R R) (mp [] 0) R R) (Jl2 (f99.stp S105 R R) (mp [] 0) R R) (Jl2 (f103.mx no_bool m106 R (R:19+2=21)).rdc (mp [] 0) R R) hx34) ?_⟩
 rintro _ w111 ⟨k112,ap,aq,rfl,e113,f114⟩
 obtain⟨K115,S116,m117⟩:=Ji e113 22 R
 refine⟨((S96.tr (S105.tr S116)).cl R),?_⟩
 have f119:=f114.mx no_bool m117 R (R:22+2=24)
 refine Jf R (Je2 U70 R R) (Jt1 (Jd ?_))
 have hN120:(x34.length:Int)≤9223372036854775807:=f119.len_le
 refine Ob h fun q2 hq122 hK121=>?_
 clear h
 refine Jx1 (fun L w'=>∃κ',∃s3:(List Int)×(List Int),L=[(6,.pointer (some ⟨b6,0,none⟩)),(8,.pointer (some ⟨b8,0,none⟩))]∧Stp [15,16] K115 w111 κ' w'∧Oc E6 2 κ' w' 15 ad ai s3.1∧x25.Won.length=s3.1.length∧Oc E6 2 κ' w' 16 ac af s3.2∧x25.Plan.length=s3.2.length∧q2=Sum.inr s3) ?_ ?_
 have S001:=(S85.tr (S88.tr (S90.tr (S96.tr (S105.tr S116)))))
 refine Jv (Jy1 (fun k L w'=>∃κ' v36,∃s1:(List Int)×(List Int),L=[(4,.pointer (some ⟨b4,0,none⟩)),(6,.pointer (some ⟨b6,0,none⟩)),(8,.pointer (some ⟨b8,0,none⟩)),(34,.slice ap x34.length aq),(35,vi (x34.length:Int)),(36,vi v36)]∧Stp [15,16] K115 w111 κ' w'∧Oc E6 2 κ' w' 15 ad ai s1.1∧x25.Won.length=s1.1.length∧Oc E6 2 κ' w' 16 ac af s1.2∧x25.Plan.length=s1.2.length∧0≤v36∧Int.toNat ((x34.length:Int)-v36)=k∧cntM (i_ResolvedBy_b0 p1 x34) k v36 s1=some q2) ⟨_,_,⟨K115,0,((x25.Won:(List Int)),(x25.Plan:(List Int))),R,(Jx2 _ _).wk R,((f75.mx (no_int _) m79 R (R:13+2=15)).stp S001 R R),R,((f76.mx (no_int _) m79 R (R:13+3=16)).stp S001 R R),R,(by decide),(by simp),hq122⟩,(KM R)⟩ ?_)
 rintro k _ w130 ⟨K131,v36,s1,rfl,S132,f133,hn134,f135,hn136,hj120,hJ120,h⟩
 rcases k with _ | k
 have hk139:=h;obtain⟨o120,h⟩:=ex_eq (Sum.inr (Sum.inl s1):(Answer×Bool)⊕(((List Int)×(List Int))⊕((List Int)×(List Int))))
 have hc120:decide (v36<(x34.length:Int))=false:=Jo2 (by omega)
 refine Je [2] R (Jb 1 R (Jq (Jw2 R hc120 (Jc1 (Jt (Jt ?_))))))
 cases h
 have h:=hk139
 refine Jb1 ?_
 cases h
 exact Jw1 _ ⟨K131,((s1.1:(List Int)),(s1.2:(List Int))),R,S132.wk R,f133,hn134,f135,hn136,R⟩ (KM R)
 obtain⟨o120,h,hk139⟩:=BI h;unfold i_ResolvedBy_b0 at h
 have hc120:decide (v36<(x34.length:Int))=true:=Jn2 (by omega)
 refine Je [2] R (Jb 1 R (Jq (Jv2 R hc120 (Js (Jp (Jq (Jv (Je [2,2,1,2,2] R (Jn 1 R (Ob h fun x39 hx39 h=>Jf R (Jf2 f119.rdc hx39 U70 Z4 R R R R) (Jl tv R R R R (Jc2 I4 R R (hvE ((f119.stp S132 R R).rdc.gBool hx39))) (Jb 2 R (Je [2,2] R (Jb 2 R (Ob h fun q4 h hK141=>Jx1 (fun L w'=>∃κ',L=[(4,.pointer (some ⟨b4,0,none⟩)),(6,.pointer (some ⟨b6,0,none⟩)),(8,.pointer (some ⟨b8,0,none⟩)),(34,.slice ap x34.length aq),(35,vi (x34.length:Int)),(36,vi v36)]∧Stp [15,16] K131 w130 κ' w'∧Oc E6 2 κ' w' 15 ad ai q4.1∧x25.Won.length=q4.1.length∧Oc E6 2 κ' w' 16 ac af q4.2∧x25.Plan.length=q4.2.length) ?_ ?_)))))))))))))))
 revert h
 cases ht149:(!x39)
 refine JF fun h=>Jy R (Js ?_)
 cases h
 exact Jw1 _ ⟨K131,R,(Jx2 _ _).wk R,f133,hn134,f135,hn136⟩ (KM R)
 refine JT fun h=>Jx R (Jq (Js1 (κ:=K131) [0,3,17] none [(0,2),(2,2),(3,2),(5,2),(1,0),(4,0),(6,2),(7,0),(8,2),(9,1)] [] (by kernel_rfl) (by kernel_rfl) fun w151 S150=>Jf R (Jb2 U34 R Z22 R R) (Jn 1 R (Jf R (Jb2 U34 R Z22 R R) (Jn 1 R ?_)))))
 have f152:=f89.stp (S90.tr (S96.tr (S105.tr (S116.tr (S132.tr S150))))) R R
 refine Jg R (Jc2 I22 R R (hvC (f152.ld 0 R R) R)) ?_
 have f153:=f18.stp (S28.tr (S47.tr (S66.tr (S78.tr (S85.tr (S88.tr (S90.tr (S96.tr (S105.tr (S116.tr (S132.tr S150))))))))))) R R
 refine Jg R (Jc2 I22 R R (hvC (f153.ld 0 R R) R)) (Ob h fun x49 hx49 h=>Jf R (Jf2 f22 hx49 U22 Z2 R R R R) (Jg R (Jc2 I2 R R (hvC ((f22.stp (S28.tr (S47.tr (S66.tr (S78.tr (S85.tr (S88.tr (S90.tr (S96.tr (S105.tr (S116.tr (S132.tr S150))))))))))) R R).gInt hx49) R)) (Ob h fun x51 hx51 h=>Jf R (Jf2 f133.rdc hx51 U22 Z2 R R hn134 R) (Ob h fun y333 hy333 h=>Jk1 (κ:=K131) (E:=E6) 15 [] R R R R R R R R Z2 R R R R (f133.stp S150 R R) hy333 fun w156 K157 S158 f159=>⟨(S158.cl R),?_⟩))))
 have hn160:x25.Won.length=y333.length:=hn134.trans (Jt2 hy333).2.2.2.symm
 refine Jt1 (Jd (Js1 (κ:=K157) [0,3,17] none [(0,2),(2,2),(3,2),(5,2),(1,0),(4,0),(6,2),(7,0),(8,2),(9,1)] [] (by kernel_rfl) (by kernel_rfl) fun w162 S161=>Jf R (Jb2 U34 R Z22 R R) (Jn 1 R (Jf R (Jb2 U34 R Z22 R R) (Jn 1 R (Jg R (Jc2 I22 R R (hvC ((f152.stp (S158.tr S161) R R).ld 1 R R) R)) (Jg R (Jc2 I22 R R (hvC ((f153.stp (S158.tr S161) R R).ld 1 R R) R)) (Ob h fun x58 hx58 h=>Jf R (Jf2 f23 hx58 U22 Z2 R R R R) (Jg R (Jc2 I2 R R (hvC ((f23.stp (S28.tr (S47.tr (S66.tr (S78.tr (S85.tr (S88.tr (S90.tr (S96.tr (S105.tr (S116.tr (S132.tr (S150.tr (S158.tr S161))))))))))))) R R).gInt hx58) R)) (Ob h fun x60 hx60 h=>Jf R (Jf2 f135.rdc hx60 U22 Z2 R R hn136 R) (Ob h fun y334 hy334 h=>Jk1 (κ:=K157) (E:=E6) 16 [] R R R R R R R R Z2 R R R R (f135.stp (S150.tr (S158.tr S161)) R R) hy334 fun w167 K168 S169 f170=>⟨(S169.cl R),?_⟩)))))))))))
 have hn171:x25.Plan.length=y334.length:=hn136.trans (Jt2 hy334).2.2.2.symm
 refine Jt1 (Jo ?_)
 cases h
 exact Jw1 _ ⟨K168,R,(S150.tr (S158.tr (S161.tr S169))).wk R,(f159.stp (S161.tr S169) R R),hn160,f170,hn171⟩ (KM R)
 rintro _ w142 ⟨K143,rfl,S144,f145,hn146,f147,hn148⟩
 have h:=hK141
 refine Jz (Jp (Ja [2,2] R (Jc 2 R ?_)))
 have hw120:IntKind.wrap .i64 (v36+1)=v36+1:=wr1 hj120 (Jm2 hc120) hN120
 rw[hw120]
 have hc120:=Jm2 hc120
 cases h
 exact Jz1 fun a ha=>⟨k,_,Ja3 _,⟨K143,v36+1,((q4.1:(List Int)),(q4.2:(List Int))),R,(S132.tr S144).wk R,f145,hn146,f147,hn148,by omega,by omega,hk139⟩,(ha.mm R)⟩
 rintro _ w123 ⟨K124,s3,rfl,S125,f126,hn127,f128,hn129,rfl⟩
 have h:=hK121
 dsimp only[aft]at h
 refine Jp (Je [1,1,2] R (Jl tv R R R R (Jd2 (cs:=[.slice ad x25.Won.length ai,.slice ac x25.Plan.length af]) I34 Z34 R R R (haE (f89.stp (S90.tr (S96.tr (S105.tr (S116.tr S125)))) R R).cells)) (Jj1 (κ:=K124) 5 (vc:=[.slice ad x25.Won.length ai,.slice ac x25.Plan.length af]) R R R R R R R Z34 R R (f16.stp (S28.tr (S47.tr (S66.tr (S78.tr (S85.tr (S88.tr (S90.tr (S96.tr (S105.tr (S116.tr S125)))))))))) R R) R fun w175 S176 f177=>⟨tv,Jb 1 R (Ju (Ja2 (l:=[.cell 6 34,.tmp 7]) V12 (res_cellA R f177 I34 Z34 R (Jp2 R R)) R ?_))⟩)))
 cases h
 exact⟨(fun b=>ren [(15,2),(16,3)] (K124 b)),ad,ai,ac,af,(by simp only[hn127,hn129]),((hE.stp (S3.tr (S7.tr (S11.tr (S15.tr (S28.tr (S47.tr (S66.tr (S78.tr (S85.tr (S88.tr (S90.tr (S96.tr (S105.tr (S116.tr (S125.tr S176))))))))))))))) R R).map (ren [(15,2),(16,3)]) R R),((f126.stp S176 R R).map (ren [(15,2),(16,3)]) R R),((f128.stp S176 R R).map (ren [(15,2),(16,3)]) R R)⟩
 refine JT fun h=>Jx R (Je [2,1,2] R (Jf R (rn_build (parts:=[]) (cells:=[.slice none 0 0,.slice none 0 0]) R R (by kernel_rfl)) (Jj1 (κ:=K46) 5 (vc:=[.slice none 0 0,.slice none 0 0]) R R R R R R R Z34 R R (f16.stp (S28.tr S47) R R) R fun w50 S51 f52=>⟨tv,Jb 1 R (Ju (Jw (Ja2 (l:=[.cell 6 34,.tmp 7]) V12 (res_cellA R f52 I34 Z34 R (Jp2 R R)) R ?_)))⟩)))
 cases h
 exact⟨K46,none,0,none,0,R,(hE.stp (S3.tr (S7.tr (S11.tr (S15.tr (S28.tr (S47.tr S51)))))) R R),Ow.nil,Ow.nil⟩
theorem s_BadLoops_ok {w:World}{κ:Col}{ae ac ak ao ap aq}{p0:Parity}{p1:Int}{a2 u2}{p2:(List Int)}{a3 u3}{p3:(List Int)}(g0_0_0:Rd (Rp.int .i64) κ w 0 ae ac p0.Arena.Owner) (g0_0_1:Rd (Rp.sl (Rp.int .i64)) κ w 0 ak ao p0.Arena.Next) (g0_1:Rd (Rp.int .i64) κ w 0 ap aq p0.Prio) (g2:Rd (Rp.int .i64) κ w 0 a2 u2 p2) (g3:Rd (Rp.int .i64) κ w 0 a3 u3 p3){r:(List Int)}(h:s_BadLoops p0 p1 p2 p3=some r):Ret Tryz.prog 134 [.agg #[.slice ae p0.Arena.Owner.length ac,.slice ak p0.Arena.Next.length ao,.slice ap p0.Prio.length aq],vi p1,.slice a2 p2.length u2,.slice a3 p3.length u3] w (fun v w'=>∃(κ':Col) (ra0:Option Addr) (ru0:Nat),v= .slice ra0 r.length ru0∧Ent κ w κ' w'∧Oc E6 2 κ' w' 2 ra0 ru0 r):=by
 unfold s_BadLoops at h
 refine Ret.enter F134 R N134 R ?_
 dsimp only[envOf]
 have hE:=Ent.refl κ w
 refine Je [1,2] R (Jf1 (κ:=κ) 2 R R R R R R R fun b4 w1 K2 S3 f4=>⟨tv,Jb 1 R (Je [1,2] R (Jo1 (κ:=K2) (E:=E6) 3 R R R R R Y22 Tryzinfo2 R fun au ar w5 K6 S7 f8=>⟨tv,Jb 1 R (Jq (Je [1,2,2,2,1,2] R ?_))⟩))⟩)
 have f9:=f4.stp S7 R R
 refine Jl tv R R R R (Jd2 (cs:=[.slice ae p0.Arena.Owner.length ac,.slice ak p0.Arena.Next.length ao,.slice ap p0.Prio.length aq]) I39 Z39 R R R (haE f9.cells)) (Jn 3 R (Ob h fun x20 hx20 h=>?_))
 have f10:=g0_0_0.stp (S3.tr S7) R R
 have f11:=g0_0_1.stp (S3.tr S7) R R
 have f12:=g0_1.stp (S3.tr S7) R R
 have f13:=g2.stp (S3.tr S7) R R
 have f14:=g3.stp (S3.tr S7) R R
 refine Jh R R R C133 (s_l6Right_ok (κ:=fun b=>mp [] 0 (K6 b)) (p0:=p0) (Jl2 f10 (mp [] 0) R R) (Jl2 f11 (mp [] 0) R R) (Jl2 f12 (mp [] 0) R R) (Jl2 f13 (mp [] 0) R R) (Jl2 f14 (mp [] 0) R R) hx20) ?_
 rintro _ w15 ⟨k16,rfl,e17⟩
 obtain⟨K18,S19,m20⟩:=Ji e17 4 R
 refine⟨tv,Jb 1 R ?_⟩
 revert h
 cases ht22:(!x20)
 refine JF fun h=>Jy R (Js (Jp (Je [2,1,2,1,2] R (Jf R (Jb2 U39 R Z37 R R) ?_))))
 have f25:=f9.stp S19 R R
 refine Jl tv R R R R (Jd2 (cs:=[.slice ae p0.Arena.Owner.length ac,.slice ak p0.Arena.Next.length ao]) I37 Z37 R R R (haE (f25.lds 0 2 R))) (Jn 1 R (Ob h fun x26 hx26 h=>Jh R R R C156 (s_l6Edges_ok (κ:=fun b=>mp [] 1 (K18 b)) (p0:=p0.Arena) (Jl2 (f10.stp S19 R R) (mp [] 1) R R) (Jl2 (f11.stp S19 R R) (mp [] 1) R R) (Jl2 (f14.stp S19 R R) (mp [] 1) R R) hx26) ?_))
 rintro _ w29 ⟨k30,al,af,rfl,e31,f32⟩
 obtain⟨K33,S34,m35,z36⟩:=Jj e31 6 R
 refine⟨tv,Jb 1 R (Jq (Je [2] R (Jb 1 R ?_)))⟩
 have hN38:(p2.length:Int)≤9223372036854775807:=f13.len_le
 refine Ob h fun q2 hq40 hK39=>?_
 clear h
 refine Jx1 (fun L w'=>∃κ',∃s3:(List Int),∃an ad,L=[(9,.slice an s3.length ad)]∧Stp [3,9] K33 w29 κ' w'∧Oc E6 2 κ' w' 3 an ad s3∧q2=Sum.inr s3) ?_ ?_
 refine Jv (Jy1 (fun k L w'=>∃κ' v11,∃s1:(List Int),∃aa ab,L=[(1,vi p1),(2,.slice a2 p2.length u2),(4,.pointer (some ⟨b4,0,none⟩)),(9,.slice aa s1.length ab),(10,.slice al x26.length af),(11,vi v11)]∧Stp [3,9] K33 w29 κ' w'∧Oc E6 2 κ' w' 3 aa ab s1∧0≤v11∧Int.toNat ((p2.length:Int)-v11)=k∧cntM (s_BadLoops_b0 p0 p1 p2 x26) k v11 s1=some q2) ⟨_,_,⟨K33,0,(([]:List Int):(List Int)),au,ar,R,(Jx2 _ _).wk R,(f8.stp (S19.tr S34) R R),(by decide),(by simp),hq40⟩,(KM R)⟩ ?_)
 rintro k _ w45 ⟨K46,v11,s1,aa,ab,rfl,S47,f48,hj38,hJ38,h⟩
 rcases k with _ | k
 have hk50:=h;obtain⟨o38,h⟩:=ex_eq (Sum.inr (Sum.inl s1):(List Int)⊕(((List Int))⊕((List Int))))
 have hc38:decide (v11<(p2.length:Int))=false:=Jo2 (by omega)
 refine Jq (Je [2,2,2,2] R (Jn 2 R (Jf R (Je2 U22 R R) (Jb 1 R (Jw2 R hc38 (Jc1 (Jt (Jt ?_))))))))
 cases h
 have h:=hk50
 refine Jb1 ?_
 cases h
 exact Jw1 _ ⟨K46,(s1:(List Int)),aa,ab,R,S47.wk R,f48,R⟩ (KM R)
 obtain⟨o38,h,hk50⟩:=BI h;unfold s_BadLoops_b0 at h
 have hc38:decide (v11<(p2.length:Int))=true:=Jn2 (by omega)
 refine Jq (Je [2,2,2,2] R (Jn 2 R (Jf R (Je2 U22 R R) (Jb 1 R (Jv2 R hc38 (Js (Jp (Jq (Jv (Je [2,2,2,1,2] R (Jn 2 R (Ob h fun x35 hx35 h=>Jf R (Jf2 f13 hx35 U22 Z2 R R R R) ?_))))))))))))
 have f51:=f13.stp (S19.tr (S34.tr S47)) R R
 refine Jl tv R R R R (Jc2 I2 R R (hvE (f51.gInt hx35))) (Jb 1 R (Jq (Je [2,1,2,2,1,2,2,2] R (Jf R (Jb2 U39 R Z22 R R) ?_))))
 have f52:=f25.stp (S34.tr S47) R R
 refine Jl tv R R R R (Jc2 I22 R R (hvE (f52.ld 2 R R))) (Jn 1 R (Ob h fun x40 hx40 h=>Jf R (Jf2 f12 hx40 U22 Z2 R R R R) ?_))
 have f53:=f12.stp (S19.tr (S34.tr S47)) R R
 refine Jl tv R R R R (Jc2 I2 R R (hvE (f53.gInt hx40))) (Jf R (rn_rem R R R (by decide)) (Jb 2 R ?_))
 revert h
 cases ht54:((Int.tmod x40 2)==p1)
 refine JF fun h=>Jy R (Js (Jp (Je [2,1,2,1,2] R (Jf R (Jb2 U39 R Z22 R R) (Jl tv R R R R (Jc2 I22 R R (hvE (f52.ld 2 R R))) (Jf R (Je2 U22 R R) (Ob h fun x48 hx48 h=>Jl1 (κ:=K46) (E:=Ep.bool) (z:=(false:Bool)) 9 R R R R R R R Y70 Tryzinfo4 R R R R R (fun _ _ _=>R) (Ju2 hx48) fun am ai w55 K56 S57 f58=>⟨tv,Jb 1 R (Jq (Je [2] R (Jb 1 R ?_)))⟩)))))))
 have hN59:(p2.length:Int)≤9223372036854775807:=f51.len_le
 refine Ob h fun q5 hq61 hK60=>?_
 clear h
 refine Jx1 (fun L w'=>∃κ',∃s6:(List Bool),L=[(1,vi p1),(2,.slice a2 p2.length u2),(4,.pointer (some ⟨b4,0,none⟩)),(9,.slice aa s1.length ab),(10,.slice al x26.length af),(11,vi v11),(12,vi x35),(13,.slice am x48.length ai)]∧Stp [9] K56 w55 κ' w'∧Oc Ep.bool 4 κ' w' 9 am ai s6∧x48.length=s6.length∧q5=Sum.inr s6) ?_ ?_
 refine Jv (Jy1 (fun k L w'=>∃κ' v14,∃s4:(List Bool),L=[(1,vi p1),(2,.slice a2 p2.length u2),(4,.pointer (some ⟨b4,0,none⟩)),(9,.slice aa s1.length ab),(10,.slice al x26.length af),(11,vi v11),(12,vi x35),(13,.slice am x48.length ai),(14,vi v14)]∧Stp [9] K56 w55 κ' w'∧Oc Ep.bool 4 κ' w' 9 am ai s4∧x48.length=s4.length∧0≤v14∧Int.toNat ((p2.length:Int)-v14)=k∧cntM (s_BadLoops_b2 p0 p2 x35) k v14 s4=some q5) ⟨_,_,⟨K56,0,(x48:(List Bool)),R,(Jx2 _ _).wk R,f58,R,(by decide),(by simp),hq61⟩,(KM R)⟩ ?_)
 rintro k _ w67 ⟨K68,v14,s4,rfl,S69,f70,hn71,hj59,hJ59,h⟩
 rcases k with _ | k
 have hk72:=h;obtain⟨o59,h⟩:=ex_eq (Sum.inr (Sum.inl s4):(List Int)⊕(((List Bool))⊕((List Bool))))
 have hc59:decide (v14<(p2.length:Int))=false:=Jo2 (by omega)
 refine Jq (Je [2,2,2,2] R (Jn 2 R (Jf R (Je2 U22 R R) (Jb 1 R (Jw2 R hc59 (Jc1 (Jt (Jt ?_))))))))
 cases h
 have h:=hk72
 refine Jb1 ?_
 cases h
 exact Jw1 _ ⟨K68,(s4:(List Bool)),R,S69.wk R,f70,hn71,R⟩ (KM R)
 obtain⟨o59,h,hk72⟩:=BI h;unfold s_BadLoops_b2 at h
 have hc59:decide (v14<(p2.length:Int))=true:=Jn2 (by omega)
 refine Jq (Je [2,2,2,2] R (Jn 2 R (Jf R (Je2 U22 R R) (Jb 1 R (Jv2 R hc59 (Js (Jp (Jq (Jv (Js1 (κ:=K68) [0,2] none [(0,2),(1,2),(2,2),(3,2),(5,2),(7,2),(8,2),(9,2),(13,2),(15,2),(4,0),(6,0),(10,0),(11,2),(12,0),(14,0),(16,2),(17,0),(18,2),(19,2),(20,1)] [] (by kernel_rfl) (by kernel_rfl) fun w74 S73=>Jn 3 R (Ob h fun x58 hx58 h=>Jf R (Jf2 f51 hx58 U22 Z2 R R R R) (Jf R (Jb2 U39 R Z22 R R) (Jn 2 R (Ob h fun x64 hx64 h=>Jf R (Jf2 f51 hx64 U22 Z2 R R R R) (Jf R (Jb2 U39 R Z22 R R) (Jn 1 R ?_))))))))))))))))
 have f75:=f51.stp (S57.tr (S69.tr S73)) R R
 refine Jg R (Jc2 I2 R R (hvC (f75.gInt hx58) R)) ?_
 have f76:=f52.stp (S57.tr (S69.tr S73)) R R
 refine Jg R (Jc2 I22 R R (hvC (f76.ld 2 R R) R)) (Jg R (Jc2 I2 R R (hvC (f75.gInt hx64) R)) (Ob h fun x66 hx66 h=>Jf R (Jf2 f53 hx66 U22 Z2 R R R R) ?_))
 have f77:=f53.stp (S57.tr (S69.tr S73)) R R
 refine Jg R (Jc2 I2 R R (hvC (f77.gInt hx66) R)) (Jg R (Jc2 I22 R R (hvC (f76.ld 2 R R) R)) (Ob h fun x71 hx71 h=>Jf R (Jf2 f77 hx71 U22 Z2 R R R R) (Jg R (Jc2 I2 R R (hvC (f77.gInt hx71) R)) (Jn 1 R (Ob h fun x74 hx74 h=>Jf R (Jf2 f70.rdc hx74 U70 Z4 R R hn71 R) (Ob h fun y377 hy377 h=>Jk1 (κ:=K68) (E:=Ep.bool) 9 [] R R R R R R R R Z4 R R R R (f70.stp S73 R R) hy377 fun w79 K80 S81 f82=>⟨(S81.cl R),?_⟩))))))
 have hn83:x48.length=y377.length:=hn71.trans (Jt2 hy377).2.2.2.symm
 refine Jt1 (Jo (Jz (Jp (Ja [2,2,2] R (Jc 3 R ?_)))))
 have hw59:IntKind.wrap .i64 (v14+1)=v14+1:=wr1 hj59 (Jm2 hc59) hN59
 rw[hw59]
 have hc59:=Jm2 hc59
 cases h
 exact Jz1 fun a ha=>⟨k,_,Ja3 _,⟨K80,v14+1,(y377:(List Bool)),R,(S69.tr (S73.tr S81)).wk R,f82,hn83,by omega,by omega,hk72⟩,(ha.mm R)⟩
 rintro _ w62 ⟨K63,s6,rfl,S64,f65,hn66,rfl⟩
 have h:=hK60
 dsimp only[aft]at h
 refine Jp (Je [2,2,2,1,1,2,2,1] R (Jn 3 R (Jn1 (κ:=K63) (E:=E6) 10 [] (parts:=[(0,.tmp 77)]) (cells:=[vi x35]) (xs:=([x35]:List Int)) R R R R R R Y22 Tryzinfo2 R R R R R R R R R R ⟨[vi x35],[],Zl K63 w62 [],Zl K63 w62 [],R,Zl.sp (l1:=[]) (l2:=[]) R,Zl.sr (l1:=[]) (l2:=[]),R,R⟩ fun aB ax w84 K85 S86 f87=>⟨tv,Ob h fun x79 hx79 h=>Jh R R R C157 (Ret.cast (by simp only[hn66,List.cons_append,List.nil_append]) (s_l1Beyond_ok (κ:=fun b=>mp [] 0 (K85 b)) (Jl2 ((f32.mxz z36 m35 R (R:6+2=8)).stp (S47.tr (S57.tr (S64.tr S86))) R R).rdc (mp [] 0) R R) (Jl2 (f65.stp S86 R R).rdc (mp [] 0) R R) (Jl2 f87.rdc (mp [] 0) R R) hx79)) ?_⟩)))
 rintro _ w90 ⟨k91,az,aC,rfl,e92,f93⟩
 obtain⟨K94,S95,m96⟩:=Ji e92 11 R
 refine⟨tv,?_⟩
 have f98:=f93.mx no_bool m96 R (R:11+2=13)
 refine Jn 1 R (Ob h fun x81 hx81 h=>Jf R (Jf2 f98.rdc hx81 U70 Z4 R R R R) (Jl tv R R R R (Jc2 I4 R R (hvE (f98.rdc.gBool hx81))) (Jd (Ob h fun q7 h hK99=>Jx1 (fun L w'=>∃κ' ah aj,L=[(1,vi p1),(2,.slice a2 p2.length u2),(4,.pointer (some ⟨b4,0,none⟩)),(9,.slice ah q7.length aj),(10,.slice al x26.length af),(11,vi v11)]∧Stp [3] K94 w90 κ' w'∧Oc E6 2 κ' w' 3 ah aj q7) ?_ ?_))))
 revert h
 cases ht104:x81
 refine JF fun h=>Jy R (Js ?_)
 cases h
 exact Jw1 _ ⟨K94,aa,ab,R,(Jx2 _ _).wk R,(f48.stp (S57.tr (S64.tr (S86.tr S95))) R R)⟩ (KM R)
 refine JT fun h=>Jx R (Ja [2,2,1,1,2] R (Jn 2 R (Jn1 (κ:=K94) (E:=E6) 14 [] (parts:=[(0,.tmp 84)]) (cells:=[vi x35]) (xs:=([x35]:List Int)) R R R R R R Y22 Tryzinfo2 R R R R R R R R R R ⟨[vi x35],[],Zl K94 w90 [],Zl K94 w90 [],R,Zl.sp (l1:=[]) (l2:=[]) R,Zl.sr (l1:=[]) (l2:=[]),R,R⟩ fun ay aA w105 K106 S107 f108=>⟨tv,Ob h fun x86 hx86 h=>Jm1 (κ:=K106) (E:=E6) 3 [] R R R R R R R R R Y22 Tryzinfo2 R R R R (f48.stp (S57.tr (S64.tr (S86.tr (S95.tr S107)))) R R) (Sl.srcP (pu_int _) f108.rdc) sy_false hx86 R fun av aw w110 K111 S112 f113=>⟨tv,Jc 1 R ?_⟩⟩)))
 cases h
 exact Jw1 _ ⟨K111,av,aw,R,(S107.tr S112).wk R,f113⟩ (KM R)
 rintro _ w100 ⟨K101,ah,aj,rfl,S102,f103⟩
 have h:=hK99
 refine Jz (Jp (Ja [2,2,2] R (Jc 3 R ?_)))
 have hw38:IntKind.wrap .i64 (v11+1)=v11+1:=wr1 hj38 (Jm2 hc38) hN38
 rw[hw38]
 have hc38:=Jm2 hc38
 cases h
 exact Jz1 fun a ha=>⟨k,_,Ja3 _,⟨K101,v11+1,(q7:(List Int)),ah,aj,R,(S47.tr (S57.tr (S64.tr (S86.tr (S95.tr S102))))).wk R,f103,by omega,by omega,hk50⟩,(ha.mm R)⟩
 refine JT fun h=>Jx R (Jc1 (Jt (Jb1 (Jp (Ja [2,2,2] R (Jc 3 R ?_))))))
 have hw38:IntKind.wrap .i64 (v11+1)=v11+1:=wr1 hj38 (Jm2 hc38) hN38
 rw[hw38]
 have hc38:=Jm2 hc38
 cases h
 exact Jz1 fun a ha=>⟨k,_,Ja3 _,⟨K46,v11+1,(s1:(List Int)),aa,ab,R,S47.wk R,f48,by omega,by omega,hk50⟩,(ha.mm R)⟩
 rintro _ w41 ⟨K42,s3,an,ad,rfl,S43,f44,rfl⟩
 have h:=hK39
 dsimp only[aft]at h
 refine Jp (Je [2,2] R (Jb 2 R (Ju (Ja2 (l:=[.tmp 8]) V134 (Jp2 R R) R ?_))))
 cases h
 exact⟨(fun b=>ren [(3,2)] (K42 b)),an,ad,R,((hE.stp (S3.tr (S7.tr (S19.tr (S34.tr S43)))) R R).map (ren [(3,2)]) R R),(f44.map (ren [(3,2)]) R R)⟩
 refine JT fun h=>Jx R (Je [2,2] R (Jb 2 R (Ju (Jw (Ja2 (l:=[.tmp 8]) V134 (Jp2 R R) R ?_)))))
 cases h
 exact⟨(fun b=>ren [(3,2)] (K18 b)),au,ar,R,((hE.stp (S3.tr (S7.tr S19)) R R).map (ren [(3,2)]) R R),((f8.stp S19 R R).map (ren [(3,2)]) R R)⟩
end Go.Proofs.YtmiilifclnanlaaGreat
