/- The walks, part 9. By program. -/
import Derived.Test.YtpcjbkgbnoocaaaGreatFns8DU
set_option linter.unusedVariables false
set_option linter.unusedSimpArgs false
open Sum renaming inr → yk
namespace Go.Proofs.YtpcjbkgbnoocaaaGreat
open Go Go.Wk Go.Proofs
set_option maxRecDepth 100000
set_option maxHeartbeats 1000000
variable {w:World}{κ:Col}
theorem oZ {ak am aj ao al an}{p0:Parity}(g0_0_0:Rd (Rp.int .i64) κ w 0 ak am p0.Arena.Owner) (g0_0_1:Rd (Rp.sl (Rp.int .i64)) κ w 0 aj ao p0.Arena.Next) (g0_1:Rd (Rp.int .i64) κ w 0 al an p0.Prio){r:Answer}(h:j0 p0=some r):Ret Tryz.prog 71 [.agg #[.slice ak p0.Arena.Owner.length am,.slice aj p0.Arena.Next.length ao,.slice al p0.Prio.length an]] w (λv w'=>∃(κ':Col) (ra0:Option Addr) (ru0:Nat) (ra1:Option Addr) (ru1:Nat),v= .agg #[.slice ra0 r.Won.length ru0,.slice ra1 r.Plan.length ru1]/\Ent κ w κ' w'/\Oc E6 2 κ' w' 2 ra0 ru0 r.Won/\Oc E6 2 κ' w' 3 ra1 ru1 r.Plan):=by
 unfold j0 at h
 refine Jk3 κ F71 R N71 R λhE=>Je [1,1] R<|Jf1 (κ:=κ) 2 R R R R R R R λb1 w1 K2 S3 f4=>Tv<|Jg1 (κ:=K2) 3 R R R R R X113 R λb2 w5 K6 S7 f8=>Tv<|Jd<|Jq<|Je [1,1,2] R ?_
 have f9:=f4.stp S7 R R
 refine Jl tv R R R R (Jd2 (cs:=[.slice ak p0.Arena.Owner.length am,.slice aj p0.Arena.Next.length ao,.slice al p0.Prio.length an]) I108 Z108 R R R<|haE f9.cells)<|Ob h λx6 hx6 h=>?_
 have f10:=g0_0_0.stp (S3.tr S7) R R
 have f11:=g0_0_1.stp (S3.tr S7) R R
 have f12:=g0_1.stp (S3.tr S7) R R
 refine Jh R R R C125 (ni (κ:=Mk K6) (p0:=p0) (Ji3 f10) (Ji3 f11) (Ji3 f12) hx6) ?_
 rintro _ w13 ⟨k14,rfl,e15⟩
 obtain⟨K16,S17,m18⟩:=Ji e15 4 R
 refine Tv<|Jb 1 R ?_
 revert h
 cases ht20:(!x6)
 refine JF λh=>Jy R<|Js<|Jp<|Jq<|Ob h λx14 hx14 h=>Ob h λx15 hx15 h=>Jx1 (λL w'=>∃κ' b3 af ae ah ai,L=[(2,.pointer (some ⟨b2,0,none⟩)),(3,.pointer (some ⟨b3,0,none⟩))]/\Stp [6,9,11,12,13] K16 w13 κ' w'/\Oc E6 2 κ' w' 6 af ae x15.1.Won/\Oc E6 2 κ' w' 7 ah ai x15.1.Plan/\Bc κ' w' 8 b3 113 [.slice af x15.1.Won.length ae,.slice ah x15.1.Plan.length ai]) ?_ ?_
 refine WC.rxt (κ:=K16) [2] none (by kernel_rfl) λw33 S34=>Jq1 (fuel:=8) [(1,2),(0,0),(2,0),(3,2)] (by kernel_rfl) (by kernel_rfl) R<|Jd3 R U108 R Z29 ?_
 have f35:=f9.stp (S17.tr S34) R R
 refine Jg R (Jd2 (cs:=[.slice ak p0.Arena.Owner.length am,.slice aj p0.Arena.Next.length ao,.slice al p0.Prio.length an]) I108 Z108 R R R<|haC f35.cells R)<|Jg R (Jc2 I29 R R<|hvC (f35.ld 2 R R) R)<|Jn3 R U29 R R<|Jp1<|WA.fork2 (fuel:=7) 4 9 (by kernel_rfl) R ?_ ?_
 refine Jh R R R C127 (oX (κ:=Mk K16) hx14) ?_
 rintro _ w36 ⟨k37,aq,ap,rfl,e38,f39⟩
 obtain⟨K40,S41,m42⟩:=Ji e38 6 R
 refine⟨(S41.cl R),?_⟩
 have f44:=f39.mx (bD _) m42 R (R:6+2=8)
 refine Jp1<|WA.fork2 (fuel:=6) 5 9 (by kernel_rfl) R ?_ ?_
 have S001:=(T3 S17 S34 S41)
 refine Jh R R R C126 (kx (κ:=Mk K40) (p0:=p0) (Ji3<|f10.stp S001 R R) (Ji3<|f11.stp S001 R R) (Ji3<|f12.stp S001 R R) (Ji3 f44.rdc) hx15) ?_
 rintro _ w48 ⟨k49,ac,aa,ab,ad,rfl,e50,f51,f52⟩
 obtain⟨K53,S54,m55⟩:=Ji e50 9 R
 exact⟨((S41.tr S54).cl R),Jp1<|Jq1 (fuel:=0) [(6,2),(7,2),(8,2),(9,1),(10,1),(11,2)] (by kernel_rfl) (by kernel_rfl) R<|Jn 3 R<|Jg1 (κ:=K53) 13 R R R R R X113 R λb3 w59 K60 S61 f62=>⟨((T3 S41 S54 S61).cl R),Jj1 (κ:=K60) 13 (vc:=[.slice ac x15.1.Won.length aa,.slice ab x15.1.Plan.length ad]) R R R R R R R Z113 R R f62 R λw63 S64 f65=>⟨((T4 S41 S54 S61 S64).cl R),Jn 1 R<|Jp1<|Jr1 [] (by kernel_rfl) (by kernel_rfl) R<|Jo<|Jw1 _ ⟨(λb=>ren [(11,6),(12,7),(13,8)]<|K60 b),b3,ac,aa,ab,ad,R,(Jy2 ((T5 S34 S41 S54 S61 S64).wk R) [(11,6),(12,7),(13,8)] R),(((f51.mx (bD _) m55 R (R:9+2=11)).stp (S61.tr S64) R R).map (ren [(11,6),(12,7),(13,8)]) R R),(((f52.mx (bD _) m55 R (R:9+3=12)).stp (S61.tr S64) R R).map (ren [(11,6),(12,7),(13,8)]) R R),(f65.map (ren [(11,6),(12,7),(13,8)]) R R)⟩<|KM R⟩⟩⟩
 have S002:=(T3 S17 S34 S41)
 refine Jg1 (κ:=K40) 9 R R R R R X113 R λb3 w68 K69 S70 f71=>⟨((S41.tr S70).cl R),Jp1<|Jq1 (fuel:=0) [(5,1),(6,2),(7,2),(8,2),(10,1),(11,2)] (by kernel_rfl) (by kernel_rfl) R<|Jh R R R C126 (kx (κ:=Mk K69) (p0:=p0) (Ji3<|f10.stp (S002.tr S70) R R) (Ji3<|f11.stp (S002.tr S70) R R) (Ji3<|f12.stp (S002.tr S70) R R) (Ji3 (f44.stp S70 R R).rdc) hx15) ?_⟩
 rintro _ w76 ⟨k77,ac,aa,ab,ad,rfl,e78,f79,f80⟩
 obtain⟨K81,S82,m83⟩:=Ji e78 10 R
 exact⟨((T3 S41 S70 S82).cl R),Jn 3 R<|Jj1 (κ:=K81) 9 (vc:=[.slice ac x15.1.Won.length aa,.slice ab x15.1.Plan.length ad]) R R R R R R R Z113 R R (f71.stp S82 R R) R λw88 S89 f90=>⟨((T4 S41 S70 S82 S89).cl R),Jn 1 R<|Jp1<|Jr1 [] (by kernel_rfl) (by kernel_rfl) R<|Jo<|Jw1 _ ⟨(λb=>ren [(12,6),(13,7),(9,8)]<|K81 b),b3,ac,aa,ab,ad,R,(Jy2 ((T5 S34 S41 S70 S82 S89).wk R) [(12,6),(13,7),(9,8)] R),(((f79.mx (bD _) m83 R (R:10+2=12)).stp S89 R R).map (ren [(12,6),(13,7),(9,8)]) R R),(((f80.mx (bD _) m83 R (R:10+3=13)).stp S89 R R).map (ren [(12,6),(13,7),(9,8)]) R R),(f90.map (ren [(12,6),(13,7),(9,8)]) R R)⟩<|KM R⟩⟩
 refine Jg1 (κ:=K16) 6 R R R R R X113 R λb3 w93 K94 S95 f96=>⟨(S95.cl R),Jp1<|Jq1 (fuel:=0) [(4,1),(5,1),(6,2),(7,2),(8,2),(10,1),(11,2)] (by kernel_rfl) (by kernel_rfl) R<|Jh R R R C127 (oX (κ:=Mk K94) hx14) ?_⟩
 rintro _ w97 ⟨k98,aq,ap,rfl,e99,f100⟩
 obtain⟨K101,S102,m103⟩:=Ji e99 7 R
 have S003:=(T4 S17 S34 S95 S102)
 refine⟨((S95.tr S102).cl R),Jh R R R C126 (kx (κ:=Mk K101) (p0:=p0) (Ji3<|f10.stp S003 R R) (Ji3<|f11.stp S003 R R) (Ji3<|f12.stp S003 R R) (Ji3 (f100.mx (bD _) m103 R (R:7+2=9)).rdc) hx15) ?_⟩
 rintro _ w109 ⟨k110,ac,aa,ab,ad,rfl,e111,f112,f113⟩
 obtain⟨K114,S115,m116⟩:=Ji e111 10 R
 exact⟨((T3 S95 S102 S115).cl R),Jn 3 R<|Jj1 (κ:=K114) 6 (vc:=[.slice ac x15.1.Won.length aa,.slice ab x15.1.Plan.length ad]) R R R R R R R Z113 R R (f96.stp (S102.tr S115) R R) R λw121 S122 f123=>⟨((T4 S95 S102 S115 S122).cl R),Jn 1 R<|Jp1<|Jr1 [] (by kernel_rfl) (by kernel_rfl) R<|Jo<|Jw1 _ ⟨(λb=>ren [(12,6),(13,7),(6,8)]<|K114 b),b3,ac,aa,ab,ad,R,(Jy2 ((T5 S34 S95 S102 S115 S122).wk R) [(12,6),(13,7),(6,8)] R),(((f112.mx (bD _) m116 R (R:10+2=12)).stp S122 R R).map (ren [(12,6),(13,7),(6,8)]) R R),(((f113.mx (bD _) m116 R (R:10+3=13)).stp S122 R R).map (ren [(12,6),(13,7),(6,8)]) R R),(f123.map (ren [(12,6),(13,7),(6,8)]) R R)⟩<|KM R⟩⟩
 rintro _ w26 ⟨K27,b3,af,ae,ah,ai,rfl,S28,f30,f31,f32⟩
 refine Jp<|Je [1,1] R<|Jl tv R R R R (Jd2 (cs:=[.slice af x15.1.Won.length ae,.slice ah x15.1.Plan.length ai]) I113 Z113 R R R<|haE f32.cells)<|Jj1 (κ:=K27) 3 (vc:=[.slice af x15.1.Won.length ae,.slice ah x15.1.Plan.length ai]) R R R R R R R Z113 R R (f8.stp (S17.tr S28) R R) R λw127 S128 f129=>Tv<|Jd<|Ju<|Ja2 (l:=[.cell 2 113]) V71 (bF R f129 I113 Z113 R R) R ?_
 cases h
 exact⟨(λb=>ren [(6,2),(7,3)]<|K27 b),af,ae,ah,ai,R,((hE.stp (T5 S3 S7 S17 S28 S128) R R).map (ren [(6,2),(7,3)]) R R),((f30.stp S128 R R).map (ren [(6,2),(7,3)]) R R),((f31.stp S128 R R).map (ren [(6,2),(7,3)]) R R)⟩
 refine JT λh=>Jx R<|Je [2,1] R<|Jf R (bG (parts:=[]) (cells:=[.slice none 0 0,.slice none 0 0]) R R (by kernel_rfl))<|Jj1 (κ:=K16) 3 (vc:=[.slice none 0 0,.slice none 0 0]) R R R R R R R Z113 R R (f8.stp S17 R R) R λw22 S23 f24=>Tv<|Jd<|Ju<|Jw<|Ja2 (l:=[.cell 2 113]) V71 (bF R f24 I113 Z113 R R) R ?_
 cases h
 exact⟨K16,none,0,none,0,R,(hE.stp (T4 S3 S7 S17 S23) R R),Ow.nil,Ow.nil⟩
theorem pG {p0:Sig}{a1 u1}{p1:(List Clause)}(g1:Rd Clause.rp κ w 0 a1 u1 p1){r:Machine×Bool}(h:gr p0 p1=some r):Ret Tryz.prog 29 [.agg #[vi p0.In,vi p0.Out],.slice a1 p1.length u1] w (λv w'=>∃(κ':Col) (ra0:Option Addr) (ru0:Nat) (ra1:Option Addr) (ru1:Nat),v= .tuple #[.agg #[.slice ra0 r.1.Next.length ru0,.slice ra1 r.1.Out.length ru1],.bool r.2]/\Ent κ w κ' w'/\Oc (Ep.own E6 2) 29 κ' w' 2 ra0 ru0 r.1.Next/\Oc (Ep.own E6 2) 29 κ' w' 3 ra1 ru1 r.1.Out):=by
 unfold gr at h
 refine Jk3 κ F29 R N29 R λhE=>Je [1,1,2] R<|Jf1 (κ:=κ) 2 R R R R R R R λb2 w1 K2 S3 f4=>Tv<|Jg1 (κ:=K2) 3 R R R R R X28 R λb4 w5 K6 S7 f8=>Tv<|Jb 1 R<|Je [1,2,1,2,2,2,1,1,2] R ?_
 have f9:=f4.stp S7 R R
 refine Jl tv R R R R (Jd2 (cs:=[vi p0.In,vi p0.Out]) I25 Z25 R R R<|haE f9.cells)<|Jn 1 R<|Ob h λx18 hx18 h=>Jh R R R C68 (mF (κ:=Mk K6) (p0:=p0) (Ji3<|g1.stp (S3.tr S7) R R) hx18) ?_
 rintro _ w11 ⟨k12,ab,aa,ai,ah,rfl,e13,f14,f15⟩
 obtain⟨K16,S17,m18⟩:=Ji e13 4 R
 refine Tv<|Jn 3 R<|Jg1 (κ:=K16) 8 R R R R R X100 R λb6 w22 K23 S24 f25=>Tv<|Jj1 (κ:=K23) 8 (vc:=[.slice ab x18.1.Next.length aa,.slice ai x18.1.Pairs.length ah]) R R R R R R R Z100 R R f25 R λw26 S27 f28=>Tv<|Jb 1 R<|Jq<|Je3 R ?_
 revert h
 cases ht29:(!x18.2)
 refine JF λh=>Jy R<|Js<|Jp<|Je [1,1,1,2,2,2,2,1,1,2,2] R ?_
 have f35:=f9.stp (T3 S17 S24 S27) R R
 refine Jl tv R R R R (Jd2 (cs:=[vi p0.In,vi p0.Out]) I25 Z25 R R R<|haE f35.cells)<|Jl tv R R R R (Jd2 (cs:=[.slice ab x18.1.Next.length aa,.slice ai x18.1.Pairs.length ah]) I100 Z100 R R R<|haE f28.cells) ?_
 obtain⟨K37,S38,z39⟩:=eR K23 w26 6
 obtain⟨K42,S43,z44⟩:=eR K37 w26 7
 have f45:=Sl.st z44 ((f15.mx Pair.no154 m18 R (R:4+3=7)).stp (T3 S24 S27 S38) R R).rdc
 refine Ob h λx27 hx27 h=>?_
 have f46:=(Sl.st z39 ((f14.mx (cD (bD _) _) m18 R (R:4+2=6)).stp (S24.tr S27) R R).rdc).stp S43 R R
 refine Jh R R R C69 (mw (κ:=λb=>mp [] 1<|K42 b) (p0:=p0) (p1:=x18.1) (Jl2 f46 (mp [] 1) R R) (Jl2 f45 (mp [] 1) R R) hx27) ?_
 rintro _ w47 ⟨k48,ap,aq,au,am,aA,aB,rfl,e49,f50,f51,f52⟩
 obtain⟨K53,S54,m55,z56⟩:=Jj e49 9 R
 refine Tv<|Jn 4 R<|Jg1 (κ:=K53) 14 R R R R R X104 R λb8 w60 K61 S62 f63=>Tv<|Jj1 (κ:=K61) 14 (vc:=[.slice ap x27.1.Owner.length aq,.slice au x27.1.Next.length am]) R R R R R R R Z104 R R f63 R λw64 S65 f66=>Tv<|Jb 2 R<|Jq<|Je3 R ?_
 revert h
 cases ht67:(!x27.2.2)
 refine JF λh=>Jy R<|Js<|Jp<|Je [1,2,1,2,2,2,2,1,1,2,2] R<|Jl tv R R R R (Jd2 (cs:=[.slice ap x27.1.Owner.length aq,.slice au x27.1.Next.length am]) I104 Z104 R R R<|haE f66.cells)<|Jn 1 R ?_
 obtain⟨K74,S75,z76⟩:=eR K61 w64 11
 obtain⟨K79,S80,z81⟩:=eR K74 w64 12
 obtain⟨K84,S85,z86⟩:=eR K79 w64 13
 refine Ob h λx37 hx37 h=>Jh R R R C70 (nh (κ:=λb=>mp [] 1<|K84 b) (p0:=x27.1) (Jl2 ((Sl.st z76 ((f50.mx (bD _) m55 R (R:9+2=11)).stp (S62.tr S65) R R).rdc).stp (S80.tr S85) R R) (mp [] 1) R R) (Jl2 ((Sl.st z81 ((f51.mxz z56 m55 R (R:9+3=12)).stp (T3 S62 S65 S75) R R).rdc).stp S85 R R) (mp [] 1) R R) (Jl2 (Sl.st z86 ((f52.mx Pair.no154 m55 R (R:9+4=13)).stp (T4 S62 S65 S75 S80) R R).rdc) (mp [] 1) R R) hx37) ?_
 rintro _ w90 ⟨k91,ak,ae,aj,ac,ad,af,az,aC,rfl,e92,f93,f94,f95,f96⟩
 obtain⟨K97,S98,m99,z100⟩:=Jj e92 15 R
 refine Tv<|Jn 4 R<|Jg1 (κ:=K97) 21 R R R R R X108 R λb11 w105 K106 S107 f108=>Tv<|Jj1 (κ:=K106) 21 (vc:=[.slice ak x37.1.Arena.Owner.length ae,.slice aj x37.1.Arena.Next.length ac,.slice ad x37.1.Prio.length af]) R R R R R R R Z108 R R f108 R λw109 S110 f111=>Tv<|Jb 2 R<|Jq<|Je3 R ?_
 revert h
 cases ht112:(!x37.2.2)
 refine JF λh=>Jy R<|Js<|Jp<|Je [1,1,1,1] R<|Jl tv R R R R (Jd2 (cs:=[.slice ak x37.1.Arena.Owner.length ae,.slice aj x37.1.Arena.Next.length ac,.slice ad x37.1.Prio.length af]) I108 Z108 R R R<|haE f111.cells)<|Ob h λx45 hx45 h=>?_
 have f118:=(f93.mx (bD _) m99 R (R:15+2=17)).stp (S107.tr S110) R R
 have f119:=(f94.mx (cD (bD _) _) m99 R (R:15+3=18)).stp (S107.tr S110) R R
 have f120:=(f95.mx (bD _) m99 R (R:15+4=19)).stp (S107.tr S110) R R
 refine Jh R R R C71 (oZ (κ:=Mk K106) (p0:=x37.1) (Ji3 f118.rdc) (Ji3 f119.rdc) (Ji3 f120.rdc) hx45) ?_
 rintro _ w121 ⟨k122,av,ay,ax,aw,rfl,e123,f124,f125⟩
 obtain⟨K126,S127,m128⟩:=Ji e123 22 R
 refine Tv<|?_
 have f130:=f124.mx (bD _) m128 R (R:22+2=24)
 refine Jg1 (κ:=K126) 26 R R R R R X113 R λb14 w132 K133 S134 f135=>Tv<|Jj1 (κ:=K133) 26 (vc:=[.slice av x45.Won.length ay,.slice ax x45.Plan.length aw]) R R R R R R R Z113 R R f135 R λw136 S137 f138=>Tv<|Jd<|Jq<|Je [2,1,2,1,2] R<|Jd3 R U113 R Z29<|Jb3 R I29 (f138.ld 0 R R)<|Ob h λx48 hx48 h=>Jc3 R f130.rdc hx48 U29 Z2<|Jb3 R I2 ((f130.stp (S134.tr S137) R R).rdc.gInt hx48)<|Jb 1 R ?_
 revert h
 cases ht140:(x48 !=0)
 have S001:=(T14 S38 S43 S54 S62 S65 S75 S80 S85 S98 S107 S110 S127 S134 S137)
 have S002:=(T12 S54 S62 S65 S75 S80 S85 S98 S107 S110 S127 S134 S137)
 have S003:=(T3 S127 S134 S137)
 refine JF λh=>Jy R<|Js<|Jp<|Je [1,1,1,2,2,1,1,2,2,1,2] R<|Jl tv R R R R (Jd2 (cs:=[vi p0.In,vi p0.Out]) I25 Z25 R R R<|haE (f35.stp S001 R R).cells)<|Jl tv R R R R (Jd2 (cs:=[.slice ab x18.1.Next.length aa,.slice ai x18.1.Pairs.length ah]) I100 Z100 R R R<|haE (f28.stp S001 R R).cells)<|Jl tv R R R R (Jd2 (cs:=[.slice ak x37.1.Arena.Owner.length ae,.slice aj x37.1.Arena.Next.length ac,.slice ad x37.1.Prio.length af]) I108 Z108 R R R<|haE (f111.stp S003 R R).cells)<|Jn 1 R<|Jd3 R U113 R Z29<|Jb3 R I29 (f138.ld 1 R R)<|Ob h λx58 hx58 h=>Jh R R R C89 (rB (κ:=Mk K133) (p0:=p0) (p1:=x18.1) (p2:=x37.1) (Ji3<|f46.stp S002 R R) (Ji3<|f45.stp S002 R R) (Ji3 (f118.stp S003 R R).rdc) (Ji3 (f119.stp S003 R R).rdc) (Ji3 (f120.stp S003 R R).rdc) (Ji3 ((f96.mxz z100 m99 R (R:15+5=20)).stp (T5 S107 S110 S127 S134 S137) R R).rdc) (Ji3 ((f125.mx (bD _) m128 R (R:22+3=25)).stp (S134.tr S137) R R).rdc) hx58) ?_
 rintro _ w156 ⟨k157,ao,al,an,ar,rfl,e158,f159,f160⟩
 obtain⟨K161,S162,m163⟩:=Ji e158 27 R
 refine Tv<|Jn 2 R<|Jj1 (κ:=K161) 3 (vc:=[.slice ao x58.1.Next.length al,.slice an x58.1.Out.length ar]) R R R R R R R Z28 R R (f8.stp (S17.tr<|S24.tr<|S27.tr<|S38.tr<|S43.tr<|S54.tr<|S62.tr<|S65.tr<|S75.tr<|S80.tr<|S85.tr<|S98.tr<|S107.tr<|S110.tr<|S127.tr<|S134.tr<|S137.tr S162) R R) R λw168 S169 f170=>Tv<|Jb 1 R<|Ju<|Ja2 (l:=[.cell 4 28,.tmp 5]) V29 (bF R f170 I28 Z28 R<|Jp2 R R) R ?_
 cases h
 exact⟨(λb=>ren [(29,2),(30,3)]<|K161 b),ao,al,an,ar,R,((hE.stp (S3.tr<|S7.tr<|S17.tr<|S24.tr<|S27.tr<|S38.tr<|S43.tr<|S54.tr<|S62.tr<|S65.tr<|S75.tr<|S80.tr<|S85.tr<|S98.tr<|S107.tr<|S110.tr<|S127.tr<|S134.tr<|S137.tr<|S162.tr S169) R R).map (ren [(29,2),(30,3)]) R R),(((f159.mx (cD (bD _) _) m163 R (R:27+2=29)).stp S169 R R).map (ren [(29,2),(30,3)]) R R),(((f160.mx (cD (bD _) _) m163 R (R:27+3=30)).stp S169 R R).map (ren [(29,2),(30,3)]) R R)⟩
 refine JT λh=>Jx R<|Je [2,1,2] R<|Jf R (bG (parts:=[]) (cells:=[.slice none 0 0,.slice none 0 0]) R R (by kernel_rfl))<|Jj1 (κ:=K133) 3 (vc:=[.slice none 0 0,.slice none 0 0]) R R R R R R R Z28 R R (f8.stp (S17.tr<|S24.tr<|S27.tr<|S38.tr<|S43.tr<|S54.tr<|S62.tr<|S65.tr<|S75.tr<|S80.tr<|S85.tr<|S98.tr<|S107.tr<|S110.tr<|S127.tr<|S134.tr S137) R R) R λw142 S143 f144=>Tv<|Jb 1 R<|Ju<|Jw<|Ja2 (l:=[.cell 4 28,.tmp 5]) V29 (bF R f144 I28 Z28 R<|Jp2 R R) R ?_
 cases h
 exact⟨K133,none,0,none,0,R,(hE.stp (S3.tr<|S7.tr<|S17.tr<|S24.tr<|S27.tr<|S38.tr<|S43.tr<|S54.tr<|S62.tr<|S65.tr<|S75.tr<|S80.tr<|S85.tr<|S98.tr<|S107.tr<|S110.tr<|S127.tr<|S134.tr<|S137.tr S143) R R),Ow.nil,Ow.nil⟩
 refine JT λh=>Jx R<|Je [2,1,2] R<|Jf R (bG (parts:=[]) (cells:=[.slice none 0 0,.slice none 0 0]) R R (by kernel_rfl))<|Jj1 (κ:=K106) 3 (vc:=[.slice none 0 0,.slice none 0 0]) R R R R R R R Z28 R R (f8.stp (T14 S17 S24 S27 S38 S43 S54 S62 S65 S75 S80 S85 S98 S107 S110) R R) R λw114 S115 f116=>Tv<|Jb 1 R<|Ju<|Jw<|Ja2 (l:=[.cell 4 28,.tmp 5]) V29 (bF R f116 I28 Z28 R<|Jp2 R R) R ?_
 cases h
 exact⟨K106,none,0,none,0,R,(hE.stp (S3.tr<|S7.tr<|S17.tr<|S24.tr<|S27.tr<|S38.tr<|S43.tr<|S54.tr<|S62.tr<|S65.tr<|S75.tr<|S80.tr<|S85.tr<|S98.tr<|S107.tr<|S110.tr S115) R R),Ow.nil,Ow.nil⟩
 refine JT λh=>Jx R<|Je [2,1,2] R<|Jf R (bG (parts:=[]) (cells:=[.slice none 0 0,.slice none 0 0]) R R (by kernel_rfl))<|Jj1 (κ:=K61) 3 (vc:=[.slice none 0 0,.slice none 0 0]) R R R R R R R Z28 R R (f8.stp (T8 S17 S24 S27 S38 S43 S54 S62 S65) R R) R λw69 S70 f71=>Tv<|Jb 1 R<|Ju<|Jw<|Ja2 (l:=[.cell 4 28,.tmp 5]) V29 (bF R f71 I28 Z28 R<|Jp2 R R) R ?_
 cases h
 exact⟨K61,none,0,none,0,R,(hE.stp (T11 S3 S7 S17 S24 S27 S38 S43 S54 S62 S65 S70) R R),Ow.nil,Ow.nil⟩
 refine JT λh=>Jx R<|Je [2,1,2] R<|Jf R (bG (parts:=[]) (cells:=[.slice none 0 0,.slice none 0 0]) R R (by kernel_rfl))<|Jj1 (κ:=K23) 3 (vc:=[.slice none 0 0,.slice none 0 0]) R R R R R R R Z28 R R (f8.stp (T3 S17 S24 S27) R R) R λw31 S32 f33=>Tv<|Jb 1 R<|Ju<|Jw<|Ja2 (l:=[.cell 4 28,.tmp 5]) V29 (bF R f33 I28 Z28 R<|Jp2 R R) R ?_
 cases h
 exact⟨K23,none,0,none,0,R,(hE.stp (T6 S3 S7 S17 S24 S27 S32) R R),Ow.nil,Ow.nil⟩
theorem j6 {p0:Sig}{a1 u1}{p1:(List Clause)}(g1:Rd Clause.rp κ w 0 a1 u1 p1){r:Rival×Bool}(h:gj p0 p1=some r):Ret Tryz.prog 18 [.agg #[vi p0.In,vi p0.Out],.slice a1 p1.length u1] w (λv w'=>∃(κ':Col) (ra0:Option Addr) (ru0:Nat) (ra1:Option Addr) (ru1:Nat),v= .tuple #[.agg #[.slice ra0 r.1.In.length ru0,.slice ra1 r.1.Next.length ru1],.bool r.2]/\Ent κ w κ' w'/\Oc E6 2 κ' w' 2 ra0 ru0 r.1.In/\Oc (Ep.own E6 2) 29 κ' w' 3 ra1 ru1 r.1.Next):=by
 unfold gj at h
 refine Jk3 κ F18 R N18 R λhE=>Je [1,1,2] R<|Jf1 (κ:=κ) 2 R R R R R R R λb2 w1 K2 S3 f4=>Tv<|Jg1 (κ:=K2) 3 R R R R R X31 R λb4 w5 K6 S7 f8=>Tv<|Jb 1 R<|Je [1,2,1,2,2,2,1,1,2] R ?_
 have f9:=f4.stp S7 R R
 refine Jl tv R R R R (Jd2 (cs:=[vi p0.In,vi p0.Out]) I25 Z25 R R R<|haE f9.cells)<|Jn 1 R<|Ob h λx29 hx29 h=>Jh R R R C68 (mF (κ:=Mk K6) (p0:=p0) (Ji3<|g1.stp (S3.tr S7) R R) hx29) ?_
 rintro _ w11 ⟨k12,aO,aK,aM,aH,rfl,e13,f14,f15⟩
 obtain⟨K16,S17,m18⟩:=Ji e13 4 R
 refine Tv<|Jn 3 R<|Jg1 (κ:=K16) 8 R R R R R X100 R λb6 w22 K23 S24 f25=>Tv<|Jj1 (κ:=K23) 8 (vc:=[.slice aO x29.1.Next.length aK,.slice aM x29.1.Pairs.length aH]) R R R R R R R Z100 R R f25 R λw26 S27 f28=>Tv<|Jb 1 R<|Je [1,1,1,2,2,2,2,1,1,2,2] R ?_
 have f29:=f9.stp (T3 S17 S24 S27) R R
 refine Jl tv R R R R (Jd2 (cs:=[vi p0.In,vi p0.Out]) I25 Z25 R R R<|haE f29.cells)<|Jl tv R R R R (Jd2 (cs:=[.slice aO x29.1.Next.length aK,.slice aM x29.1.Pairs.length aH]) I100 Z100 R R R<|haE f28.cells) ?_
 obtain⟨K31,S32,z33⟩:=eR K23 w26 6
 obtain⟨K36,S37,z38⟩:=eR K31 w26 7
 refine Ob h λx35 hx35 h=>?_
 have f40:=(Sl.st z33 ((f14.mx (cD (bD _) _) m18 R (R:4+2=6)).stp (S24.tr S27) R R).rdc).stp S37 R R
 refine Jh R R R C69 (mw (κ:=λb=>mp [] 1<|K36 b) (p0:=p0) (p1:=x29.1) (Jl2 f40 (mp [] 1) R R) (Jl2 (Sl.st z38 ((f15.mx Pair.no154 m18 R (R:4+3=7)).stp (T3 S24 S27 S32) R R).rdc) (mp [] 1) R R) hx35) ?_
 rintro _ w41 ⟨k42,aF,aR,aQ,aN,bo,bf,rfl,e43,f44,f45,f46⟩
 obtain⟨K47,S48,m49,z50⟩:=Jj e43 9 R
 refine Tv<|Jn 4 R<|Jg1 (κ:=K47) 14 R R R R R X104 R λb8 w54 K55 S56 f57=>Tv<|Jj1 (κ:=K55) 14 (vc:=[.slice aF x35.1.Owner.length aR,.slice aQ x35.1.Next.length aN]) R R R R R R R Z104 R R f57 R λw58 S59 f60=>Tv<|Jb 2 R<|Je [1,2,1,2,2,2,2,1,1,2,2] R<|Jl tv R R R R (Jd2 (cs:=[.slice aF x35.1.Owner.length aR,.slice aQ x35.1.Next.length aN]) I104 Z104 R R R<|haE f60.cells)<|Jn 1 R ?_
 obtain⟨K62,S63,z64⟩:=eR K55 w58 11
 obtain⟨K67,S68,z69⟩:=eR K62 w58 12
 obtain⟨K72,S73,z74⟩:=eR K67 w58 13
 refine Ob h λx42 hx42 h=>Jh R R R C70 (nh (κ:=λb=>mp [] 1<|K72 b) (p0:=x35.1) (Jl2 ((Sl.st z64 ((f44.mx (bD _) m49 R (R:9+2=11)).stp (S56.tr S59) R R).rdc).stp (S68.tr S73) R R) (mp [] 1) R R) (Jl2 ((Sl.st z69 ((f45.mxz z50 m49 R (R:9+3=12)).stp (T3 S56 S59 S63) R R).rdc).stp S73 R R) (mp [] 1) R R) (Jl2 (Sl.st z74 ((f46.mx Pair.no154 m49 R (R:9+4=13)).stp (T4 S56 S59 S63 S68) R R).rdc) (mp [] 1) R R) hx42) ?_
 rintro _ w78 ⟨k79,aP,aG,aL,aJ,aD,aS,af,ab,rfl,e80,f81,f82,f83,f84⟩
 obtain⟨K85,S86,m87,z88⟩:=Jj e80 15 R
 refine Tv<|?_
 have f92:=f84.mxz z88 m87 R (R:15+5=20)
 refine Jn 4 R<|Jg1 (κ:=K85) 21 R R R R R X108 R λb11 w93 K94 S95 f96=>Tv<|Jj1 (κ:=K94) 21 (vc:=[.slice aP x42.1.Arena.Owner.length aG,.slice aL x42.1.Arena.Next.length aJ,.slice aD x42.1.Prio.length aS]) R R R R R R R Z108 R R f96 R λw97 S98 f99=>Tv<|Jb 2 R<|Jq<|Jg3 [2,2,2,2,2,2,2,2,2,2] 3 R<|Ob h λp51 h hK100=>Ju1 [(3,2),(4,2),(5,2)] [(6,2),(7,2),(8,2),(9,2)] (λL w'=>L=[(2,.pointer (some ⟨b2,0,none⟩)),(4,.pointer (some ⟨b4,0,none⟩)),(6,.pointer (some ⟨b6,0,none⟩)),(11,.pointer (some ⟨b11,0,none⟩)),(12,.slice af x42.2.1.length ab),(13,.bool x42.2.2),(51,.bool p51)]/\∃κ',Stp [] K94 w97 κ' w') tv ?_ ?_
 revert h
 cases ht101:(!x29.2)
 refine JF λh=>Jn 3 R ?_
 cases h
 exact Jv1 _ tv ⟨R,_,Jj3⟩<|KM R
 refine JT λh=>Jn 3 R ?_
 cases h
 exact Jv1 _ tv ⟨R,_,Jj3⟩<|KM R
 rintro _ w102 _ ⟨rfl,K103,S104⟩
 have h:=hK100
 refine Jn 1 R<|Ob h λp55 h hK105=>Ju1 [(7,2),(8,2),(9,2)] [] (λL w'=>L=[(2,.pointer (some ⟨b2,0,none⟩)),(4,.pointer (some ⟨b4,0,none⟩)),(6,.pointer (some ⟨b6,0,none⟩)),(11,.pointer (some ⟨b11,0,none⟩)),(12,.slice af x42.2.1.length ab),(55,.bool p55)]/\∃κ',Stp [] K103 w102 κ' w') tv ?_ ?_
 revert h
 cases ht106:p51
 refine JF λh=>Jn 3 R ?_
 cases h
 exact Jv1 _ tv ⟨R,_,Jj3⟩<|KM R
 refine JT λh=>Jn 3 R ?_
 cases h
 exact Jv1 _ tv ⟨R,_,Jj3⟩<|KM R
 rintro _ w107 _ ⟨rfl,K108,S109⟩
 have h:=hK105
 refine Jd ?_
 revert h
 cases ht110:p55
 refine JF λh=>Jy R<|Js<|Jp<|Je [1,1,1,1] R ?_
 have f116:=f99.stp (S104.tr S109) R R
 refine Jl tv R R R R (Jd2 (cs:=[.slice aP x42.1.Arena.Owner.length aG,.slice aL x42.1.Arena.Next.length aJ,.slice aD x42.1.Prio.length aS]) I108 Z108 R R R<|haE f116.cells)<|Ob h λx58 hx58 h=>?_
 have f118:=(f82.mx (cD (bD _) _) m87 R (R:15+3=18)).stp (T4 S95 S98 S104 S109) R R
 have S001:=(T4 S95 S98 S104 S109)
 refine Jh R R R C71 (oZ (κ:=Mk K108) (p0:=x42.1) (Ji3 ((f81.mx (bD _) m87 R (R:15+2=17)).stp S001 R R).rdc) (Ji3 f118.rdc) (Ji3 ((f83.mx (bD _) m87 R (R:15+4=19)).stp S001 R R).rdc) hx58) ?_
 rintro _ w120 ⟨k121,bb,aX,ba,bd,rfl,e122,f123,f124⟩
 obtain⟨K125,S126,m127⟩:=Ji e122 22 R
 refine Tv<|?_
 have f129:=f123.mx (bD _) m127 R (R:22+2=24)
 have f130:=f124.mx (bD _) m127 R (R:22+3=25)
 refine Jg1 (κ:=K125) 26 R R R R R X113 R λb14 w131 K132 S133 f134=>Tv<|Jj1 (κ:=K132) 26 (vc:=[.slice bb x58.Won.length aX,.slice ba x58.Plan.length bd]) R R R R R R R Z113 R R f134 R λw135 S136 f137=>Tv<|Jd<|Jq<|Je [2,1,2,1,2] R<|Jd3 R U113 R Z29<|Jb3 R I29 (f137.ld 0 R R)<|Ob h λx61 hx61 h=>Jc3 R f129.rdc hx61 U29 Z2<|Jb3 R I2 ((f129.stp (S133.tr S136) R R).rdc.gInt hx61)<|Jb 1 R ?_
 revert h
 cases ht139:(x61==0)
 refine JF λh=>Jy R<|Js<|Jp<|Je [2,1,2,2] R<|Jd3 R U100 R Z26 ?_
 have f145:=f28.stp (T16 S32 S37 S48 S56 S59 S63 S68 S73 S86 S95 S98 S104 S109 S126 S133 S136) R R
 refine Jb3 R I26 (f145.ld 0 R R)<|Jn3 R U26 R R<|Jb 1 R<|Je [1,2] R<|Jn1 (κ:=K132) (E:=E6) 27 [] (parts:=[(0,.const (vi 0))]) (cells:=[vi 0]) (xs:=([0]:List Int)) R R R R R R Y29 a8 R R R R R R R R R R ⟨[vi 0],[],Zl K132 w135 [],Zl K132 w135 [],R,Zl.sp (l1:=[]) (l2:=[]) R,Zl.sr (l1:=[]) (l2:=[]),R,R⟩ λaZ aU w146 K147 S148 f149=>Tv<|Jb 1 R<|Je [2,1,1] R<|Jf R (bG (parts:=[]) (cells:=[.slice none 0 0,.slice none 0 0]) R R (by kernel_rfl))<|Jg1 (κ:=K147) 28 R R R R R X31 R λb17 w150 K151 S152 f153=>Tv<|Jj1 (κ:=K151) 28 (vc:=[.slice none 0 0,.slice none 0 0]) R R R R R R R Z31 R R f153 R λw154 S155 f156=>Tv<|Jd<|Jq<|Je3 R<|Ob h λq2 hq159 hK158=>?_
 clear h
 refine Jx1 (λL w'=>∃κ',∃s3:(List Int)×Int×(List Int)×(List<|List Int),∃aI aE ad aa ac ae,L=[(4,.pointer (some ⟨b4,0,none⟩)),(17,.pointer (some ⟨b17,0,none⟩))]/\Stp [27,28,29,30,33,35] K151 w154 κ' w'/\Oc E6 2 κ' w' 27 aI aE s3.1/\Oc E6 2 κ' w' 29 ad aa s3.2.2.1/\Oc (Ep.own E6 2) 29 κ' w' 30 ac ae s3.2.2.2/\Bc κ' w' 28 b17 31 [.slice ad s3.2.2.1.length aa,.slice ac s3.2.2.2.length ae]/\q2=yk s3) ?_ ?_
 refine Jv<|Jy1 (λk L w'=>∃κ',∃s1:(List Int)×Int×(List Int)×(List<|List Int),∃ah am az av ap ai,L=[(2,.pointer (some ⟨b2,0,none⟩)),(4,.pointer (some ⟨b4,0,none⟩)),(6,.pointer (some ⟨b6,0,none⟩)),(11,.pointer (some ⟨b11,0,none⟩)),(12,.slice af x42.2.1.length ab),(14,.pointer (some ⟨b14,0,none⟩)),(15,vi (x29.1.Next.length:Int)),(16,.slice ah s1.1.length am),(17,.pointer (some ⟨b17,0,none⟩)),(18,vi s1.2.1)]/\Stp [27,28,29,30,33,35] K151 w154 κ' w'/\Oc E6 2 κ' w' 27 ah am s1.1/\Oc E6 2 κ' w' 29 az av s1.2.2.1/\Oc (Ep.own E6 2) 29 κ' w' 30 ap ai s1.2.2.2/\Bc κ' w' 28 b17 31 [.slice az s1.2.2.1.length av,.slice ap s1.2.2.2.length ai]/\bI (dm p0 x29 x42 x58) k s1=some q2) ⟨_,_,⟨K151,((([0]:List Int):(List Int)),(0:Int),(([]:List Int):(List Int)),(([]:List (List Int)):(List<|List Int))),aZ,aU,none,0,none,0,R,Jj3,(f149.stp (S152.tr S155) R R),Ow.nil,Ow.nil,f156,hq159⟩,(KM R)⟩ ?_
 rintro k _ w167 ⟨K168,s1,ah,am,az,av,ap,ai,rfl,S169,f170,f171,f172,f173,h⟩
 rcases k with _ | k
 cases h
 obtain⟨o157,h,hk175⟩:=BI h;unfold dm at h
 refine Jq<|Jg3 [2,2,2,2] 2 R<|Jn3 R U29 R R<|Jb 1 R ?_
 revert h
 cases ht176:decide (s1.2.1<(s1.1.length:Int))
 refine JF λh=>Jy R<|Jc1<|Jt<|Jt ?_
 cases h
 have h:=hk175
 refine Jb1 ?_
 cases h
 exact Jw1 _ ⟨K168,(s1.1,s1.2.1,s1.2.2.1,s1.2.2.2),ah,am,az,av,ap,ai,R,S169.wk R,f170,f171,f172,f173,R⟩<|KM R
 refine JT λh=>Jx R<|Js<|Jp<|Jq<|Jv<|Jg3 [2,2,2,2,1,2,2,1,2] 3 R<|Ob h λx79 hx79 h=>Jc3 R f170.rdc hx79 U29 Z2<|Jb3 R I2 (f170.rdc.gInt hx79)<|Ob h λx81 hx81 h=>Jc3 R f92.rdc hx81 U109 Z116<|Jd3 R U116 R Z2 ?_
 have f177:=f92.stp (T11 S95 S98 S104 S109 S126 S133 S136 S148 S152 S155 S169) R R
 obtain⟨cse178,hre178,hle178⟩:=Ow.gZS f177 hx81
 obtain⟨ae178_0,ue178_0,rfl,fe178_0⟩:=Place.un hre178
 refine Jb3 R I2 (λw' hw'=>hle178 w' hw' 0 _ R)<|Jb 1 R<|Jq<|Js1 (κ:=K168) [0,25,26,27] none [(0,2),(2,2),(3,2),(4,2),(1,0),(5,0),(6,2),(7,0),(8,2)] [] (by kernel_rfl) (by kernel_rfl) λw180 S179=>Jd3 R U113 R Z29<|Jn 2 R<|Ob h λx88 hx88 h=>Jc3 R f170.rdc hx88 U29 Z2<|Jg R (Jc2 I29 R R<|hvC ((f137.stp (T5 S148 S152 S155 S169 S179) R R).ld 1 R R) R) ?_
 have f182:=f170.stp S179 R R
 refine Jg R (Jc2 I2 R R<|hvC (f182.rdc.gInt hx88) R)<|Ob h λx90 hx90 h=>Jc3 R f130.rdc hx90 U29 Z2<|Jg R (Jc2 I2 R R<|hvC ((f130.stp (T7 S133 S136 S148 S152 S155 S169 S179) R R).rdc.gInt hx90) R)<|Jn 1 R<|Jt1<|Jd<|Jq<|Js1 (κ:=K168) [0,2,20] none [(0,2),(1,2),(2,2),(3,2),(5,2),(4,0),(6,2),(7,0),(8,1),(9,2),(10,2)] [] (by kernel_rfl) (by kernel_rfl) λw185 S184=>Jn 2 R<|Ob h λx94 hx94 h=>Jc3 R f177.rdc hx94 U109 Z116<|Jd3 R U116 R Z2<|Jn 1 R ?_
 have f186:=f177.stp (S179.tr S184) R R
 obtain⟨cse187,hre187,hle187⟩:=Ow.gZS f186 hx94
 obtain⟨ae187_0,ue187_0,rfl,fe187_0⟩:=Place.un hre187
 refine Jg R (Jc2 I2 R R<|hvC (λw' hw'=>hle187 w' hw' 0 _ R) R)<|Jn 1 R ?_
 have f188:=f29.stp (S32.tr (S37.tr (S48.tr (S56.tr (S59.tr (S63.tr (S68.tr (S73.tr (S86.tr (S95.tr (S98.tr (S104.tr (S109.tr (S126.tr (S133.tr (S136.tr (S148.tr (S152.tr (S155.tr (S169.tr (S179.tr S184))))))))))))))))))))) R R
 refine Jg R (Jd2 (cs:=[vi p0.In,vi p0.Out]) I25 Z25 R R R<|haC f188.cells R)<|Ob h λx100 hx100 h=>Jh R R R C72 (dZ (κ:=Mk K168) (p0:=p0) hx100) ?_
 rintro _ w189 ⟨k190,rfl,e191⟩
 obtain⟨K192,S193,m194⟩:=Ji e191 31 R
 refine⟨(S193.cl R),Ob h λ_z101 hz101 h=>Jf R (pU R R R<|sk hz101)<|Jn 1 R<|Jt1<|Jd<|Je [1,2] R<|Jo1 (κ:=K192) (E:=E6) 33 R R R R R Y29 a8 R λaY aT w196 K197 S198 f199=>Tv<|Jb 1 R<|Jq<|Je3 R<|Ob h λq5 hq202 hK201=>?_⟩
 clear h
 refine Jx1 (λL w'=>∃κ',∃s6:(List Int)×(List Int)×Int,∃ax aA al aj,L=[(2,.pointer (some ⟨b2,0,none⟩)),(4,.pointer (some ⟨b4,0,none⟩)),(6,.pointer (some ⟨b6,0,none⟩)),(11,.pointer (some ⟨b11,0,none⟩)),(12,.slice af x42.2.1.length ab),(14,.pointer (some ⟨b14,0,none⟩)),(15,vi (x29.1.Next.length:Int)),(16,.slice ax s6.1.length aA),(17,.pointer (some ⟨b17,0,none⟩)),(18,vi s1.2.1),(21,vi<|Int.tmod (IntKind.i64.wrap<|x94.At-(x29.1.Next.length:Int)) x100),(22,.slice al s6.2.1.length aj)]/\Stp [27,33] K197 w196 κ' w'/\Oc E6 2 κ' w' 27 ax aA s6.1/\Oc E6 2 κ' w' 33 al aj s6.2.1/\q5=yk s6) ?_ ?_
 refine Jv<|Jy1 (λk L w'=>∃κ',∃s4:(List Int)×(List Int)×Int,∃an ak ao aq,L=[(2,.pointer (some ⟨b2,0,none⟩)),(4,.pointer (some ⟨b4,0,none⟩)),(6,.pointer (some ⟨b6,0,none⟩)),(11,.pointer (some ⟨b11,0,none⟩)),(12,.slice af x42.2.1.length ab),(14,.pointer (some ⟨b14,0,none⟩)),(15,vi (x29.1.Next.length:Int)),(16,.slice an s4.1.length ak),(17,.pointer (some ⟨b17,0,none⟩)),(18,vi s1.2.1),(19,vi x81.At),(20,vi x90),(21,vi<|Int.tmod (IntKind.i64.wrap<|x94.At-(x29.1.Next.length:Int)) x100),(22,.slice ao s4.2.1.length aq),(23,vi s4.2.2)]/\Stp [27,33] K197 w196 κ' w'/\Oc E6 2 κ' w' 27 an ak s4.1/\Oc E6 2 κ' w' 33 ao aq s4.2.1/\bI (dU p0 x29 x42 x81 x90 x94 x100) k s4=some q5) ⟨_,_,⟨K197,(s1.1,(([]:List Int):(List Int)),(0:Int)),ah,am,aY,aT,R,Jj3,(f182.stp (T3 S184 S193 S198) R R),f199,hq202⟩,(KM R)⟩ ?_
 rintro k _ w208 ⟨K209,s4,an,ak,ao,aq,rfl,S210,f211,f212,h⟩
 rcases k with _ | k
 cases h
 obtain⟨o200,h,hk214⟩:=BI h;unfold dU at h
 refine Jq<|Jg3 [2,1,1,2] 1 R ?_
 have f215:=f188.stp (T3 S193 S198 S210) R R
 refine Jl tv R R R R (Jd2 (cs:=[vi p0.In,vi p0.Out]) I25 Z25 R R R<|haE f215.cells)<|Ob h λx105 hx105 h=>Jh R R R C73 (lQ (κ:=Mk K209) (p0:=p0) hx105) ?_
 rintro _ w216 ⟨k217,rfl,e218⟩
 obtain⟨K219,S220,m221⟩:=Ji e218 34 R
 refine Tv<|Jb 1 R ?_
 revert h
 cases ht223:decide (s4.2.2<x105)
 refine JF λh=>Jy R<|Jc1<|Jt<|Jt ?_
 cases h
 have h:=hk214
 refine Jb1 ?_
 cases h
 exact Jw1 _ ⟨K219,(s4.1,s4.2.1,s4.2.2),an,ak,ao,aq,R,(S210.tr S220).wk R,(f211.stp S220 R R),(f212.stp S220 R R),R⟩<|KM R
 refine JT λh=>Jx R<|Js<|Jp<|Jq<|Jv<|Jq<|Js1 (κ:=K219) [0,2,8,18,21] none [(0,2),(1,2),(3,2),(6,2),(7,2),(9,2),(13,2),(14,2),(2,0),(4,2),(5,0),(8,0),(10,2),(11,0),(12,0),(15,1),(16,2),(17,0),(18,1),(19,2)] [] (by kernel_rfl) (by kernel_rfl) λw225 S224=>Jd3 R U108 R Z104<|Jd3 R U104 R Z26<|Jn 2 R<|Jd3 R U100 R Z26<|Jn 3 R<|Jg R (Jc2 I26 R R<|hvC ((f116.stp (T14 S126 S133 S136 S148 S152 S155 S169 S179 S184 S193 S198 S210 S220 S224) R R).ld 1 R R) R)<|Ob h λx113 hx113 h=>Jc3 R f118.rdc hx113 U26 Z29 ?_
 obtain⟨ax113,ux113,f228,hl229⟩:=(f118.stp (T14 S126 S133 S136 S148 S152 S155 S169 S179 S184 S193 S198 S210 S220 S224) R R).rdc.gSl hx113
 refine Jg R (Jc2 I29 R R<|hvC hl229 R)<|Jg R (Jc2 I26 R R<|hvC ((f145.stp (T11 S148 S152 S155 S169 S179 S184 S193 S198 S210 S220 S224) R R).ld 0 R R) R)<|Ob h λx119 hx119 h=>Jc3 R f40 hx119 U26 Z29 ?_
 obtain⟨ax119,ux119,f232,hl233⟩:=(f40.stp (S48.tr (S56.tr (S59.tr (S63.tr (S68.tr (S73.tr (S86.tr (S95.tr (S98.tr (S104.tr (S109.tr (S126.tr (S133.tr (S136.tr (S148.tr (S152.tr (S155.tr (S169.tr (S179.tr (S184.tr (S193.tr (S198.tr (S210.tr (S220.tr S224)))))))))))))))))))))))) R R).gSl hx119
 refine Jg R (Jc2 I29 R R<|hvC hl233 R)<|Jg R (Jd2 (cs:=[vi p0.In,vi p0.Out]) I25 Z25 R R R<|haC (f215.stp (S220.tr S224) R R).cells R)<|Ob h λx124 hx124 h=>Jh R R R C55 (iN (κ:=Mk K219) (p0:=p0) hx124) ?_
 rintro _ w235 ⟨k236,rfl,e237⟩
 obtain⟨K238,S239,m240⟩:=Ji e237 36 R
 refine⟨(S239.cl R),Ob h λx125 hx125 h=>Jc3 R f232 hx125 U29 Z2<|Jg R (Jc2 I2 R R<|hvC (f232.gInt hx125) R)<|Ob h λx127 hx127 h=>Jh R R R C74 (tS (κ:=Mk K238) (Ji3<|f228.stp S239 R R) (Ji3 (f186.stp (T6 S193 S198 S210 S220 S224 S239) R R).rdc) hx127) ?_⟩
 rintro _ w244 ⟨k245,rfl,e246⟩
 obtain⟨K247,S248,m249⟩:=Ji e246 38 R
 refine⟨((S239.tr S248).cl R),Jn 1 R<|Jt1<|Jd<|Jg3 [2,2,1,2] 2 R<|Ob h λx130 hx130 h=>?_⟩
 have f251:=f211.stp (T4 S220 S224 S239 S248) R R
 refine Jh R R R C75 (lc (κ:=Mk K247) (Ji3 f251.rdc) hx130) ?_
 rintro _ w252 ⟨k253,rfl,e254⟩
 obtain⟨K255,S256,m257⟩:=Ji e254 40 R
 refine Tv<|Jb 1 R<|Jq<|Je3 R<|Ob h λq7 h hK259=>Jx1 (λL w'=>∃κ' aw ay,L=[(2,.pointer (some ⟨b2,0,none⟩)),(4,.pointer (some ⟨b4,0,none⟩)),(6,.pointer (some ⟨b6,0,none⟩)),(11,.pointer (some ⟨b11,0,none⟩)),(12,.slice af x42.2.1.length ab),(14,.pointer (some ⟨b14,0,none⟩)),(15,vi (x29.1.Next.length:Int)),(16,.slice aw q7.1.length ay),(17,.pointer (some ⟨b17,0,none⟩)),(18,vi s1.2.1),(19,vi x81.At),(20,vi x90),(21,vi<|Int.tmod (IntKind.i64.wrap<|x94.At-(x29.1.Next.length:Int)) x100),(22,.slice ao s4.2.1.length aq),(23,vi s4.2.2),(25,vi q7.2)]/\Stp [27] K255 w252 κ' w'/\Oc E6 2 κ' w' 27 aw ay q7.1) ?_ ?_
 revert h
 cases ht264:decide (x130<0)
 refine JF λh=>Jy R<|Js ?_
 cases h
 exact Jw1 _ ⟨K255,an,ak,R,Jj3,(f251.stp S256 R R)⟩<|KM R
 refine JT λh=>Jx R<|Jg3 [2,2,2] 1 R<|Jn3 R U29 R R<|Jb 1 R<|Jh3 [2,2,1,1,2] 2 R<|Jn1 (κ:=K255) (E:=E6) 42 [] (parts:=[(0,.tmp 136)]) (cells:=[vi x127]) (xs:=([x127]:List Int)) R R R R R R Y29 a8 R R R R R R R R R R ⟨[vi x127],[],Zl K255 w252 [],Zl K255 w252 [],R,Zl.sp (l1:=[]) (l2:=[]) R,Zl.sr (l1:=[]) (l2:=[]),R,R⟩ λbl bh w265 K266 S267 f268=>Tv<|Ob h λx138 hx138 h=>Jm1 (κ:=K266) (E:=E6) 27 [] R R R R R R R R R Y29 a8 R R R R (f251.stp (S256.tr S267) R R) (Sl.srcP (bM _) f268.rdc) bH hx138 R λaW bc w270 K271 S272 f273=>Tv<|Jc 1 R ?_
 cases h
 exact Jw1 _ ⟨K271,aW,bc,R,(S267.tr S272).wk R,f273⟩<|KM R
 rintro _ w260 ⟨K261,aw,ay,rfl,S262,f263⟩
 have h:=hK259
 refine Jp<|Jh3 [2,2,1,1,2] 2 R<|Jn1 (κ:=K261) (E:=E6) 42 [] (parts:=[(0,.tmp 140)]) (cells:=[vi q7.2]) (xs:=([q7.2]:List Int)) R R R R R R Y29 a8 R R R R R R R R R R ⟨[vi q7.2],[],Zl K261 w260 [],Zl K261 w260 [],R,Zl.sp (l1:=[]) (l2:=[]) R,Zl.sr (l1:=[]) (l2:=[]),R,R⟩ λbg bk w275 K276 S277 f278=>Tv<|Ob h λx142 hx142 h=>Jm1 (κ:=K276) (E:=E6) 33 [] R R R R R R R R R Y29 a8 R R R R (f212.stp (T7 S220 S224 S239 S248 S256 S262 S277) R R) (Sl.srcP (bM _) f278.rdc) bH hx142 R λaV be w280 K281 S282 f283=>Tv<|Jc 1 R<|Jz<|Jp<|Jf3 R ?_
 cases h
 exact Jz1 λa ha=>⟨k,_,Ja3 _,⟨K281,(q7.1,x142,((IntKind.i64.wrap<|s4.2.2+1):Int)),aw,ay,aV,be,R,(T9 S210 S220 S224 S239 S248 S256 S262 S277 S282).wk R,(f263.stp (S277.tr S282) R R),f283,hk214⟩,(ha.mm R)⟩
 rintro _ w203 ⟨K204,s6,ax,aA,al,aj,rfl,S205,f206,f207,rfl⟩
 have h:=yI hK201
 refine Jp<|Je [2,1,2,1,1,2,1] R<|Jd3 R U31 R Z29 ?_
 have f287:=f173.stp (T5 S179 S184 S193 S198 S205) R R
 have S002:=(T5 S179 S184 S193 S198 S205)
 refine Jb3 R I29 (f287.ld 0 R R)<|Jn 1 R<|Jn1 (κ:=K204) (E:=E6) 34 [] (parts:=[(0,.tmp 145)]) (cells:=[vi<|Int.tmod (IntKind.i64.wrap<|x94.At-(x29.1.Next.length:Int)) x100]) (xs:=([(Int.tmod (IntKind.i64.wrap<|x94.At-(x29.1.Next.length:Int)) x100)]:List Int)) R R R R R R Y29 a8 R R R R R R R R R R ⟨[vi<|Int.tmod (IntKind.i64.wrap<|x94.At-(x29.1.Next.length:Int)) x100],[],Zl K204 w203 [],Zl K204 w203 [],R,Zl.sp (l1:=[]) (l2:=[]) R,Zl.sr (l1:=[]) (l2:=[]),R,R⟩ λbm bi w288 K289 S290 f291=>Tv<|Ob h λx147 hx147 h=>Jm1 (κ:=K289) (E:=E6) 29 [] R R R R R R R R R Y29 a8 R R R R (f171.stp (S002.tr S290) R R) (Sl.srcP (bM _) f291.rdc) bH hx147 R λau ar w293 K294 S295 f296=>Tv<|Jd3 R U31 R Z29<|Ji1 (κ:=K294) 28 (off:=0) (vc:=[.slice au x147.length ar]) (cs':=[.slice au x147.length ar,.slice ap s1.2.2.2.length ai]) R R R R R R R Z29 R R (f287.stp (S290.tr S295) R R) R R λw298 S299 f300=>Tv<|Jd<|Ja [2,1,2,1,1,2,1] R<|Jd3 R U31 R Z26<|Jb3 R I26 (f300.ld 1 R R)<|Jn 1 R<|Jn1 (κ:=K294) (E:=(Ep.own E6 2)) 35 [33] (parts:=[(0,.tmp 151)]) (cells:=[.slice al s6.2.1.length aj]) (xs:=([s6.2.1]:List (List Int))) R R R R R R Y26 bK R R R R R R R R R R ⟨[.slice al s6.2.1.length aj],[],Zl K294 w298 [33],Zl K294 w298 [],R,Zl.sp (l1:=[33]) (l2:=[]) R,Zl.sr (l1:=[33]) (l2:=[]),⟨_,_,R,(f207.stp (T3 S290 S295 S299) R R)⟩,R⟩ λbn bj w302 K303 S304 f305=>Tv<|Ob h λx153 hx153 h=>Jm1 (κ:=K303) (E:=(Ep.own E6 2)) 30 [35] R R R R R R R R R Y26 bK R R R R (f172.stp (T5 S002 S290 S295 S299 S304) R R) f305.src (dz R) hx153 R λaC aB w307 K308 S309 f310=>Tv<|Jd3 R U31 R Z26<|Ji1 (κ:=K308) 28 (off:=1) (vc:=[.slice aC x153.length aB]) (cs':=[.slice au x147.length ar,.slice aC x153.length aB]) R R R R R R R Z26 R R (f300.stp (S304.tr S309) R R) R R λw312 S313 f314=>Tv<|Jo<|Jz<|Jp<|Jf3 R ?_
 cases h
 exact Jz1 λa ha=>⟨k,_,Ja3 _,⟨K308,(s6.1,((IntKind.i64.wrap<|s1.2.1+1):Int),x147,x153),ax,aA,au,ar,aC,aB,R,(T12 S169 S179 S184 S193 S198 S205 S290 S295 S299 S304 S309 S313).wk R,(f206.stp (T6 S290 S295 S299 S304 S309 S313) R R),(f296.stp (T4 S299 S304 S309 S313) R R),(f310.stp S313 R R),f314,hk175⟩,(ha.mm R)⟩
 rintro _ w160 ⟨K161,s3,aI,aE,ad,aa,ac,ae,rfl,S162,f163,f164,f165,f166,rfl⟩
 have h:=yI hK158
 refine Jp<|Je [1,1,2] R<|Jl tv R R R R (Jd2 (cs:=[.slice ad s3.2.2.1.length aa,.slice ac s3.2.2.2.length ae]) I31 Z31 R R R<|haE f166.cells)<|Jj1 (κ:=K161) 3 (vc:=[.slice ad s3.2.2.1.length aa,.slice ac s3.2.2.2.length ae]) R R R R R R R Z31 R R (f8.stp (S17.tr<|S24.tr<|S27.tr<|S32.tr<|S37.tr<|S48.tr<|S56.tr<|S59.tr<|S63.tr<|S68.tr<|S73.tr<|S86.tr<|S95.tr<|S98.tr<|S104.tr<|S109.tr<|S126.tr<|S133.tr<|S136.tr<|S148.tr<|S152.tr<|S155.tr S162) R R) R λw319 S320 f321=>Tv<|Jb 1 R<|Ju<|Ja2 (l:=[.cell 4 31,.tmp 5]) V18 (bF R f321 I31 Z31 R<|Jp2 R R) R ?_
 cases h
 exact⟨(λb=>ren [(29,2),(30,3)]<|K161 b),ad,aa,ac,ae,R,((hE.stp (S3.tr<|S7.tr<|S17.tr<|S24.tr<|S27.tr<|S32.tr<|S37.tr<|S48.tr<|S56.tr<|S59.tr<|S63.tr<|S68.tr<|S73.tr<|S86.tr<|S95.tr<|S98.tr<|S104.tr<|S109.tr<|S126.tr<|S133.tr<|S136.tr<|S148.tr<|S152.tr<|S155.tr<|S162.tr S320) R R).map (ren [(29,2),(30,3)]) R R),((f164.stp S320 R R).map (ren [(29,2),(30,3)]) R R),((f165.stp S320 R R).map (ren [(29,2),(30,3)]) R R)⟩
 refine JT λh=>Jx R<|Je [2,1,2] R<|Jf R (bG (parts:=[]) (cells:=[.slice none 0 0,.slice none 0 0]) R R (by kernel_rfl))<|Jj1 (κ:=K132) 3 (vc:=[.slice none 0 0,.slice none 0 0]) R R R R R R R Z31 R R (f8.stp (S17.tr<|S24.tr<|S27.tr<|S32.tr<|S37.tr<|S48.tr<|S56.tr<|S59.tr<|S63.tr<|S68.tr<|S73.tr<|S86.tr<|S95.tr<|S98.tr<|S104.tr<|S109.tr<|S126.tr<|S133.tr S136) R R) R λw141 S142 f143=>Tv<|Jb 1 R<|Ju<|Jw<|Ja2 (l:=[.cell 4 31,.tmp 5]) V18 (bF R f143 I31 Z31 R<|Jp2 R R) R ?_
 cases h
 exact⟨K132,none,0,none,0,R,(hE.stp (S3.tr<|S7.tr<|S17.tr<|S24.tr<|S27.tr<|S32.tr<|S37.tr<|S48.tr<|S56.tr<|S59.tr<|S63.tr<|S68.tr<|S73.tr<|S86.tr<|S95.tr<|S98.tr<|S104.tr<|S109.tr<|S126.tr<|S133.tr<|S136.tr S142) R R),Ow.nil,Ow.nil⟩
 refine JT λh=>Jx R<|Je [2,1,2] R<|Jf R (bG (parts:=[]) (cells:=[.slice none 0 0,.slice none 0 0]) R R (by kernel_rfl))<|Jj1 (κ:=K108) 3 (vc:=[.slice none 0 0,.slice none 0 0]) R R R R R R R Z31 R R (f8.stp (T16 S17 S24 S27 S32 S37 S48 S56 S59 S63 S68 S73 S86 S95 S98 S104 S109) R R) R λw112 S113 f114=>Tv<|Jb 1 R<|Ju<|Jw<|Ja2 (l:=[.cell 4 31,.tmp 5]) V18 (bF R f114 I31 Z31 R<|Jp2 R R) R ?_
 cases h
 exact⟨K108,none,0,none,0,R,(hE.stp (S3.tr<|S7.tr<|S17.tr<|S24.tr<|S27.tr<|S32.tr<|S37.tr<|S48.tr<|S56.tr<|S59.tr<|S63.tr<|S68.tr<|S73.tr<|S86.tr<|S95.tr<|S98.tr<|S104.tr<|S109.tr S113) R R),Ow.nil,Ow.nil⟩
theorem rF {ab aa}{p0:l1Cur}{p1:Sig}{b0}(g0_0:Rd (Rp.int .u8) κ w 0 ab aa p0.b) (gb0:Bc κ w 2 b0 142 [.slice ab p0.b.length aa,vi p0.i,vi p0.h]){r:Rival×Int×Int}(h:kM p0 p1=some r):Ret Tryz.prog 47 [.pointer (some ⟨b0,0,none⟩),.agg #[vi p1.In,vi p1.Out]] w (λv w'=>∃(κ':Col) (ra0:Option Addr) (ru0:Nat) (ra1:Option Addr) (ru1:Nat),v= .agg #[.slice ra0 r.1.In.length ru0,.slice ra1 r.1.Next.length ru1]/\Ent κ w κ' w'/\Oc E6 2 κ' w' 3 ra0 ru0 r.1.In/\Oc (Ep.own E6 2) 29 κ' w' 4 ra1 ru1 r.1.Next/\Bc κ' w' 2 b0 142 [.slice ab p0.b.length aa,vi r.2.1,vi r.2.2]):=by
 unfold kM at h
 refine Jk3 κ F47 R N47 R λhE=>Je [1,1] R<|Jf1 (κ:=κ) 3 R R R R R R R λb3 w1 K2 S3 f4=>Tv<|Jg1 (κ:=K2) 4 R R R R R X31 R λb4 w5 K6 S7 f8=>Tv<|Jd<|Jq<|Jg3 [2,1] 1 R<|Ob h λx13 hx13 h=>?_
 have f9:=g0_0.stp (S3.tr S7) R R
 refine Jh R R R C45 (c9 (κ:=λb=>mp [(2,2)] 0<|K6 b) (p0:=p0) (Jl2 f9 (mp [(2,2)] 0) R R) ((gb0.stp (S3.tr S7) R R).map (mp [(2,2)] 0) R R) hx13) ?_
 rintro _ w11 ⟨k12,rfl,e13,f14⟩
 obtain⟨K15,S16,m17⟩:=Ji e13 5 R
 refine Tv<|?_
 have f19:=f14.mx m17 R (R:5+2=7)
 refine Jd<|Ob h λq1 h hK20=>Jx1 (λL w'=>∃κ',∃z1:Int×Int,L=[(0,.pointer (some ⟨b0,0,none⟩)),(3,.pointer (some ⟨b3,0,none⟩)),(4,.pointer (some ⟨b4,0,none⟩))]/\Stp [7,8,10,11,12,14,15,16] K15 w11 κ' w'/\Bc κ' w' 7 b0 142 [.slice ab p0.b.length aa,vi z1.1,vi z1.2]/\q1=yk z1) ?_ ?_
 revert h
 cases ht25:x13.1
 refine JF λh=>Jy R<|Js ?_
 cases h
 exact Jw1 _ ⟨K15,(x13.2.1,x13.2.2),R,Jj3,f19,R⟩<|KM R
 refine JT λh=>Jx R<|Jq<|Ob h λx18 hx18 h=>Ob h λx19 hx19 h=>Jx1 (λL w'=>∃κ' b5 an am al ao,L=[(0,.pointer (some ⟨b0,0,none⟩)),(3,.pointer (some ⟨b3,0,none⟩)),(4,.pointer (some ⟨b4,0,none⟩)),(5,.pointer (some ⟨b5,0,none⟩)),(6,.bool x19.2)]/\Stp [7,8,10,11,12,14,15,16] K15 w11 κ' w'/\Oc E6 2 κ' w' 8 an am x19.1.In/\Oc (Ep.own E6 2) 29 κ' w' 9 al ao x19.1.Next/\Bc κ' w' 7 b0 142 [.slice ab p0.b.length aa,vi x18.2.1,vi x18.2.2]/\Bc κ' w' 10 b5 31 [.slice an x19.1.In.length am,.slice al x19.1.Next.length ao]) ?_ ?_
 refine WC.rxt (κ:=K15) [3] none (by kernel_rfl) λw34 S35=>Jq1 (fuel:=8) [(1,2),(0,0),(2,0)] (by kernel_rfl) (by kernel_rfl) R<|Jn 1 R ?_
 have f36:=f4.stp (T3 S7 S16 S35) R R
 refine Jg R (Jd2 (cs:=[vi p1.In,vi p1.Out]) I25 Z25 R R R<|haC f36.cells R)<|Jg R (Jd2 (cs:=[vi p1.In,vi p1.Out]) I25 Z25 R R R<|haC f36.cells R)<|Jp1<|WA.fork2 (fuel:=7) 3 8 (by kernel_rfl) R ?_ ?_
 refine Jh R R R C46 (jr (κ:=λb=>mp [(7,2)] 0<|K15 b) (p1:=p1) (p0:=(⟨p0.b,x13.2.1,x13.2.2⟩:l1Cur)) (Jl2 (f9.stp (S16.tr S35) R R) (mp [(7,2)] 0) R R) ((f19.stp S35 R R).map (mp [(7,2)] 0) R R) hx18) ?_
 rintro _ w39 ⟨k40,aG,aF,rfl,e41,f42,f43⟩
 obtain⟨K44,S45,m46⟩:=Ji e41 8 R
 refine⟨(S45.cl R),?_⟩
 have f48:=f42.mx Clause.no119 m46 R (R:8+3=11)
 have f49:=f43.mx m46 R (R:8+2=10)
 refine Jp1<|WA.fork2 (fuel:=6) 4 8 (by kernel_rfl) R ?_ ?_
 refine Jh R R R C18 (j6 (κ:=Mk K44) (p0:=p1) (Ji3 f48.rdc) hx19) ?_
 rintro _ w50 ⟨k51,ae,ak,ah,aj,rfl,e52,f53,f54⟩
 obtain⟨K55,S56,m57⟩:=Ji e52 12 R
 exact⟨((S45.tr S56).cl R),Jp1<|Jq1 (fuel:=0) [(5,2),(6,2),(7,2),(8,1),(9,1),(10,2)] (by kernel_rfl) (by kernel_rfl) R<|Jn 3 R<|Jg1 (κ:=K55) 16 R R R R R X31 R λb5 w61 K62 S63 f64=>⟨((T3 S45 S56 S63).cl R),Jj1 (κ:=K62) 16 (vc:=[.slice ae x19.1.In.length ak,.slice ah x19.1.Next.length aj]) R R R R R R R Z31 R R f64 R λw65 S66 f67=>⟨((T4 S45 S56 S63 S66).cl R),Jn 1 R<|Jp1<|Jr1 [] (by kernel_rfl) (by kernel_rfl) R<|Jo<|Jw1 _ ⟨(λb=>ren [(14,8),(15,9),(10,7),(16,10)]<|K62 b),b5,ae,ak,ah,aj,R,(Jy2 ((T5 S35 S45 S56 S63 S66).wk R) [(14,8),(15,9),(10,7),(16,10)] R),(((f53.mx (bD _) m57 R (R:12+2=14)).stp (S63.tr S66) R R).map (ren [(14,8),(15,9),(10,7),(16,10)]) R R),(((f54.mx (cD (bD _) _) m57 R (R:12+3=15)).stp (S63.tr S66) R R).map (ren [(14,8),(15,9),(10,7),(16,10)]) R R),((f49.stp (T3 S56 S63 S66) R R).map (ren [(14,8),(15,9),(10,7),(16,10)]) R R),(f67.map (ren [(14,8),(15,9),(10,7),(16,10)]) R R)⟩<|KM R⟩⟩⟩
 refine Jg1 (κ:=K44) 12 R R R R R X31 R λb5 w71 K72 S73 f74=>⟨((S45.tr S73).cl R),Jp1<|Jq1 (fuel:=0) [(4,1),(5,2),(6,2),(7,2),(9,1),(10,2)] (by kernel_rfl) (by kernel_rfl) R<|Jh R R R C18 (j6 (κ:=Mk K72) (p0:=p1) (Ji3 (f48.stp S73 R R).rdc) hx19) ?_⟩
 rintro _ w76 ⟨k77,ae,ak,ah,aj,rfl,e78,f79,f80⟩
 obtain⟨K81,S82,m83⟩:=Ji e78 13 R
 exact⟨((T3 S45 S73 S82).cl R),Jn 3 R<|Jj1 (κ:=K81) 12 (vc:=[.slice ae x19.1.In.length ak,.slice ah x19.1.Next.length aj]) R R R R R R R Z31 R R (f74.stp S82 R R) R λw88 S89 f90=>⟨((T4 S45 S73 S82 S89).cl R),Jn 1 R<|Jp1<|Jr1 [] (by kernel_rfl) (by kernel_rfl) R<|Jo<|Jw1 _ ⟨(λb=>ren [(15,8),(16,9),(10,7),(12,10)]<|K81 b),b5,ae,ak,ah,aj,R,(Jy2 ((T5 S35 S45 S73 S82 S89).wk R) [(15,8),(16,9),(10,7),(12,10)] R),(((f79.mx (bD _) m83 R (R:13+2=15)).stp S89 R R).map (ren [(15,8),(16,9),(10,7),(12,10)]) R R),(((f80.mx (cD (bD _) _) m83 R (R:13+3=16)).stp S89 R R).map (ren [(15,8),(16,9),(10,7),(12,10)]) R R),((f49.stp (T3 S73 S82 S89) R R).map (ren [(15,8),(16,9),(10,7),(12,10)]) R R),(f90.map (ren [(15,8),(16,9),(10,7),(12,10)]) R R)⟩<|KM R⟩⟩
 refine Jg1 (κ:=K15) 8 R R R R R X31 R λb5 w94 K95 S96 f97=>⟨(S96.cl R),Jp1<|Jq1 (fuel:=0) [(3,1),(4,1),(5,2),(6,2),(7,2),(9,1),(10,2)] (by kernel_rfl) (by kernel_rfl) R<|Jh R R R C46 (jr (κ:=λb=>mp [(7,2)] 0<|K95 b) (p1:=p1) (p0:=(⟨p0.b,x13.2.1,x13.2.2⟩:l1Cur)) (Jl2 (f9.stp (T3 S16 S35 S96) R R) (mp [(7,2)] 0) R R) ((f19.stp (S35.tr S96) R R).map (mp [(7,2)] 0) R R) hx18) ?_⟩
 rintro _ w100 ⟨k101,aG,aF,rfl,e102,f103,f104⟩
 obtain⟨K105,S106,m107⟩:=Ji e102 9 R
 refine⟨((S96.tr S106).cl R),Jh R R R C18 (j6 (κ:=Mk K105) (p0:=p1) (Ji3 (f103.mx Clause.no119 m107 R (R:9+3=12)).rdc) hx19) ?_⟩
 rintro _ w111 ⟨k112,ae,ak,ah,aj,rfl,e113,f114,f115⟩
 obtain⟨K116,S117,m118⟩:=Ji e113 13 R
 exact⟨((T3 S96 S106 S117).cl R),Jn 3 R<|Jj1 (κ:=K116) 8 (vc:=[.slice ae x19.1.In.length ak,.slice ah x19.1.Next.length aj]) R R R R R R R Z31 R R (f97.stp (S106.tr S117) R R) R λw123 S124 f125=>⟨((T4 S96 S106 S117 S124).cl R),Jn 1 R<|Jp1<|Jr1 [] (by kernel_rfl) (by kernel_rfl) R<|Jo<|Jw1 _ ⟨(λb=>ren [(15,8),(16,9),(11,7),(8,10)]<|K116 b),b5,ae,ak,ah,aj,R,(Jy2 ((T5 S35 S96 S106 S117 S124).wk R) [(15,8),(16,9),(11,7),(8,10)] R),(((f114.mx (bD _) m118 R (R:13+2=15)).stp S124 R R).map (ren [(15,8),(16,9),(11,7),(8,10)]) R R),(((f115.mx (cD (bD _) _) m118 R (R:13+3=16)).stp S124 R R).map (ren [(15,8),(16,9),(11,7),(8,10)]) R R),(((f104.mx m107 R (R:9+2=11)).stp (S117.tr S124) R R).map (ren [(15,8),(16,9),(11,7),(8,10)]) R R),(f125.map (ren [(15,8),(16,9),(11,7),(8,10)]) R R)⟩<|KM R⟩⟩
 rintro _ w26 ⟨K27,b5,an,am,al,ao,rfl,S28,f30,f31,f32,f33⟩
 refine Jp<|Je3 R ?_
 revert h
 cases ht129:x19.2
 refine JF λh=>Jy R<|Js ?_
 cases h
 exact Jw1 _ ⟨K27,(x18.2.1,x18.2.2),R,S28.wk R,f32,R⟩<|KM R
 refine JT λh=>Jx R<|Je [1,1] R<|Jl tv R R R R (Jd2 (cs:=[.slice an x19.1.In.length am,.slice al x19.1.Next.length ao]) I31 Z31 R R R<|haE f33.cells)<|Jj1 (κ:=K27) 4 (vc:=[.slice an x19.1.In.length am,.slice al x19.1.Next.length ao]) R R R R R R R Z31 R R (f8.stp (S16.tr S28) R R) R λw131 S132 f133=>Tv<|Jd<|Ju<|Jq2 ?_
 cases h
 have h:=hK20
 dsimp only[aft]at h
 refine Jw<|Ja2 (l:=[.cell 4 31]) V47 (bF R f133 I31 Z31 R R) R ?_
 cases h
 exact⟨(λb=>ren [(8,3),(9,4),(7,2)]<|K27 b),an,am,al,ao,R,((hE.stp (T5 S3 S7 S16 S28 S132) R R).map (ren [(8,3),(9,4),(7,2)]) R R),((f30.stp S132 R R).map (ren [(8,3),(9,4),(7,2)]) R R),((f31.stp S132 R R).map (ren [(8,3),(9,4),(7,2)]) R R),((f32.stp S132 R R).map (ren [(8,3),(9,4),(7,2)]) R R)⟩
 rintro _ w21 ⟨K22,z1,rfl,S23,f24,rfl⟩
 have h:=yI hK20
 refine Jp<|Je [2,1,1] R<|Jf R (bG (parts:=[]) (cells:=[.slice none 0 0,.slice none 0 0]) R R (by kernel_rfl))<|Jg1 (κ:=K22) 8 R R R R R X31 R λb7 w138 K139 S140 f141=>Tv<|Jj1 (κ:=K139) 8 (vc:=[.slice none 0 0,.slice none 0 0]) R R R R R R R Z31 R R f141 R λw142 S143 f144=>Tv<|Jd<|Jg3 [2,1,2,2] 1 R<|Ob h λx26 hx26 h=>?_
 have f145:=f9.stp (T4 S16 S23 S140 S143) R R
 refine Jh R R R C105 (bS (κ:=λb=>mp [(7,2)] 0<|K139 b) (p0:=(⟨p0.b,z1.1,z1.2⟩:l1Cur)) (Jl2 f145 (mp [(7,2)] 0) R R) ((f24.stp (S140.tr S143) R R).map (mp [(7,2)] 0) R R) hx26) ?_
 rintro _ w147 ⟨k148,rfl,e149,f150⟩
 obtain⟨K151,S152,m153⟩:=Ji e149 9 R
 refine Tv<|Jb 2 R<|Jq<|Je3 R<|Ob h λ_ hr156 h=>?_
 have hN156:=mu hr156
 refine Ob h λq3 hq158 hK157=>?_
 clear h
 refine Jx1 (λL w'=>∃κ',∃s4:Int×Int×(List Int)×(List<|List Int),∃ai af ac ad,L=[(0,.pointer (some ⟨b0,0,none⟩)),(4,.pointer (some ⟨b4,0,none⟩)),(7,.pointer (some ⟨b7,0,none⟩))]/\Stp [8,11,12,13,14,17,19,21] K151 w147 κ' w'/\Oc E6 2 κ' w' 12 ai af s4.2.2.1/\Oc (Ep.own E6 2) 29 κ' w' 13 ac ad s4.2.2.2/\Bc κ' w' 11 b0 142 [.slice ab p0.b.length aa,vi s4.1,vi s4.2.1]/\Bc κ' w' 8 b7 31 [.slice ai s4.2.2.1.length af,.slice ac s4.2.2.2.length ad]/\q3=yk s4) ?_ ?_
 refine Jv<|Jy1 (λk L w'=>∃κ' v9,∃s2:Int×Int×(List Int)×(List<|List Int),∃az ax ap au,L=[(0,.pointer (some ⟨b0,0,none⟩)),(3,.pointer (some ⟨b3,0,none⟩)),(4,.pointer (some ⟨b4,0,none⟩)),(7,.pointer (some ⟨b7,0,none⟩)),(8,vi<|IntKind.i64.wrap (1+x26.1)),(9,vi v9)]/\Stp [8,11,12,13,14,17,19,21] K151 w147 κ' w'/\Oc E6 2 κ' w' 12 az ax s2.2.2.1/\Oc (Ep.own E6 2) 29 κ' w' 13 ap au s2.2.2.2/\Bc κ' w' 11 b0 142 [.slice ab p0.b.length aa,vi s2.1,vi s2.2.1]/\Bc κ' w' 8 b7 31 [.slice az s2.2.2.1.length ax,.slice ap s2.2.2.2.length au]/\0<=v9/\Int.toNat ((IntKind.i64.wrap (1+x26.1))-v9)=k/\cntM (ik p0 p1 x26) k v9 s2=some q3) ⟨_,_,⟨K151,0,(x26.2.1,x26.2.2,(([]:List Int):(List Int)),(([]:List (List Int)):(List<|List Int))),none,0,none,0,R,Jj3,Ow.nil,Ow.nil,(f150.mx m153 R (R:9+2=11)),(f144.stp S152 R R),(by decide),(by simp),hq158⟩,(KM R)⟩ ?_
 rintro k _ w166 ⟨K167,v9,s2,az,ax,ap,au,rfl,S168,f169,f170,f171,f172,hj156,hJ156,h⟩
 rcases k with _ | k
 have hk174:=h;obtain⟨o156,h⟩:=ca (yk (Sum.inl s2):(Rival×Int×Int)⊕((Int×Int×(List Int)×(List (List Int)))⊕(Int×Int×(List Int)×(List (List Int)))))
 have hc156:decide (v9<(IntKind.i64.wrap (1+x26.1)))=false:=Jo2 (by omega)
 refine Jq<|Je3 R<|Jw2 R hc156<|Jc1<|Jt<|Jt ?_
 cases h
 have h:=hk174
 refine Jb1 ?_
 cases h
 exact Jw1 _ ⟨K167,(s2.1,s2.2.1,s2.2.2.1,s2.2.2.2),az,ax,ap,au,R,S168.wk R,f169,f170,f171,f172,R⟩<|KM R
 obtain⟨o156,h,hk174⟩:=BI h;unfold ik at h
 have hc156:decide (v9<(IntKind.i64.wrap (1+x26.1)))=true:=Jn2 (by omega)
 refine Jq<|Je3 R<|Jv2 R hc156<|Js<|Jp<|Jq<|Jv<|Je [1,2] R<|Jo1 (κ:=K167) (E:=E6) 14 R R R R R Y29 a8 R λaK aL w175 K176 S177 f178=>Tv<|Jb 1 R<|Jq<|Je3 R<|Ob h λq6 hq181 hK180=>?_
 clear h
 refine Jx1 (λL w'=>∃κ',∃s7:(List Int)×Int×Int×Int,∃aq ar,L=[(0,.pointer (some ⟨b0,0,none⟩)),(3,.pointer (some ⟨b3,0,none⟩)),(4,.pointer (some ⟨b4,0,none⟩)),(7,.pointer (some ⟨b7,0,none⟩)),(8,vi<|IntKind.i64.wrap (1+x26.1)),(9,vi v9),(10,.slice aq s7.1.length ar)]/\Stp [11,14,21] K176 w175 κ' w'/\Oc E6 2 κ' w' 14 aq ar s7.1/\Bc κ' w' 11 b0 142 [.slice ab p0.b.length aa,vi s7.2.2.1,vi s7.2.2.2]/\q6=yk s7) ?_ ?_
 refine Jv<|Jy1 (λk L w'=>∃κ',∃s5:(List Int)×Int×Int×Int,∃av ay,L=[(0,.pointer (some ⟨b0,0,none⟩)),(3,.pointer (some ⟨b3,0,none⟩)),(4,.pointer (some ⟨b4,0,none⟩)),(7,.pointer (some ⟨b7,0,none⟩)),(8,vi<|IntKind.i64.wrap (1+x26.1)),(9,vi v9),(10,.slice av s5.1.length ay),(11,vi s5.2.1)]/\Stp [11,14,21] K176 w175 κ' w'/\Oc E6 2 κ' w' 14 av ay s5.1/\Bc κ' w' 11 b0 142 [.slice ab p0.b.length aa,vi s5.2.2.1,vi s5.2.2.2]/\bI (g7 p0 p1 x26) k s5=some q6) ⟨_,_,⟨K176,((([]:List Int):(List Int)),(0:Int),s2.1,s2.2.1),aK,aL,R,Jj3,f178,(f171.stp S177 R R),hq181⟩,(KM R)⟩ ?_
 rintro k _ w187 ⟨K188,s5,av,ay,rfl,S189,f190,f191,h⟩
 rcases k with _ | k
 cases h
 obtain⟨o179,h,hk193⟩:=BI h;unfold g7 at h
 refine Jq<|Jg3 [2,2,1,1,1,2] 1 R<|Jd3 R U25 R Z2<|Jb3 R I2 ((f4.stp (T9 S7 S16 S23 S140 S143 S152 S168 S177 S189) R R).ld 1 R R)<|Ob h λx37 hx37 h=>Jh R R R C110 (qk (κ:=Mk K188) hx37) ?_
 rintro _ w195 ⟨k196,rfl,e197⟩
 obtain⟨K198,S199,m200⟩:=Ji e197 15 R
 refine Tv<|Ob h λx38 hx38 h=>Jh R R R C59 (cv (κ:=Mk K198) hx38) ?_
 rintro _ w202 ⟨k203,rfl,e204⟩
 obtain⟨K205,S206,m207⟩:=Ji e204 17 R
 refine Tv<|Jb 1 R ?_
 revert h
 cases ht209:decide (s5.2.1<x38)
 refine JF λh=>Jy R<|Jc1<|Jt<|Jt ?_
 cases h
 have h:=hk193
 refine Jb1 ?_
 cases h
 exact Jw1 _ ⟨K205,(s5.1,s5.2.1,s5.2.2.1,s5.2.2.2),av,ay,R,(T3 S189 S199 S206).wk R,(f190.stp (S199.tr S206) R R),(f191.stp (S199.tr S206) R R),R⟩<|KM R
 refine JT λh=>Jx R<|Js<|Jp<|Jq<|Jv<|Jh3 [2,2,2,1,1,1,2] 3 R<|Ob h λx45 hx45 h=>Jh R R R C105 (bS (κ:=λb=>mp [(11,2)] 0<|K205 b) (p0:=(⟨p0.b,s5.2.2.1,s5.2.2.2⟩:l1Cur)) (Jl2 (f145.stp (T6 S152 S168 S177 S189 S199 S206) R R) (mp [(11,2)] 0) R R) ((f191.stp (S199.tr S206) R R).map (mp [(11,2)] 0) R R) hx45) ?_
 rintro _ w212 ⟨k213,rfl,e214,f215⟩
 obtain⟨K216,S217,m218⟩:=Ji e214 19 R
 refine Tv<|Jn1 (κ:=K216) (E:=E6) 22 [] (parts:=[(0,.tmp 45)]) (cells:=[vi x45.1]) (xs:=([x45.1]:List Int)) R R R R R R Y29 a8 R R R R R R R R R R ⟨[vi x45.1],[],Zl K216 w212 [],Zl K216 w212 [],R,Zl.sp (l1:=[]) (l2:=[]) R,Zl.sr (l1:=[]) (l2:=[]),R,R⟩ λaS aQ w221 K222 S223 f224=>Tv<|Ob h λx47 hx47 h=>Jm1 (κ:=K222) (E:=E6) 14 [] R R R R R R R R R Y29 a8 R R R R (f190.stp (T4 S199 S206 S217 S223) R R) (Sl.srcP (bM _) f224.rdc) bH hx47 R λaM aI w226 K227 S228 f229=>Tv<|Jc 1 R<|Jz<|Jp<|Jf3 R ?_
 cases h
 exact Jz1 λa ha=>⟨k,_,Ja3 _,⟨(λb=>ren [(21,11)]<|K227 b),(x47,((IntKind.i64.wrap<|s5.2.1+1):Int),x45.2.1,x45.2.2),aM,aI,R,(Jy2 ((T6 S189 S199 S206 S217 S223 S228).wk R) [(21,11)] R),(f229.map (ren [(21,11)]) R R),(((f215.mx m218 R (R:19+2=21)).stp (S223.tr S228) R R).map (ren [(21,11)]) R R),hk193⟩,(ha.mm R)⟩
 rintro _ w182 ⟨K183,s7,aq,ar,rfl,S184,f185,f186,rfl⟩
 have h:=yI hK180
 refine Jp<|Jq<|Js1 (κ:=K183) [8] (some 7) [(0,2),(2,2),(1,0),(3,1),(4,1),(5,1),(6,2)] [(7,1)] (by kernel_rfl) (by kernel_rfl) λw234 S233=>Jd3 R U31 R Z29<|Jn 1 R ?_
 have f235:=f172.stp (T3 S177 S184 S233) R R
 refine Jg R (Jc2 I29 R R<|hvC (f235.ld 0 R R) R)<|Ob h λx51 hx51 h=>Jh R R R C105 (bS (κ:=λb=>mp [(11,2)] 0<|K183 b) (p0:=(⟨p0.b,s7.2.2.1,s7.2.2.2⟩:l1Cur)) (Jl2 (f145.stp (T5 S152 S168 S177 S184 S233) R R) (mp [(11,2)] 0) R R) ((f186.stp S233 R R).map (mp [(11,2)] 0) R R) hx51) ?_
 rintro _ w238 ⟨k239,rfl,e240,f241⟩
 obtain⟨K242,S243,m244⟩:=Ji e240 15 R
 have S001:=(T4 S177 S184 S233 S243)
 refine⟨(S243.cl R),Jn1 (κ:=K242) (E:=E6) 18 [] (parts:=[(0,.tmp 51)]) (cells:=[vi x51.1]) (xs:=([x51.1]:List Int)) R R R R R R Y29 a8 R R R R R R R R R R ⟨[vi x51.1],[],Zl K242 w238 [],Zl K242 w238 [],R,Zl.sp (l1:=[]) (l2:=[]) R,Zl.sr (l1:=[]) (l2:=[]),R,R⟩ λaO aP w247 K248 S249 f250=>⟨((S243.tr S249).cl R),Ob h λx53 hx53 h=>Jm1 (κ:=K248) (E:=E6) 12 [] R R R R R R R R R Y29 a8 R R R R (f169.stp (S001.tr S249) R R) (Sl.srcP (bM _) f250.rdc) bH hx53 R λaA aw w252 K253 S254 f255=>⟨((T3 S243 S249 S254).cl R),Jd3 R U31 R Z29<|Jt1<|Ji1 (κ:=K253) 8 (off:=0) (vc:=[.slice aA x53.length aw]) (cs':=[.slice aA x53.length aw,.slice ap s2.2.2.2.length au]) R R R R R R R Z29 R R (f235.stp (T3 S243 S249 S254) R R) R R λw257 S258 f259=>Tv<|Jd<|Ja [2,1,2,1,1,2,1] R<|Jd3 R U31 R Z26<|Jb3 R I26 (f259.ld 1 R R)<|Jn 1 R<|Jn1 (κ:=K253) (E:=(Ep.own E6 2)) 19 [14] (parts:=[(0,.tmp 57)]) (cells:=[.slice aq s7.1.length ar]) (xs:=([s7.1]:List (List Int))) R R R R R R Y26 bK R R R R R R R R R R ⟨[.slice aq s7.1.length ar],[],Zl K253 w257 [14],Zl K253 w257 [],R,Zl.sp (l1:=[14]) (l2:=[]) R,Zl.sr (l1:=[14]) (l2:=[]),⟨_,_,R,(f185.stp (T5 S233 S243 S249 S254 S258) R R)⟩,R⟩ λaR aN w261 K262 S263 f264=>Tv<|Ob h λx59 hx59 h=>Jm1 (κ:=K262) (E:=(Ep.own E6 2)) 13 [19] R R R R R R R R R Y26 bK R R R R (f170.stp (T5 S001 S249 S254 S258 S263) R R) f264.src (dz R) hx59 R λaC aB w266 K267 S268 f269=>Tv<|Jd3 R U31 R Z26<|Ji1 (κ:=K267) 8 (off:=1) (vc:=[.slice aC x59.length aB]) (cs':=[.slice aA x53.length aw,.slice aC x59.length aB]) R R R R R R R Z26 R R (f259.stp (S263.tr S268) R R) R R λw271 S272 f273=>Tv<|Jo<|Jz<|Jp<|Jf3 R ?_⟩⟩⟩
 have hw156:IntKind.wrap .i64 (v9+1)=v9+1:=wr1 hj156 (Jm2 hc156) hN156
 rw[hw156]
 have hc156:=Jm2 hc156
 cases h
 exact Jz1 λa ha=>⟨k,_,Ja3 _,⟨(λb=>ren [(17,11)]<|K267 b),v9+1,(x51.2.1,x51.2.2,x53,x59),aA,aw,aC,aB,R,(Jy2 ((T11 S168 S177 S184 S233 S243 S249 S254 S258 S263 S268 S272).wk R) [(17,11)] R),((f255.stp (T4 S258 S263 S268 S272) R R).map (ren [(17,11)]) R R),((f269.stp S272 R R).map (ren [(17,11)]) R R),(((f241.mx m244 R (R:15+2=17)).stp (T6 S249 S254 S258 S263 S268 S272) R R).map (ren [(17,11)]) R R),(f273.map (ren [(17,11)]) R R),by omega,by omega,hk174⟩,(ha.mm R)⟩
 rintro _ w159 ⟨K160,s4,ai,af,ac,ad,rfl,S161,f162,f163,f164,f165,rfl⟩
 have h:=yI hK157
 refine Jp<|Jq<|Jg3 [2,1] 1 R<|Ob h λx62 hx62 h=>?_
 have f277:=f145.stp (S152.tr S161) R R
 refine Jh R R R C45 (c9 (κ:=λb=>mp [(11,2)] 0<|K160 b) (p0:=(⟨p0.b,s4.1,s4.2.1⟩:l1Cur)) (Jl2 f277 (mp [(11,2)] 0) R R) (f164.map (mp [(11,2)] 0) R R) hx62) ?_
 rintro _ w278 ⟨k279,rfl,e280,f281⟩
 obtain⟨K282,S283,m284⟩:=Ji e280 14 R
 refine Tv<|?_
 have f286:=f281.mx m284 R (R:14+2=16)
 refine Jd<|Ob h λq8 h hK287=>Jx1 (λL w'=>∃κ',L=[(0,.pointer (some ⟨b0,0,none⟩)),(4,.pointer (some ⟨b4,0,none⟩)),(7,.pointer (some ⟨b7,0,none⟩))]/\Stp [12,13,16,19,21,22,23] K282 w278 κ' w'/\Oc E6 2 κ' w' 12 ai af q8.2.2.1/\s4.2.2.1.length=q8.2.2.1.length/\Oc (Ep.own E6 2) 29 κ' w' 13 ac ad q8.2.2.2/\s4.2.2.2.length=q8.2.2.2.length/\Bc κ' w' 16 b0 142 [.slice ab p0.b.length aa,vi q8.1,vi q8.2.1]) ?_ ?_
 revert h
 cases ht296:x62.1
 refine JF λh=>Jy R<|Js ?_
 cases h
 exact Jw1 _ ⟨K282,R,Jj3,(f162.stp S283 R R),R,(f163.stp S283 R R),R,f286⟩<|KM R
 refine JT λh=>Jx R<|Jg3 [2,1] 1 R<|Ob h λx64 hx64 h=>?_
 have f297:=f277.stp S283 R R
 refine Jh R R R C105 (bS (κ:=λb=>mp [(16,2)] 0<|K282 b) (p0:=(⟨p0.b,x62.2.1,x62.2.2⟩:l1Cur)) (Jl2 f297 (mp [(16,2)] 0) R R) (f286.map (mp [(16,2)] 0) R R) hx64) ?_
 rintro _ w298 ⟨k299,rfl,e300,f301⟩
 obtain⟨K302,S303,m304⟩:=Ji e300 17 R
 refine Tv<|?_
 have f306:=f301.mx m304 R (R:17+2=19)
 refine Jd<|Jv<|Je3 R<|Ob h λq9 h hK307=>Jx1 (λL w'=>∃κ',L=[(0,.pointer (some ⟨b0,0,none⟩)),(4,.pointer (some ⟨b4,0,none⟩)),(7,.pointer (some ⟨b7,0,none⟩))]/\Stp [12,13,19,21,22,23] K302 w298 κ' w'/\Oc E6 2 κ' w' 12 ai af q9.2.2.1/\s4.2.2.1.length=q9.2.2.1.length/\Oc (Ep.own E6 2) 29 κ' w' 13 ac ad q9.2.2.2/\s4.2.2.2.length=q9.2.2.2.length/\Bc κ' w' 19 b0 142 [.slice ab p0.b.length aa,vi q9.1,vi q9.2.1]) ?_ ?_
 revert h
 cases ht316:(x64.1==0)
 refine JF λh=>Jy R<|Je3 R<|Ob h λq10 h hK339=>Jx1 (λL w'=>∃κ',L=[(0,.pointer (some ⟨b0,0,none⟩)),(4,.pointer (some ⟨b4,0,none⟩)),(7,.pointer (some ⟨b7,0,none⟩))]/\Stp [13,19,21,22,23] K302 w298 κ' w'/\Oc (Ep.own E6 2) 29 κ' w' 13 ac ad q10.2.2/\s4.2.2.2.length=q10.2.2.length/\Bc κ' w' 19 b0 142 [.slice ab p0.b.length aa,vi q10.1,vi q10.2.1]) ?_ ?_
 revert h
 cases ht346:(x64.1==1)
 refine JF λh=>Jy R<|Je3 R<|Ob h λq11 h hK418=>Jx1 (λL w'=>∃κ',L=[(0,.pointer (some ⟨b0,0,none⟩)),(4,.pointer (some ⟨b4,0,none⟩)),(7,.pointer (some ⟨b7,0,none⟩))]/\Stp [13,19,22,23] K302 w298 κ' w'/\Oc (Ep.own E6 2) 29 κ' w' 13 ac ad q11.2.2/\s4.2.2.2.length=q11.2.2.length/\Bc κ' w' 19 b0 142 [.slice ab p0.b.length aa,vi q11.1,vi q11.2.1]) ?_ ?_
 revert h
 cases ht425:(x64.1==2)
 refine JF λh=>Jy R<|Js ?_
 cases h
 exact Jw1 _ ⟨K302,R,Jj3,(f163.stp (S283.tr S303) R R),R,f306⟩<|KM R
 refine JT λh=>Jx R<|Js1 (κ:=K302) [0,8,13] (some 7) [(0,2),(4,2),(1,0),(2,2),(3,0),(5,1),(6,2)] [(7,1)] (by kernel_rfl) (by kernel_rfl) λw427 S426=>Jd3 R U31 R Z26<|Jn 1 R<|Jg R (Jc2 I26 R R<|hvC ((f165.stp (T3 S283 S303 S426) R R).ld 1 R R) R)<|Ob h λx87 hx87 h=>Jc3 R f163.rdc hx87 U26 Z29 ?_
 have f429:=f163.stp (T3 S283 S303 S426) R R
 obtain⟨ax87,ux87,f430,hl431⟩:=f429.rdc.gSl hx87
 refine Jg R (Jc2 I29 R R<|hvC hl431 R)<|Ob h λx90 hx90 h=>Jh R R R C106 (gl (κ:=λb=>mp [(19,2)] 0<|K302 b) (p0:=(⟨p0.b,x64.2.1,x64.2.2⟩:l1Cur)) (Jl2 (f297.stp (S303.tr S426) R R) (mp [(19,2)] 0) R R) ((f306.stp S426 R R).map (mp [(19,2)] 0) R R) hx90) ?_
 rintro _ w434 ⟨k435,rfl,e436,f437⟩
 obtain⟨K438,S439,m440⟩:=Ji e436 20 R
 refine⟨(S439.cl R),Ob h λx91 hx91 h=>Jc3 R f430 hx91 U29 Z2<|Jt1 ?_⟩
 obtain⟨K444,S445,f446,f447⟩:=(f429.stp S439 R R).borrow hx87 (hl431 _ (Stp.ag S439 R)) 23 R R
 refine Ob h λy370 hy370 h=>Jk1 (κ:=K444) (E:=E6) 23 [] R R R R R R R R Z2 R R R R f446 hy370 λw448 K449 S450 f451=>Tv<|?_
 have hn452:x87.length=y370.length:=(Jt2 hy370).2.2.2.symm
 refine Ob h λyb370 hyb370 h=>?_
 obtain⟨K454,S455,f456⟩:=Ow.unborrow (f447.stp S450 R R) f451 hn452 R R hyb370
 have hn457:s4.2.2.2.length=yb370.length:=(Jt2 hyb370).2.2.2.symm
 refine Jo ?_
 cases h
 exact Jw1 _ ⟨(λb=>ren [(22,19)]<|K454 b),R,(Jy2 ((T5 S426 S439 S445 S450 S455).wk R) [(22,19)] R),(f456.map (ren [(22,19)]) R R),hn457,(((f437.mx m440 R (R:20+2=22)).stp (T3 S445 S450 S455) R R).map (ren [(22,19)]) R R)⟩<|KM R
 rintro _ w419 ⟨K420,rfl,S421,f422,hn423,f424⟩
 have h:=hK418
 cases h
 exact Jw1 _ ⟨K420,R,S421.wk R,f422,hn423,f424⟩<|KM R
 refine JT λh=>Jx R<|Ob h λx78 hx78 h=>Ob h λx81 hx81 h=>Ob h λx82 hx82 h=>Ob h λy368 hy368 h=>Jx1 (λL w'=>∃κ',L=[(0,.pointer (some ⟨b0,0,none⟩)),(4,.pointer (some ⟨b4,0,none⟩)),(7,.pointer (some ⟨b7,0,none⟩))]/\Stp [13,21] K302 w298 κ' w'/\Oc (Ep.own E6 2) 29 κ' w' 13 ac ad y368/\s4.2.2.2.length=y368.length) ?_ ?_
 refine WC.rxt (κ:=K302) [0,8,13] (some 7) (by kernel_rfl) λw353 S354=>Jq1 (fuel:=5) [(0,2),(2,2),(3,0),(4,2),(5,0)] (by kernel_rfl) (by kernel_rfl) R<|Jd3 R U31 R Z26<|Jd3 R U31 R Z26 ?_
 have f355:=f165.stp (T3 S283 S303 S354) R R
 refine Jg R (Jc2 I26 R R<|hvC (f355.ld 1 R R) R)<|Jc3 R f163.rdc hx78 U26 Z29 ?_
 have f356:=f163.stp (T3 S283 S303 S354) R R
 obtain⟨ax78,ux78,f357,hl358⟩:=f356.rdc.gSl hx78
 refine Jg R (Jc2 I29 R R<|hvC hl358 R)<|Jp1<|WA.fork2 (fuel:=4) 1 6 (by kernel_rfl) R ?_ ?_
 refine Jl (Cl.refl _ _ _) R R R R (Jc2 I26 R R<|hvE<|f355.ld 1 R R)<|Jp1<|Jq1 (fuel:=3) [(6,1)] (by kernel_rfl) (by kernel_rfl) R<|Jn1 (κ:=K302) (E:=E6) 20 [] (parts:=[(0,.const (vi 0))]) (cells:=[vi 0]) (xs:=([0]:List Int)) R R R R R R Y29 a8 R R R R R R R R R R ⟨[vi 0],[],Zl K302 w353 [],Zl K302 w353 [],R,Zl.sp (l1:=[]) (l2:=[]) R,Zl.sr (l1:=[]) (l2:=[]),R,R⟩ λaJ aH w359 K360 S361 f362=>⟨(S361.cl R),Jp1<|WA.brk (fuel:=2) 7 (by kernel_rfl) R (by kernel_rfl) ?_⟩
 have f363:=f356.stp S361 R R
 obtain⟨K364,S365,f366,f367⟩:=f363.borrow hx78 (hl358 _ (Stp.ag S361 R)) 21 R R
 refine Jm1 (κ:=K364) (E:=E6) 21 [] R R R R R R R R R Y29 a8 R R R R f366 (Sl.srcP (bM _) (f362.stp S365 R R).rdc) bH hx81 R λaE aD w369 K370 S371 f372=>Tv<|Jp1<|Jq1 (fuel:=0) [(8,2),(9,1)] (by kernel_rfl) (by kernel_rfl) R<|Jc3 R f363.rdc hx82 U26 Z29<|WO.stH (κ:=K370) (E:=(Ep.own E6 2)) 13 [21] R R R R R R R R Z29 R ⟨_,_,R,f372⟩ R R (f367.stp S371 R R) hy368 λw374 K375 S376 f377=>Tv<|?_
 have hn378:s4.2.2.2.length=y368.length:=(Jt2 hy368).2.2.2.symm
 exact Jp1<|Jr1 [] (by kernel_rfl) (by kernel_rfl) R<|Jo<|Jw1 _ ⟨K375,R,(T5 S354 S361 S365 S371 S376).wk R,f377,hn378⟩<|KM R
 refine Jn1 (κ:=K302) (E:=E6) 20 [] (parts:=[(0,.const (vi 0))]) (cells:=[vi 0]) (xs:=([0]:List Int)) R R R R R R Y29 a8 R R R R R R R R R R ⟨[vi 0],[],Zl K302 w353 [],Zl K302 w353 [],R,Zl.sp (l1:=[]) (l2:=[]) R,Zl.sr (l1:=[]) (l2:=[]),R,R⟩ λaJ aH w379 K380 S381 f382=>⟨(S381.cl R),Jp1<|WA.forkB2r (fuel:=3) 1 7 (by kernel_rfl) R (by kernel_rfl) ?_ ?_⟩
 refine Jl (S381.cl R) R R R R (Jc2 I26 R R<|hvE ((f355.stp S381 R R).ld 1 R R))<|Jp1<|WA.brk (fuel:=2) 7 (by kernel_rfl) R (by kernel_rfl) ?_
 have f384:=f356.stp S381 R R
 obtain⟨K385,S386,f387,f388⟩:=f384.borrow hx78 (hl358 _ (Stp.ag S381 R)) 21 R R
 refine Jm1 (κ:=K385) (E:=E6) 21 [] R R R R R R R R R Y29 a8 R R R R f387 (Sl.srcP (bM _) (f382.stp S386 R R).rdc) bH hx81 R λaE aD w390 K391 S392 f393=>Tv<|Jp1<|Jq1 (fuel:=0) [(8,2),(9,1)] (by kernel_rfl) (by kernel_rfl) R<|Jc3 R f384.rdc hx82 U26 Z29<|WO.stH (κ:=K391) (E:=(Ep.own E6 2)) 13 [21] R R R R R R R R Z29 R ⟨_,_,R,f393⟩ R R (f388.stp S392 R R) hy368 λw395 K396 S397 f398=>Tv<|?_
 have hn399:s4.2.2.2.length=y368.length:=(Jt2 hy368).2.2.2.symm
 exact Jp1<|Jr1 [] (by kernel_rfl) (by kernel_rfl) R<|Jo<|Jw1 _ ⟨K396,R,(T5 S354 S381 S386 S392 S397).wk R,f398,hn399⟩<|KM R
 have f400:=f356.stp S381 R R
 obtain⟨K401,S402,f403,f404⟩:=f400.borrow hx78 (hl358 _ (Stp.ag S381 R)) 21 R R
 refine Jm1 (κ:=K401) (E:=E6) 21 [] R R R R R R R R R Y29 a8 R R R R f403 (Sl.srcP (bM _) (f382.stp S402 R R).rdc) bH hx81 R λaE aD w406 K407 S408 f409=>Tv<|Jp1<|Jq1 (fuel:=0) [(1,1),(8,2),(9,1)] (by kernel_rfl) (by kernel_rfl) R<|Jb3 R I26 ((f355.stp (T3 S381 S402 S408) R R).ld 1 R R)<|Jc3 R f400.rdc hx82 U26 Z29<|WO.stH (κ:=K407) (E:=(Ep.own E6 2)) 13 [21] R R R R R R R R Z29 R ⟨_,_,R,f409⟩ R R (f404.stp S408 R R) hy368 λw412 K413 S414 f415=>Tv<|?_
 have hn416:s4.2.2.2.length=y368.length:=(Jt2 hy368).2.2.2.symm
 exact Jp1<|Jr1 [] (by kernel_rfl) (by kernel_rfl) R<|Jo<|Jw1 _ ⟨K413,R,(T5 S354 S381 S402 S408 S414).wk R,f415,hn416⟩<|KM R
 rintro _ w347 ⟨K348,rfl,S349,f351,hn352⟩
 cases h
 exact Jw1 _ ⟨K348,R,S349.wk R,f351,hn352,(f306.stp S349 R R)⟩<|KM R
 rintro _ w340 ⟨K341,rfl,S342,f343,hn344,f345⟩
 have h:=hK339
 cases h
 exact Jw1 _ ⟨K341,R,S342.wk R,(f162.stp (T3 S283 S303 S342) R R),R,f343,hn344,f345⟩<|KM R
 refine JT λh=>Jx R<|Js1 (κ:=K302) [8] none [(0,2),(2,2),(1,0),(3,1),(4,2),(5,1)] [] (by kernel_rfl) (by kernel_rfl) λw318 S317=>Jd3 R U31 R Z29<|Jn 1 R<|Jg R (Jc2 I29 R R<|hvC ((f165.stp (T3 S283 S303 S317) R R).ld 0 R R) R)<|Ob h λx70 hx70 h=>Jh R R R C106 (gl (κ:=λb=>mp [(19,2)] 0<|K302 b) (p0:=(⟨p0.b,x64.2.1,x64.2.2⟩:l1Cur)) (Jl2 (f297.stp (S303.tr S317) R R) (mp [(19,2)] 0) R R) ((f306.stp S317 R R).map (mp [(19,2)] 0) R R) hx70) ?_
 rintro _ w322 ⟨k323,rfl,e324,f325⟩
 obtain⟨K326,S327,m328⟩:=Ji e324 20 R
 refine⟨(S327.cl R),Ob h λx71 hx71 h=>Jc3 R f162.rdc hx71 U29 Z2<|Ob h λy366 hy366 h=>Jk1 (κ:=K326) (E:=E6) 12 [] R R R R R R R R Z2 R R R R (f162.stp (T4 S283 S303 S317 S327) R R) hy366 λw332 K333 S334 f335=>⟨((S327.tr S334).cl R),?_⟩⟩
 have hn336:s4.2.2.1.length=y366.length:=(Jt2 hy366).2.2.2.symm
 refine Jt1<|Jo ?_
 cases h
 exact Jw1 _ ⟨(λb=>ren [(22,19)]<|K333 b),R,(Jy2 ((T3 S317 S327 S334).wk R) [(22,19)] R),(f335.map (ren [(22,19)]) R R),hn336,((f163.stp (T5 S283 S303 S317 S327 S334) R R).map (ren [(22,19)]) R R),R,(((f325.mx m328 R (R:20+2=22)).stp S334 R R).map (ren [(22,19)]) R R)⟩<|KM R
 rintro _ w308 ⟨K309,rfl,S310,f311,hn312,f313,hn314,f315⟩
 have h:=hK307
 refine Jz ?_
 cases h
 exact Jw1 _ ⟨(λb=>ren [(19,16)]<|K309 b),R,(Jy2 ((S303.tr S310).wk R) [(19,16)] R),(f311.map (ren [(19,16)]) R R),hn312,(f313.map (ren [(19,16)]) R R),hn314,(f315.map (ren [(19,16)]) R R)⟩<|KM R
 rintro _ w288 ⟨K289,rfl,S290,f291,hn292,f293,hn294,f295⟩
 have h:=hK287
 refine Jp<|Je [1,1] R<|Jl tv R R R R (Jd2 (cs:=[.slice ai s4.2.2.1.length af,.slice ac s4.2.2.2.length ad]) I31 Z31 R R R<|haE (f165.stp (S283.tr S290) R R).cells)<|Jj1 (κ:=K289) 4 (vc:=[.slice ai s4.2.2.1.length af,.slice ac s4.2.2.2.length ad]) R R R R R R R Z31 R R (f8.stp (T8 S16 S23 S140 S143 S152 S161 S283 S290) R R) R λw465 S466 f467=>Tv<|Jd<|Ju<|Ja2 (l:=[.cell 4 31]) V47 (bF R f467 I31 Z31 R R) R ?_
 cases h
 exact⟨(λb=>ren [(12,3),(13,4),(16,2)]<|K289 b),ai,af,ac,ad,(by simp only[hn292,hn294]),((hE.stp (T11 S3 S7 S16 S23 S140 S143 S152 S161 S283 S290 S466) R R).map (ren [(12,3),(13,4),(16,2)]) R R),((f291.stp S466 R R).map (ren [(12,3),(13,4),(16,2)]) R R),((f293.stp S466 R R).map (ren [(12,3),(13,4),(16,2)]) R R),((f295.stp S466 R R).map (ren [(12,3),(13,4),(16,2)]) R R)⟩
theorem pd {a0 u0}{p0:(List Int)}(g0:Rd (Rp.int .u8) κ w 0 a0 u0 p0){r:Sig×Machine×Rival}(h:g9 p0=some r):Ret Tryz.prog 9 [.slice a0 p0.length u0] w (λv w'=>∃(κ':Col) (ra0:Option Addr) (ru0:Nat) (ra1:Option Addr) (ru1:Nat) (ra2:Option Addr) (ru2:Nat) (ra3:Option Addr) (ru3:Nat),v= .tuple #[.agg #[vi r.1.In,vi r.1.Out],.agg #[.slice ra0 r.2.1.Next.length ru0,.slice ra1 r.2.1.Out.length ru1],.agg #[.slice ra2 r.2.2.In.length ru2,.slice ra3 r.2.2.Next.length ru3]]/\Ent κ w κ' w'/\Oc (Ep.own E6 2) 29 κ' w' 2 ra0 ru0 r.2.1.Next/\Rd (Rp.sl (Rp.int .i64)) κ' w' 0 ra1 ru1 r.2.1.Out/\Oc E6 2 κ' w' 4 ra2 ru2 r.2.2.In/\Oc (Ep.own E6 2) 29 κ' w' 5 ra3 ru3 r.2.2.Next):=by
 unfold g9 at h
 refine Jk3 κ F9 R N9 R λhE=>Je [1,1,1] R<|Jg1 (κ:=κ) 2 R R R R R X25 R λb2 w1 K2 S3 f4=>Tv<|Jg1 (κ:=K2) 3 R R R R R X28 R λb3 w5 K6 S7 f8=>Tv<|Jg1 (κ:=K6) 4 R R R R R X31 R λb4 w9 K10 S11 f12=>Tv<|Jd<|Jg3 [2,1,2] 1 R<|Ob h λx10 hx10 h=>?_
 have f13:=g0.stp (T3 S3 S7 S11) R R
 refine Jh R R R C42 (py (κ:=λb=>mp [] 1<|K10 b) (Jl2 f13 (mp [] 1) R R) hx10) ?_
 rintro _ w14 ⟨k15,au,ar,b10,rfl,e16,f17,f18⟩
 obtain⟨K19,S20,m21,z22⟩:=Jj e16 5 R
 refine Tv<|?_
 have f23:=f17.mx z22
 refine Jb 1 R<|Jg3 [2,1,1,1] 1 R<|Ob h λx12 hx12 h=>Jh R R R C43 (lO (κ:=λb=>mp [(8,2)] 0<|K19 b) (p0:=x10) (Jl2 f23 (mp [(8,2)] 0) R R) ((f18.mx m21 R (R:5+3=8)).map (mp [(8,2)] 0) R R) hx12) ?_
 rintro _ w25 ⟨k26,rfl,e27,f28⟩
 obtain⟨K29,S30,m31⟩:=Ji e27 9 R
 refine Tv<|Jg1 (κ:=K29) 12 R R R R R X25 R λb6 w34 K35 S36 f37=>Tv<|Jj1 (κ:=K35) 12 (vc:=[vi x12.1.In,vi x12.1.Out]) R R R R R R R Z25 R R f37 R λw38 S39 f40=>Tv<|Jd<|Jg3 [2,1,2,2,2,1,1,1,1] 1 R<|Ob h λx15 hx15 h=>Jh R R R C44 (nj (κ:=λb=>mp [] 1<|K35 b) (Jl2 (f13.stp (T4 S20 S30 S36 S39) R R) (mp [] 1) R R) hx15) ?_
 rintro _ w42 ⟨k43,ak,ap,aj,al,rfl,e44,f45,f46⟩
 obtain⟨K47,S48,m49,z50⟩:=Jj e44 13 R
 refine Tv<|Jn 3 R<|Jg1 (κ:=K47) 17 R R R R R X25 R λb7 w53 K54 S55 f56=>Tv<|Jg1 (κ:=K54) 18 R R R R R X28 R λb8 w57 K58 S59 f60=>Tv<|Jj1 (κ:=K58) 17 (vc:=[vi x15.1.In,vi x15.1.Out]) R R R R R R R Z25 R R (f56.stp S59 R R) R λw62 S63 f64=>Tv<|Jj1 (κ:=K58) 18 (vc:=[.slice ak x15.2.Next.length ap,.slice aj x15.2.Out.length al]) R R R R R R R Z28 R R (f60.stp S63 R R) R λw66 S67 f68=>Tv<|Jd<|Jq<|Jg3 [2,1] 1 R<|Ob h λx19 hx19 h=>?_
 have f69:=f23.stp (T8 S30 S36 S39 S48 S55 S59 S63 S67) R R
 refine Jh R R R C45 (c9 (κ:=λb=>mp [(11,2)] 0<|K58 b) (p0:=(⟨x10.b,x12.2.1,x12.2.2⟩:l1Cur)) (Jl2 f69 (mp [(11,2)] 0) R R) (((f28.mx m31 R (R:9+2=11)).stp (T7 S36 S39 S48 S55 S59 S63 S67) R R).map (mp [(11,2)] 0) R R) hx19) ?_
 rintro _ w71 ⟨k72,rfl,e73,f74⟩
 obtain⟨K75,S76,m77⟩:=Ji e73 19 R
 refine Tv<|?_
 have f79:=f74.mx m77 R (R:19+2=21)
 refine Jd<|Ob h λq1 h hK80=>Jx1 (λL w'=>∃κ' ad ac aa ab,L=[(2,.pointer (some ⟨b2,0,none⟩)),(3,.pointer (some ⟨b3,0,none⟩)),(4,.pointer (some ⟨b4,0,none⟩)),(5,.pointer (some ⟨b10,0,none⟩)),(6,.pointer (some ⟨b6,0,none⟩)),(8,.pointer (some ⟨b8,0,none⟩))]/\Stp [18,21,24,28,29] K75 w71 κ' w'/\Oc (Ep.own E6 2) 29 κ' w' 15 ad ac q1.1/\Rd (Rp.sl<|Rp.int .i64) κ' w' 0 aa ab q1.2.1/\Bc κ' w' 21 b10 142 [.slice au x10.b.length ar,vi q1.2.2.1,vi q1.2.2.2]/\Bc κ' w' 18 b8 28 [.slice ad q1.1.length ac,.slice aa q1.2.1.length ab]) ?_ ?_
 revert h
 cases ht88:x19.1
 refine JF λh=>Jy R<|Js ?_
 cases h
 have S001:=(T5 S55 S59 S63 S67 S76)
 exact Jw1 _ ⟨K75,ak,ap,aj,al,R,Jj3,((f45.mx (cD (bD _) _) m49 R (R:13+2=15)).stp S001 R R),((f46.mx z50).stp S001 R R),f79,(f68.stp S76 R R)⟩<|KM R
 refine JT λh=>Jx R<|Js1 (κ:=K75) [12] none [(1,2),(0,0),(2,0),(3,1),(4,1),(5,2),(6,2),(7,2),(8,1)] [] (by kernel_rfl) (by kernel_rfl) λw90 S89=>Jn 1 R ?_
 have f91:=f40.stp (T7 S48 S55 S59 S63 S67 S76 S89) R R
 refine Jg R (Jd2 (cs:=[vi x12.1.In,vi x12.1.Out]) I25 Z25 R R R<|haC f91.cells R)<|Jg R (Jd2 (cs:=[vi x12.1.In,vi x12.1.Out]) I25 Z25 R R R<|haC f91.cells R)<|Ob h λx24 hx24 h=>Jh R R R C46 (jr (κ:=λb=>mp [(21,2)] 0<|K75 b) (p1:=x12.1) (p0:=(⟨x10.b,x19.2.1,x19.2.2⟩:l1Cur)) (Jl2 (f69.stp (S76.tr S89) R R) (mp [(21,2)] 0) R R) ((f79.stp S89 R R).map (mp [(21,2)] 0) R R) hx24) ?_
 rintro _ w94 ⟨k95,aw,av,rfl,e96,f97,f98⟩
 obtain⟨K99,S100,m101⟩:=Ji e96 22 R
 refine⟨(S100.cl R),Ob h λx25 hx25 h=>Jh R R R C29 (pG (κ:=Mk K99) (p0:=x12.1) (Ji3 (f97.mx Clause.no119 m101 R (R:22+3=25)).rdc) hx25) ?_⟩
 rintro _ w105 ⟨k106,ai,af,ae,ao,rfl,e107,f108,f109⟩
 obtain⟨K110,S111,m112⟩:=Ji e107 26 R
 refine⟨((S100.tr S111).cl R),Jn 3 R<|Jj1 (κ:=K110) 18 (vc:=[.slice ai x25.1.Next.length af,.slice ae x25.1.Out.length ao]) R R R R R R R Z28 R R (f68.stp (T4 S76 S89 S100 S111) R R) R λw117 S118 f119=>⟨((T3 S100 S111 S118).cl R),Jt1<|Jo ?_⟩⟩
 obtain⟨K121,S122,z123⟩:=eR K110 w117 29
 cases h
 exact Jw1 _ ⟨(λb=>ren [(28,15),(24,21)]<|K121 b),ai,af,ae,ao,R,(Jy2 ((T5 S89 S100 S111 S118 S122).wk R) [(28,15),(24,21)] R),(((f108.mx (cD (bD _) _) m112 R (R:26+2=28)).stp (S118.tr S122) R R).map (ren [(28,15),(24,21)]) R R),((Sl.st z123 ((f109.mx (cD (bD _) _) m112 R (R:26+3=29)).stp S118 R R).rdc).map (ren [(28,15),(24,21)]) R R),(((f98.mx m101 R (R:22+2=24)).stp (T3 S111 S118 S122) R R).map (ren [(28,15),(24,21)]) R R),((f119.stp S122 R R).map (ren [(28,15),(24,21)]) R R)⟩<|KM R
 rintro _ w81 ⟨K82,ad,ac,aa,ab,rfl,S83,f84,f85,f86,f87⟩
 have h:=hK80
 refine Jp<|Jq<|Js1 (κ:=K82) [12,18] none [(2,2),(0,0),(1,0),(3,0),(4,1),(5,1),(6,1),(7,1)] [] (by kernel_rfl) (by kernel_rfl) λw132 S131=>Jn 1 R ?_
 have f133:=f40.stp (T8 S48 S55 S59 S63 S67 S76 S83 S131) R R
 refine Jg R (Jd2 (cs:=[vi x12.1.In,vi x12.1.Out]) I25 Z25 R R R<|haC f133.cells R)<|Jg R (Jd2 (cs:=[.slice ad q1.1.length ac,.slice aa q1.2.1.length ab]) I28 Z28 R R R<|haC (f87.stp S131 R R).cells R)<|Jg R (Jd2 (cs:=[vi x12.1.In,vi x12.1.Out]) I25 Z25 R R R<|haC f133.cells R)<|Ob h λx32 hx32 h=>Jh R R R C47 (rF (κ:=λb=>mp [(21,2)] 0<|K82 b) (p1:=x12.1) (p0:=(⟨x10.b,q1.2.2.1,q1.2.2.2⟩:l1Cur)) (Jl2 (f69.stp (T3 S76 S83 S131) R R) (mp [(21,2)] 0) R R) ((f86.stp S131 R R).map (mp [(21,2)] 0) R R) hx32) ?_
 rintro _ w137 ⟨k138,aq,an,am,ah,rfl,e139,f140,f141,f142⟩
 obtain⟨K143,S144,m145⟩:=Ji e139 22 R
 refine⟨(S144.cl R),Jj1 (κ:=K143) 2 (vc:=[vi x12.1.In,vi x12.1.Out]) R R R R R R R Z25 R R (f4.stp (T15 S7 S11 S20 S30 S36 S39 S48 S55 S59 S63 S67 S76 S83 S131 S144) R R) R λw151 S152 f153=>⟨((S144.tr S152).cl R),Jj1 (κ:=K143) 3 (vc:=[.slice ad q1.1.length ac,.slice aa q1.2.1.length ab]) R R R R R R R Z28 R R (f8.stp (T15 S11 S20 S30 S36 S39 S48 S55 S59 S63 S67 S76 S83 S131 S144 S152) R R) R λw155 S156 f157=>⟨((T3 S144 S152 S156).cl R),Jj1 (κ:=K143) 4 (vc:=[.slice aq x32.1.In.length an,.slice am x32.1.Next.length ah]) R R R R R R R Z31 R R (f12.stp (T15 S20 S30 S36 S39 S48 S55 S59 S63 S67 S76 S83 S131 S144 S152 S156) R R) R λw159 S160 f161=>⟨((T4 S144 S152 S156 S160).cl R),Jt1<|Jd<|Ju<|Ja2 (l:=[.cell 2 25,.cell 3 28,.cell 4 31]) V9 (bF R (f153.stp (S156.tr S160) R R) I25 Z25 R<|bF R (f157.stp S160 R R) I28 Z28 R<|bF R f161 I31 Z31 R R) R ?_⟩⟩⟩⟩
 cases h
 have S002:=(T5 S131 S144 S152 S156 S160)
 have S003:=(T3 S152 S156 S160)
 exact⟨(λb=>ren [(15,2),(25,4),(26,5)]<|K143 b),ad,ac,aa,ab,aq,an,am,ah,R,((hE.stp (S3.tr<|S7.tr<|S11.tr<|S20.tr<|S30.tr<|S36.tr<|S39.tr<|S48.tr<|S55.tr<|S59.tr<|S63.tr<|S67.tr<|S76.tr<|S83.tr<|S131.tr<|S144.tr<|S152.tr<|S156.tr S160) R R).map (ren [(15,2),(25,4),(26,5)]) R R),((f84.stp S002 R R).map (ren [(15,2),(25,4),(26,5)]) R R),((f85.stp S002 R R).map (ren [(15,2),(25,4),(26,5)]) R R),(((f140.mx (bD _) m145 R (R:22+3=25)).stp S003 R R).map (ren [(15,2),(25,4),(26,5)]) R R),(((f141.mx (cD (bD _) _) m145 R (R:22+4=26)).stp S003 R R).map (ren [(15,2),(25,4),(26,5)]) R R)⟩
theorem r9 {a0 u0}{p0:(List Int)}(g0:Rd (Rp.int .u8) κ w 0 a0 u0 p0){r:Bool}(h:mK p0=some r):Ret Tryz.prog 3 [.slice a0 p0.length u0] w (Pvb κ w r):=by
 unfold mK at h
 refine Jk3 κ F3 R N3 R λhE=>Je3 R<|Jq<|Jg3 [2,1] 1 R<|Ob h λx16 hx16 h=>Jh R R R C8 (vO (κ:=Mk κ) (Ji3 g0) hx16) ?_
 rintro _ w1 ⟨k2,rfl,e3⟩
 obtain⟨K4,S5,m6⟩:=Ji e3 2 R
 refine Tv<|Jd ?_
 revert h
 cases ht8:x16
 refine JF λh=>Jy R<|Js<|Jp<|Jg3 [2,1,2,2,2,2,1,1,1,1,1,1] 1 R<|Ob h λx19 hx19 h=>Jh R R R C9 (pd (κ:=λb=>mp [] 1<|K4 b) (Jl2 (g0.stp S5 R R) (mp [] 1) R R) hx19) ?_
 rintro _ w11 ⟨k12,an,au,ap,aq,ae,ac,af,ad,rfl,e13,f14,f15,f16,f17⟩
 obtain⟨K18,S19,m20,z21⟩:=Jj e13 4 R
 refine Tv<|Jn 4 R<|Jg1 (κ:=K18) 10 R R R R R X25 R λb3 w26 K27 S28 f29=>Tv<|Jg1 (κ:=K27) 11 R R R R R X28 R λb4 w30 K31 S32 f33=>Tv<|Jg1 (κ:=K31) 12 R R R R R X31 R λb5 w34 K35 S36 f37=>Tv<|Jj1 (κ:=K35) 10 (vc:=[vi x19.1.In,vi x19.1.Out]) R R R R R R R Z25 R R (f29.stp (S32.tr S36) R R) R λw39 S40 f41=>Tv<|Jj1 (κ:=K35) 11 (vc:=[.slice an x19.2.1.Next.length au,.slice ap x19.2.1.Out.length aq]) R R R R R R R Z28 R R (f33.stp (S36.tr S40) R R) R λw43 S44 f45=>Tv<|Jj1 (κ:=K35) 12 (vc:=[.slice ae x19.2.2.In.length ac,.slice af x19.2.2.Next.length ad]) R R R R R R R Z31 R R (f37.stp (S40.tr S44) R R) R λw47 S48 f49=>Tv<|Jd<|Je [1,1,1,1,2,2,2,1,1,2] R ?_
 have f50:=f41.stp (S44.tr S48) R R
 refine Jl tv R R R R (Jd2 (cs:=[vi x19.1.In,vi x19.1.Out]) I25 Z25 R R R<|haE f50.cells) ?_
 have f51:=f45.stp S48 R R
 refine Jl tv R R R R (Jd2 (cs:=[.slice an x19.2.1.Next.length au,.slice ap x19.2.1.Out.length aq]) I28 Z28 R R R<|haE f51.cells)<|Jl tv R R R R (Jd2 (cs:=[.slice ae x19.2.2.In.length ac,.slice af x19.2.2.Next.length ad]) I31 Z31 R R R<|haE f49.cells)<|Ob h λx27 hx27 h=>?_
 have f52:=(f14.mx (cD (bD _) _) m20 R (R:4+2=6)).stp (T6 S28 S32 S36 S40 S44 S48) R R
 have f53:=(f15.mx z21).stp (T6 S28 S32 S36 S40 S44 S48) R R
 have f54:=(f16.mx (bD _) m20 R (R:4+4=8)).stp (T6 S28 S32 S36 S40 S44 S48) R R
 have f55:=(f17.mx (cD (bD _) _) m20 R (R:4+5=9)).stp (T6 S28 S32 S36 S40 S44 S48) R R
 refine Jh R R R C10 (sn (κ:=Mk K35) (p0:=x19.1) (p1:=x19.2.1) (p2:=x19.2.2) (Ji3 f52.rdc) (Ji3 f53) (Ji3 f54.rdc) (Ji3 f55.rdc) hx27) ?_
 rintro _ w56 ⟨k57,aB,aC,aE,ax,rfl,e58,f59,f60⟩
 obtain⟨K61,S62,m63⟩:=Ji e58 13 R
 refine Tv<|?_
 have f65:=f59.mx (bD _) m63 R (R:13+2=15)
 have f66:=f60.mx (bD _) m63 R (R:13+3=16)
 refine Jn 3 R<|Jg1 (κ:=K61) 17 R R R R R X35 R λb6 w67 K68 S69 f70=>Tv<|Jj1 (κ:=K68) 17 (vc:=[.slice aB x27.1.Stem.length aC,.slice aE x27.1.Loop.length ax]) R R R R R R R Z35 R R f70 R λw71 S72 f73=>Tv<|Jb 1 R<|Je [1,1,1,1,2,2,2,1,1,2] R ?_
 have f74:=f50.stp (T3 S62 S69 S72) R R
 refine Jl tv R R R R (Jd2 (cs:=[vi x19.1.In,vi x19.1.Out]) I25 Z25 R R R<|haE f74.cells)<|Jl tv R R R R (Jd2 (cs:=[.slice an x19.2.1.Next.length au,.slice ap x19.2.1.Out.length aq]) I28 Z28 R R R<|haE (f51.stp (T3 S62 S69 S72) R R).cells) ?_
 have f76:=f49.stp (T3 S62 S69 S72) R R
 refine Jl tv R R R R (Jd2 (cs:=[.slice ae x19.2.2.In.length ac,.slice af x19.2.2.Next.length ad]) I31 Z31 R R R<|haE f76.cells)<|Ob h λx34 hx34 h=>?_
 have f79:=f54.stp (T3 S62 S69 S72) R R
 have f80:=f55.stp (T3 S62 S69 S72) R R
 refine Jh R R R C11 (tk (κ:=Mk K68) (p0:=x19.1) (p1:=x19.2.1) (p2:=x19.2.2) (Ji3 (f52.stp (T3 S62 S69 S72) R R).rdc) (Ji3<|f53.stp (T3 S62 S69 S72) R R) (Ji3 f79.rdc) (Ji3 f80.rdc) hx34) ?_
 rintro _ w81 ⟨k82,aG,aF,aH,aI,rfl,e83,f84,f85⟩
 obtain⟨K86,S87,m88⟩:=Ji e83 18 R
 refine Tv<|Jn 3 R<|Jg1 (κ:=K86) 22 R R R R R X35 R λb8 w92 K93 S94 f95=>Tv<|Jj1 (κ:=K93) 22 (vc:=[.slice aG x34.1.Stem.length aF,.slice aH x34.1.Loop.length aI]) R R R R R R R Z35 R R f95 R λw96 S97 f98=>Tv<|Jb 1 R<|Jq<|Jg3 [2,2,2,2,2,1,2,1,1,2,2,2,2,1,2,1,1,2,2] 2 R<|Jf R (rY R R U4 R)<|Jn 1 R<|Ob h λp47 h hK99=>Ju1 [(4,2),(5,1),(6,2),(7,1),(8,1),(9,2),(10,2)] [(11,2),(12,2),(13,1),(14,2),(15,1),(16,1),(17,2),(18,2)] (λL w'=>L=[(3,.pointer (some ⟨b3,0,none⟩)),(5,.pointer (some ⟨b5,0,none⟩)),(6,.pointer (some ⟨b6,0,none⟩)),(7,.bool x27.2),(8,.pointer (some ⟨b8,0,none⟩)),(47,.bool p47)]/\∃κ',Stp [] K93 w96 κ' w') tv ?_ ?_
 revert h
 cases ht100:(x27.2 !=x34.2)
 refine JF λh=>Jd3 R U35 R Z29<|Jb3 R I29 ((f73.stp (T3 S87 S94 S97) R R).ld 0 R R)<|Jd3 R U35 R Z29<|Jb3 R I29 (f98.ld 0 R R)<|Ob h λx45 hx45 h=>Jh R R R C12 (nc (κ:=Mk K93) (Ji3 (f65.stp (T5 S69 S72 S87 S94 S97) R R).rdc) (Ji3 ((f84.mx (bD _) m88 R (R:18+2=20)).stp (S94.tr S97) R R).rdc) hx45) ?_
 rintro _ w104 ⟨k105,rfl,e106⟩
 obtain⟨K107,S108,m109⟩:=Ji e106 23 R
 refine Tv<|Jn 2 R ?_
 cases h
 exact Jv1 _ tv ⟨R,_,S108.wk R⟩<|KM R
 refine JT λh=>Jn 1 R<|Jd1 R R R R<|Jn 1 R<|Jd1 R R R R<|Jd1 R R R R<|Jn 2 R ?_
 cases h
 exact Jv1 _ tv ⟨R,_,Jj3⟩<|KM R
 rintro _ w111 _ ⟨rfl,K112,S113⟩
 have h:=hK99
 refine Jn 1 R<|Ob h λp55 h hK114=>Ju1 [(12,2),(13,1),(14,2),(15,1),(16,1),(17,2),(18,2)] [] (λL w'=>L=[(3,.pointer (some ⟨b3,0,none⟩)),(5,.pointer (some ⟨b5,0,none⟩)),(6,.pointer (some ⟨b6,0,none⟩)),(7,.bool x27.2),(55,.bool p55)]/\∃κ',Stp [] K112 w111 κ' w') tv ?_ ?_
 revert h
 cases ht115:p47
 refine JF λh=>Jd3 R U35 R Z29<|Jb3 R I29 ((f73.stp (T4 S87 S94 S97 S113) R R).ld 1 R R)<|Jd3 R U35 R Z29<|Jb3 R I29 ((f98.stp S113 R R).ld 1 R R)<|Ob h λx53 hx53 h=>Jh R R R C12 (nc (κ:=Mk K112) (Ji3 (f66.stp (T6 S69 S72 S87 S94 S97 S113) R R).rdc) (Ji3 ((f85.mx (bD _) m88 R (R:18+3=21)).stp (T3 S94 S97 S113) R R).rdc) hx53) ?_
 rintro _ w120 ⟨k121,rfl,e122⟩
 obtain⟨K123,S124,m125⟩:=Ji e122 23 R
 refine Tv<|Jn 2 R ?_
 cases h
 exact Jv1 _ tv ⟨R,_,S124.wk R⟩<|KM R
 refine JT λh=>Jn 1 R<|Jd1 R R R R<|Jn 1 R<|Jd1 R R R R<|Jd1 R R R R<|Jn 2 R ?_
 cases h
 exact Jv1 _ tv ⟨R,_,Jj3⟩<|KM R
 rintro _ w127 _ ⟨rfl,K128,S129⟩
 have h:=hK114
 refine Jd ?_
 revert h
 cases ht130:p55
 refine JF λh=>Jy R<|Js<|Jp<|Jq<|Je3 R ?_
 revert h
 cases ht132:(!x27.2)
 refine JF λh=>Jy R<|Js<|Jp<|Je [2,1,1] R<|Jf R (bG (parts:=[]) (cells:=[.slice none 0 0,.slice none 0 0]) R R (by kernel_rfl))<|Jg1 (κ:=K128) 23 R R R R R X35 R λb10 w134 K135 S136 f137=>Tv<|Jj1 (κ:=K135) 23 (vc:=[.slice none 0 0,.slice none 0 0]) R R R R R R R Z35 R R f137 R λw138 S139 f140=>Tv<|Jd<|Jq<|Je3 R ?_
 have hN141:(x27.1.Stem.length:Int)<=9223372036854775807:=f65.len_le
 refine Ob h λq2 hq143 hK142=>?_
 clear h
 refine Jx1 (λL w'=>∃κ',∃s3:(List Int),∃ab aa,L=[(3,.pointer (some ⟨b3,0,none⟩)),(5,.pointer (some ⟨b5,0,none⟩)),(6,.pointer (some ⟨b6,0,none⟩)),(10,.pointer (some ⟨b10,0,none⟩))]/\Stp [23,24] K135 w138 κ' w'/\Oc E6 2 κ' w' 24 ab aa s3/\Bc κ' w' 23 b10 35 [.slice ab s3.length aa,.slice none 0 0]/\q2=yk s3) ?_ ?_
 refine Jv<|Jy1 (λk L w'=>∃κ' v11,∃s1:(List Int),∃ah aj,L=[(3,.pointer (some ⟨b3,0,none⟩)),(5,.pointer (some ⟨b5,0,none⟩)),(6,.pointer (some ⟨b6,0,none⟩)),(10,.pointer (some ⟨b10,0,none⟩)),(11,vi v11)]/\Stp [23,24] K135 w138 κ' w'/\Oc E6 2 κ' w' 24 ah aj s1/\Bc κ' w' 23 b10 35 [.slice ah s1.length aj,.slice none 0 0]/\0<=v11/\Int.toNat ((x27.1.Stem.length:Int)-v11)=k/\cntM (gP x19 x27) k v11 s1=some q2) ⟨_,_,⟨K135,0,(([]:List Int):(List Int)),none,0,R,Jj3,Ow.nil,f140,(by decide),(by simp),hq143⟩,(KM R)⟩ ?_
 rintro k _ w149 ⟨K150,v11,s1,ah,aj,rfl,S151,f152,f153,hj141,hJ141,h⟩
 rcases k with _ | k
 have hk154:=h;obtain⟨o141,h⟩:=ca (yk (Sum.inl s1):Bool⊕(((List Int))⊕((List Int))))
 have hc141:decide (v11<(x27.1.Stem.length:Int))=false:=Jo2 (by omega)
 refine Jq<|Jg3 [2,2,1,2,2] 1 R<|Jd3 R U35 R Z29<|Jb3 R I29 ((f73.stp (T8 S87 S94 S97 S113 S129 S136 S139 S151) R R).ld 0 R R)<|Jn3 R U29 R R<|Jb 1 R<|Jw2 R hc141<|Jc1<|Jt<|Jt ?_
 cases h
 have h:=hk154
 refine Jb1 ?_
 cases h
 exact Jw1 _ ⟨K150,s1,ah,aj,R,S151.wk R,f152,f153,R⟩<|KM R
 obtain⟨o141,h,hk154⟩:=BI h;unfold gP at h
 have hc141:decide (v11<(x27.1.Stem.length:Int))=true:=Jn2 (by omega)
 refine Jq<|Jg3 [2,2,1,2,2] 1 R<|Jd3 R U35 R Z29 ?_
 have f156:=f73.stp (T8 S87 S94 S97 S113 S129 S136 S139 S151) R R
 refine Jb3 R I29 (f156.ld 0 R R)<|Jn3 R U29 R R<|Jb 1 R<|Jv2 R hc141<|Js<|Jp<|Jq<|Jv<|Js1 (κ:=K150) [0,10,15,17,23] (some 12) [(0,2),(3,2),(5,2),(1,0),(2,0),(4,0),(6,2),(7,0),(8,1),(9,1),(10,1),(11,2)] [(12,1)] (by kernel_rfl) (by kernel_rfl) λw158 S157=>Jd3 R U35 R Z29<|Jd3 R U35 R Z29<|Jn 1 R ?_
 have f159:=f153.stp S157 R R
 refine Jg R (Jc2 I29 R R<|hvC (f159.ld 0 R R) R)<|Jg R (Jd2 (cs:=[vi x19.1.In,vi x19.1.Out]) I25 Z25 R R R<|haC (f74.stp (T9 S87 S94 S97 S113 S129 S136 S139 S151 S157) R R).cells R)<|Jg R (Jc2 I29 R R<|hvC ((f156.stp S157 R R).ld 0 R R) R)<|Ob h λx72 hx72 h=>Jc3 R f65.rdc hx72 U29 Z2<|Jg R (Jc2 I2 R R<|hvC ((f65.stp (T11 S69 S72 S87 S94 S97 S113 S129 S136 S139 S151 S157) R R).rdc.gInt hx72) R)<|Ob h λx74 hx74 h=>Jh R R R C13 (pL (κ:=Mk K150) (p0:=x19.1) hx74) ?_
 rintro _ w163 ⟨k164,rfl,e165⟩
 obtain⟨K166,S167,m168⟩:=Ji e165 25 R
 refine⟨(S167.cl R),Jn1 (κ:=K166) (E:=E6) 27 [] (parts:=[(0,.tmp 74)]) (cells:=[vi x74]) (xs:=([x74]:List Int)) R R R R R R Y29 a8 R R R R R R R R R R ⟨[vi x74],[],Zl K166 w163 [],Zl K166 w163 [],R,Zl.sp (l1:=[]) (l2:=[]) R,Zl.sr (l1:=[]) (l2:=[]),R,R⟩ λaN aJ w170 K171 S172 f173=>⟨((S167.tr S172).cl R),Ob h λx76 hx76 h=>Jm1 (κ:=K171) (E:=E6) 24 [] R R R R R R R R R Y29 a8 R R R R (f152.stp (T3 S157 S167 S172) R R) (Sl.srcP (bM _) f173.rdc) bH hx76 R λav aw w175 K176 S177 f178=>⟨((T3 S167 S172 S177).cl R),Jd3 R U35 R Z29<|Jt1<|Ji1 (κ:=K176) 23 (off:=0) (vc:=[.slice av x76.length aw]) (cs':=[.slice av x76.length aw,.slice none 0 0]) R R R R R R R Z29 R R (f159.stp (T3 S167 S172 S177) R R) R R λw180 S181 f182=>Tv<|Jo<|Jz<|Jp<|Jf3 R ?_⟩⟩⟩
 have hw141:IntKind.wrap .i64 (v11+1)=v11+1:=wr1 hj141 (Jm2 hc141) hN141
 rw[hw141]
 have hc141:=Jm2 hc141
 cases h
 exact Jz1 λa ha=>⟨k,_,Ja3 _,⟨K176,v11+1,x76,av,aw,R,(T6 S151 S157 S167 S172 S177 S181).wk R,(f178.stp S181 R R),f182,by omega,by omega,hk154⟩,(ha.mm R)⟩
 rintro _ w144 ⟨K145,s3,ab,aa,rfl,S146,f147,f148,rfl⟩
 have h:=yI hK142
 refine Jp<|Jq<|Je3 R ?_
 have hN184:(x27.1.Loop.length:Int)<=9223372036854775807:=f66.len_le
 refine Ob h λq5 hq186 hK185=>?_
 clear h
 refine Jx1 (λL w'=>∃κ',∃s6:(List Int),∃al am,L=[(3,.pointer (some ⟨b3,0,none⟩)),(5,.pointer (some ⟨b5,0,none⟩)),(6,.pointer (some ⟨b6,0,none⟩)),(10,.pointer (some ⟨b10,0,none⟩))]/\Stp [23,25] K145 w144 κ' w'/\Oc E6 2 κ' w' 25 al am s6/\Bc κ' w' 23 b10 35 [.slice ab s3.length aa,.slice al s6.length am]/\q5=yk s6) ?_ ?_
 refine Jv<|Jy1 (λk L w'=>∃κ' v12,∃s4:(List Int),∃ak ai,L=[(3,.pointer (some ⟨b3,0,none⟩)),(5,.pointer (some ⟨b5,0,none⟩)),(6,.pointer (some ⟨b6,0,none⟩)),(10,.pointer (some ⟨b10,0,none⟩)),(12,vi v12)]/\Stp [23,25] K145 w144 κ' w'/\Oc E6 2 κ' w' 25 ak ai s4/\Bc κ' w' 23 b10 35 [.slice ab s3.length aa,.slice ak s4.length ai]/\0<=v12/\Int.toNat ((x27.1.Loop.length:Int)-v12)=k/\cntM (gE x19 x27) k v12 s4=some q5) ⟨_,_,⟨K145,0,(([]:List Int):(List Int)),none,0,R,Jj3,Ow.nil,f148,(by decide),(by simp),hq186⟩,(KM R)⟩ ?_
 rintro k _ w192 ⟨K193,v12,s4,ak,ai,rfl,S194,f195,f196,hj184,hJ184,h⟩
 rcases k with _ | k
 have hk197:=h;obtain⟨o184,h⟩:=ca (yk (Sum.inl s4):Bool⊕(((List Int))⊕((List Int))))
 have hc184:decide (v12<(x27.1.Loop.length:Int))=false:=Jo2 (by omega)
 refine Jq<|Jg3 [2,2,1,2,2] 1 R<|Jd3 R U35 R Z29<|Jb3 R I29 ((f73.stp (T9 S87 S94 S97 S113 S129 S136 S139 S146 S194) R R).ld 1 R R)<|Jn3 R U29 R R<|Jb 1 R<|Jw2 R hc184<|Jc1<|Jt<|Jt ?_
 cases h
 have h:=hk197
 refine Jb1 ?_
 cases h
 exact Jw1 _ ⟨K193,s4,ak,ai,R,S194.wk R,f195,f196,R⟩<|KM R
 obtain⟨o184,h,hk197⟩:=BI h;unfold gE at h
 have hc184:decide (v12<(x27.1.Loop.length:Int))=true:=Jn2 (by omega)
 refine Jq<|Jg3 [2,2,1,2,2] 1 R<|Jd3 R U35 R Z29 ?_
 have f199:=f73.stp (T9 S87 S94 S97 S113 S129 S136 S139 S146 S194) R R
 refine Jb3 R I29 (f199.ld 1 R R)<|Jn3 R U29 R R<|Jb 1 R<|Jv2 R hc184<|Js<|Jp<|Jq<|Jv<|Js1 (κ:=K193) [0,10,16,17,23] (some 12) [(0,2),(3,2),(5,2),(1,0),(2,0),(4,0),(6,2),(7,0),(8,1),(9,1),(10,1),(11,2)] [(12,1)] (by kernel_rfl) (by kernel_rfl) λw201 S200=>Jd3 R U35 R Z29<|Jd3 R U35 R Z29<|Jn 1 R ?_
 have f202:=f196.stp S200 R R
 refine Jg R (Jc2 I29 R R<|hvC (f202.ld 1 R R) R)<|Jg R (Jd2 (cs:=[vi x19.1.In,vi x19.1.Out]) I25 Z25 R R R<|haC (f74.stp (T10 S87 S94 S97 S113 S129 S136 S139 S146 S194 S200) R R).cells R)<|Jg R (Jc2 I29 R R<|hvC ((f199.stp S200 R R).ld 1 R R) R)<|Ob h λx91 hx91 h=>Jc3 R f66.rdc hx91 U29 Z2<|Jg R (Jc2 I2 R R<|hvC ((f66.stp (T12 S69 S72 S87 S94 S97 S113 S129 S136 S139 S146 S194 S200) R R).rdc.gInt hx91) R)<|Ob h λx93 hx93 h=>Jh R R R C13 (pL (κ:=Mk K193) (p0:=x19.1) hx93) ?_
 rintro _ w206 ⟨k207,rfl,e208⟩
 obtain⟨K209,S210,m211⟩:=Ji e208 26 R
 refine⟨(S210.cl R),Jn1 (κ:=K209) (E:=E6) 28 [] (parts:=[(0,.tmp 93)]) (cells:=[vi x93]) (xs:=([x93]:List Int)) R R R R R R Y29 a8 R R R R R R R R R R ⟨[vi x93],[],Zl K209 w206 [],Zl K209 w206 [],R,Zl.sp (l1:=[]) (l2:=[]) R,Zl.sr (l1:=[]) (l2:=[]),R,R⟩ λaM aK w213 K214 S215 f216=>⟨((S210.tr S215).cl R),Ob h λx95 hx95 h=>Jm1 (κ:=K214) (E:=E6) 25 [] R R R R R R R R R Y29 a8 R R R R (f195.stp (T3 S200 S210 S215) R R) (Sl.srcP (bM _) f216.rdc) bH hx95 R λao ar w218 K219 S220 f221=>⟨((T3 S210 S215 S220).cl R),Jd3 R U35 R Z29<|Jt1<|Ji1 (κ:=K219) 23 (off:=1) (vc:=[.slice ao x95.length ar]) (cs':=[.slice ab s3.length aa,.slice ao x95.length ar]) R R R R R R R Z29 R R (f202.stp (T3 S210 S215 S220) R R) R R λw223 S224 f225=>Tv<|Jo<|Jz<|Jp<|Jf3 R ?_⟩⟩⟩
 have hw184:IntKind.wrap .i64 (v12+1)=v12+1:=wr1 hj184 (Jm2 hc184) hN184
 rw[hw184]
 have hc184:=Jm2 hc184
 cases h
 exact Jz1 λa ha=>⟨k,_,Ja3 _,⟨K219,v12+1,x95,ao,ar,R,(T6 S194 S200 S210 S215 S220 S224).wk R,(f221.stp S224 R R),f225,by omega,by omega,hk197⟩,(ha.mm R)⟩
 rintro _ w187 ⟨K188,s6,al,am,rfl,S189,f190,f191,rfl⟩
 have h:=yI hK185
 refine Jp<|Je [1,1,1,1,2,2,2,1,1,2] R ?_
 have f227:=f74.stp (T9 S87 S94 S97 S113 S129 S136 S139 S146 S189) R R
 refine Jl tv R R R R (Jd2 (cs:=[vi x19.1.In,vi x19.1.Out]) I25 Z25 R R R<|haE f227.cells) ?_
 have f228:=f76.stp (T9 S87 S94 S97 S113 S129 S136 S139 S146 S189) R R
 refine Jl tv R R R R (Jd2 (cs:=[.slice ae x19.2.2.In.length ac,.slice af x19.2.2.Next.length ad]) I31 Z31 R R R<|haE f228.cells)<|Jl tv R R R R (Jd2 (cs:=[.slice ab s3.length aa,.slice al s6.length am]) I35 Z35 R R R<|haE f191.cells)<|Ob h λx101 hx101 h=>?_
 have f229:=f79.stp (T9 S87 S94 S97 S113 S129 S136 S139 S146 S189) R R
 have f230:=f80.stp (T9 S87 S94 S97 S113 S129 S136 S139 S146 S189) R R
 refine Jh R R R C14 (pE (κ:=Mk K188) (p0:=x19.1) (p1:=x19.2.2) (p2:=(⟨s3,s6⟩:Word)) (Ji3 f229.rdc) (Ji3 f230.rdc) (Ji3 (f147.stp S189 R R).rdc) (Ji3 f190.rdc) hx101) ?_
 rintro _ w232 ⟨k233,aD,aA,az,ay,rfl,e234,f235,f236⟩
 obtain⟨K237,S238,m239⟩:=Ji e234 26 R
 refine Tv<|Jn 3 R<|Jg1 (κ:=K237) 30 R R R R R X35 R λb13 w243 K244 S245 f246=>Tv<|Jj1 (κ:=K244) 30 (vc:=[.slice aD x101.1.Stem.length aA,.slice az x101.1.Loop.length ay]) R R R R R R R Z35 R R f246 R λw247 S248 f249=>Tv<|Jb 1 R<|Jq<|Js1 (κ:=K244) [10,12,17,23,30] none [(0,2),(1,2),(2,0),(3,0),(4,1),(5,2),(6,2),(9,2),(13,2),(7,0),(8,0),(10,0),(14,0),(15,2),(16,2),(11,1),(12,2),(17,2),(18,2),(19,2)] [] (by kernel_rfl) (by kernel_rfl) λw251 S250=>Jn 2 R<|Ob h λp109 h hK252=>Ju1 [(2,0),(3,0),(4,1),(5,2)] [(6,2),(9,2),(13,2),(7,0),(8,0),(10,0),(14,0),(15,2),(16,2),(11,1),(12,2),(17,2),(18,2),(19,2)] (λL w'=>L=[(3,.pointer (some ⟨b3,0,none⟩)),(5,.pointer (some ⟨b5,0,none⟩)),(10,.pointer (some ⟨b10,0,none⟩)),(109,.bool p109)]/\∃κ',Stp [] K244 w251 κ' w') (Cl.refl _ _ _) ?_ ?_
 revert h
 cases ht253:x101.2
 refine JF λh=>Je1 R R R R<|Je1 R R R R<|Jd1 R R R R<|Jn 1 R ?_
 cases h
 exact Jv1 _ (Cl.refl _ _ _) ⟨R,_,Jj3⟩<|KM R
 have S001:=(T15 S69 S72 S87 S94 S97 S113 S129 S136 S139 S146 S189 S238 S245 S248 S250)
 have S002:=(T3 S245 S248 S250)
 refine JT λh=>Jg R (Jd2 (cs:=[.slice aD x101.1.Stem.length aA,.slice az x101.1.Loop.length ay]) I35 Z35 R R R<|haC (f249.stp S250 R R).cells R)<|Jg R (Jd2 (cs:=[.slice aB x27.1.Stem.length aC,.slice aE x27.1.Loop.length ax]) I35 Z35 R R R<|haC (f73.stp (T13 S87 S94 S97 S113 S129 S136 S139 S146 S189 S238 S245 S248 S250) R R).cells R)<|Ob h λx108 hx108 h=>Jh R R R C15 (qy (κ:=Mk K244) (p0:=x101.1) (p1:=x27.1) (Ji3 ((f235.mx (bD _) m239 R (R:26+2=28)).stp S002 R R).rdc) (Ji3 ((f236.mx (bD _) m239 R (R:26+3=29)).stp S002 R R).rdc) (Ji3 (f65.stp S001 R R).rdc) (Ji3 (f66.stp S001 R R).rdc) hx108) ?_
 rintro _ w260 ⟨k261,rfl,e262⟩
 obtain⟨K263,S264,m265⟩:=Ji e262 31 R
 refine⟨(S264.cl R),Jn 1 R ?_⟩
 cases h
 exact Jv1 _ (S264.cl R) ⟨R,_,S264.wk R⟩<|KM R
 rintro _ w267 _ ⟨rfl,K268,S269⟩
 have h:=hK252
 refine Jn 1 R<|Ob h λp122 h hK270=>Ju1 [(9,2),(13,2),(7,0),(8,0),(10,0),(14,0),(15,2),(16,2),(11,1),(12,2),(17,2),(18,2)] [(19,2)] (λL w'=>L=[(122,.bool p122)]/\∃κ',Stp [] K268 w267 κ' w') (S269.cl R) ?_ ?_
 revert h
 cases ht271:p109
 refine JF λh=>Jn 2 R<|Je1 R R R R<|Je1 R R R R<|Je1 R R R R<|Je1 R R R R<|Jn 2 R<|Jd1 R R R R<|Jn 3 R ?_
 cases h
 exact Jv1 _ (S269.cl R) ⟨R,_,Jj3⟩<|KM R
 have S003:=(T4 S238 S245 S248 S250)
 refine JT λh=>Jd3 R U35 R Z29<|Jd3 R U35 R Z29<|Jg R (Jd2 (cs:=[vi x19.1.In,vi x19.1.Out]) I25 Z25 R R R<|haC (f227.stp S003 R R).cells R)<|Jg R (Jd2 (cs:=[.slice ae x19.2.2.In.length ac,.slice af x19.2.2.Next.length ad]) I31 Z31 R R R<|haC (f228.stp S003 R R).cells R) ?_
 have f274:=f191.stp (T4 S238 S245 S248 S250) R R
 have S004:=(T5 S238 S245 S248 S250 S269)
 refine Jg R (Jc2 I29 R R<|hvC (f274.ld 1 R R) R)<|Jg R (Jc2 I29 R R<|hvC (f274.ld 1 R R) R)<|Jn3 R U29 R R<|Jn 1 R<|Ob h λx115 hx115 h=>Jh R R R C16 (pz (κ:=Mk K268) (p0:=x19.1) (p1:=x19.2.2) (Ji3 (f229.stp S004 R R).rdc) (Ji3 (f230.stp S004 R R).rdc) (Ji3 (f190.stp S004 R R).rdc) hx115) ?_
 rintro _ w278 ⟨k279,aL,aO,rfl,e280,f281⟩
 obtain⟨K282,S283,m284⟩:=Ji e280 31 R
 refine⟨((S269.tr S283).cl R),Jn3 R U29 R R<|Jn 2 R ?_⟩
 cases h
 exact Jv1 _ ((S269.tr S283).cl R) ⟨R,_,S283.wk R⟩<|KM R
 rintro _ w287 _ ⟨rfl,K288,S289⟩
 have h:=hK270
 refine Jn 1 R<|Jt1<|Jd<|Ju<|Ja2 (l:=[.tmp 2]) V3 (Jp2 R R) R ?_
 cases h
 exact⟨K288,R,(hE.stp (S5.tr<|S19.tr<|S28.tr<|S32.tr<|S36.tr<|S40.tr<|S44.tr<|S48.tr<|S62.tr<|S69.tr<|S72.tr<|S87.tr<|S94.tr<|S97.tr<|S113.tr<|S129.tr<|S136.tr<|S139.tr<|S146.tr<|S189.tr<|S238.tr<|S245.tr<|S248.tr<|S250.tr<|S269.tr S289) R R)⟩
 refine JT λh=>Jx R<|Je3 R<|Ju<|Jw<|Ja2 (l:=[.tmp 2]) V3 (Jp2 R R) R ?_
 cases h
 exact⟨K128,R,(hE.stp (T16 S5 S19 S28 S32 S36 S40 S44 S48 S62 S69 S72 S87 S94 S97 S113 S129) R R)⟩
 refine JT λh=>Jx R<|Je3 R<|Ju<|Jw<|Ja2 (l:=[.tmp 2]) V3 (Jp2 R R) R ?_
 cases h
 exact⟨K128,R,(hE.stp (T16 S5 S19 S28 S32 S36 S40 S44 S48 S62 S69 S72 S87 S94 S97 S113 S129) R R)⟩
 refine JT λh=>Jx R<|Je3 R<|Ju<|Jw<|Ja2 (l:=[.tmp 2]) V3 (Jp2 R R) R ?_
 cases h
 exact⟨K4,R,(hE.stp S5 R R)⟩
end Go.Proofs.YtpcjbkgbnoocaaaGreat
