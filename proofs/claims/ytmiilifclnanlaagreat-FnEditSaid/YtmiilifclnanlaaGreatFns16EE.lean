/- The walks, part 16. By program. -/
import Derived.Test.YtmiilifclnanlaaGreatFns15EE
set_option linter.unusedVariables false
set_option linter.unusedSimpArgs false
namespace Go.Proofs.YtmiilifclnanlaaGreat
open Go Go.Wk Go.Proofs
set_option maxRecDepth 100000
set_option maxHeartbeats 1000000
theorem l_FnEdit_ok {w:World}{κ:Col}{a0 u0}{p0:(List Int)}(g0:Rd (Rp.int .u8) κ w 0 a0 u0 p0){r:Bool}(h:l_FnEdit p0=some r):Ret Tryz.prog 4 [.slice a0 p0.length u0] w (fun v w'=>∃(κ':Col),v= .bool r∧Ent κ w κ' w'):=by
 unfold l_FnEdit at h
 refine Ret.enter F4 R N4 R ?_
 dsimp only[envOf]
 have hE:=Ent.refl κ w
 refine Je [2] R (Jb 1 R (Jq (Je [2,1] R (Jn 1 R (Ob h fun x21 hx21 h=>Jh R R R C18 (l_big_ok (κ:=fun b=>mp [] 0 (κ b)) (Jl2 g0 (mp [] 0) R R) hx21) ?_)))))
 rintro _ w1 ⟨k2,rfl,e3⟩
 obtain⟨K4,S5,m6⟩:=Ji e3 2 R
 refine⟨tv,Jd ?_⟩
 revert h
 cases ht8:x21
 refine JF fun h=>Jy R (Js (Jp (Je [2,1,2,2,2,1,1,1,1] R (Jn 1 R (Ob h fun x24 hx24 h=>Jh R R R C19 (s_DrawEdited_ok (κ:=fun b=>mp [] 0 (K4 b)) (Jl2 (g0.stp S5 R R) (mp [] 0) R R) hx24) ?_)))))
 rintro _ w11 ⟨k12,ad,ac,af,aa,ab,ae,rfl,e13,f14,f15,f16⟩
 obtain⟨K17,S18,m19⟩:=Ji e13 4 R
 refine⟨tv,Jn 3 R (Jg1 (κ:=K17) 9 R R R R R X39 R fun b3 w24 K25 S26 f27=>⟨tv,Jg1 (κ:=K25) 10 R R R R R X42 R fun b4 w28 K29 S30 f31=>⟨tv,Jj1 (κ:=K29) 9 (vc:=[.slice ad x24.1.Arena.Owner.length ac,.slice af x24.1.Arena.Next.length aa,.slice ab x24.1.Prio.length ae]) R R R R R R R Z39 R R (f27.stp S30 R R) R fun w33 S34 f35=>⟨tv,Jj1 (κ:=K29) 10 (vc:=[vi x24.2.Kind,vi x24.2.V,vi x24.2.N]) R R R R R R R Z42 R R (f31.stp S34 R R) R fun w37 S38 f39=>⟨tv,Jd (Je [1,1,1,2,2,2,1,1,2] R ?_)⟩⟩⟩⟩)⟩
 have f40:=f35.stp S38 R R
 refine Jl tv R R R R (Jd2 (cs:=[.slice ad x24.1.Arena.Owner.length ac,.slice af x24.1.Arena.Next.length aa,.slice ab x24.1.Prio.length ae]) I39 Z39 R R R (haE f40.cells)) (Jl tv R R R R (Jd2 (cs:=[vi x24.2.Kind,vi x24.2.V,vi x24.2.N]) I42 Z42 R R R (haE f39.cells)) (Ob h fun x30 hx30 h=>?_))
 have f41:=(f14.mx (no_int _) m19 R (R:4+2=6)).stp (S26.tr (S30.tr (S34.tr S38))) R R
 have f42:=(f15.mx (no_own (no_int _) _) m19 R (R:4+3=7)).stp (S26.tr (S30.tr (S34.tr S38))) R R
 have f43:=(f16.mx (no_int _) m19 R (R:4+4=8)).stp (S26.tr (S30.tr (S34.tr S38))) R R
 refine Jh R R R C20 (i_Edited_ok (κ:=fun b=>mp [] 0 (K29 b)) (p0:=x24.1) (p1:=x24.2) (Jl2 f41.rdc (mp [] 0) R R) (Jl2 f42.rdc (mp [] 0) R R) (Jl2 f43.rdc (mp [] 0) R R) hx30) ?_
 rintro _ w44 ⟨k45,ar,aw,au,aq,av,ap,rfl,e46,f47,f48,f49⟩
 obtain⟨K50,S51,m52⟩:=Ji e46 11 R
 refine⟨tv,Jn 3 R (Jg1 (κ:=K50) 16 R R R R R X39 R fun b5 w57 K58 S59 f60=>⟨tv,Jj1 (κ:=K58) 16 (vc:=[.slice ar x30.1.Arena.Owner.length aw,.slice au x30.1.Arena.Next.length aq,.slice av x30.1.Prio.length ap]) R R R R R R R Z39 R R f60 R fun w61 S62 f63=>⟨tv,Jb 1 R (Je [1,1,1,2,2,2,1,1,2] R ?_)⟩⟩)⟩
 have f64:=f40.stp (S51.tr (S59.tr S62)) R R
 refine Jl tv R R R R (Jd2 (cs:=[.slice ad x24.1.Arena.Owner.length ac,.slice af x24.1.Arena.Next.length aa,.slice ab x24.1.Prio.length ae]) I39 Z39 R R R (haE f64.cells)) ?_
 have f65:=f39.stp (S51.tr (S59.tr S62)) R R
 refine Jl tv R R R R (Jd2 (cs:=[vi x24.2.Kind,vi x24.2.V,vi x24.2.N]) I42 Z42 R R R (haE f65.cells)) ?_
 obtain⟨K67,S68,z69⟩:=fz_ex K58 w61 6
 obtain⟨K72,S73,z74⟩:=fz_ex K67 w61 7
 obtain⟨K77,S78,z79⟩:=fz_ex K72 w61 8
 have f80:=Sl.st z79 (f43.stp (S51.tr (S59.tr (S62.tr (S68.tr S73)))) R R).rdc
 refine Ob h fun x36 hx36 h=>?_
 have f81:=(Sl.st z69 (f41.stp (S51.tr (S59.tr S62)) R R).rdc).stp (S73.tr S78) R R
 have f82:=(Sl.st z74 (f42.stp (S51.tr (S59.tr (S62.tr S68))) R R).rdc).stp S78 R R
 refine Jh R R R C21 (s_Edited_ok (κ:=fun b=>mp [] 1 (K77 b)) (p0:=x24.1) (p1:=x24.2) (Jl2 f81 (mp [] 1) R R) (Jl2 f82 (mp [] 1) R R) (Jl2 f80 (mp [] 1) R R) hx36) ?_
 rintro _ w83 ⟨k84,am,ao,ai,al,ah,an,rfl,e85,f86,f87,f88⟩
 obtain⟨K89,S90,m91,z92⟩:=Jj e85 17 R
 refine⟨tv,Jn 3 R (Jg1 (κ:=K89) 22 R R R R R X39 R fun b7 w96 K97 S98 f99=>⟨tv,Jj1 (κ:=K97) 22 (vc:=[.slice am x36.1.Arena.Owner.length ao,.slice ai x36.1.Arena.Next.length al,.slice ah x36.1.Prio.length an]) R R R R R R R Z39 R R f99 R fun w100 S101 f102=>⟨tv,Jb 1 R (Jq (Je [2,2,2] R (Jn 2 R (Jf R (rn_neqB R R U4 R) (Jd ?_)))))⟩⟩)⟩
 revert h
 cases ht103:(x30.2 !=x36.2)
 refine JF fun h=>Jy R (Js (Jp (Jq (Je [2,2] R (Jb 2 R ?_)))))
 revert h
 cases ht105:(!x36.2)
 refine JF fun h=>Jy R (Js (Jp (Je [1,1,1,2,2,2,1,1,2] R ?_)))
 have f108:=f64.stp (S68.tr (S73.tr (S78.tr (S90.tr (S98.tr S101))))) R R
 refine Jl tv R R R R (Jd2 (cs:=[.slice ad x24.1.Arena.Owner.length ac,.slice af x24.1.Arena.Next.length aa,.slice ab x24.1.Prio.length ae]) I39 Z39 R R R (haE f108.cells)) ?_
 have f109:=f65.stp (S68.tr (S73.tr (S78.tr (S90.tr (S98.tr S101))))) R R
 refine Jl tv R R R R (Jd2 (cs:=[vi x24.2.Kind,vi x24.2.V,vi x24.2.N]) I42 Z42 R R R (haE f109.cells)) (Ob h fun x51 hx51 h=>?_)
 have f110:=f81.stp (S90.tr (S98.tr S101)) R R
 have f111:=f82.stp (S90.tr (S98.tr S101)) R R
 have f112:=f80.stp (S90.tr (S98.tr S101)) R R
 refine Jh R R R C22 (i_UndoneBy_ok (κ:=fun b=>mp [] 0 (K97 b)) (p0:=x24.1) (p1:=x24.2) (Jl2 f110 (mp [] 0) R R) (Jl2 f111 (mp [] 0) R R) (Jl2 f112 (mp [] 0) R R) hx51) ?_
 rintro _ w113 ⟨k114,rfl,e115⟩
 obtain⟨K116,S117,m118⟩:=Ji e115 23 R
 refine⟨tv,Jn 3 R (Jg1 (κ:=K116) 25 R R R R R X42 R fun b9 w120 K121 S122 f123=>⟨tv,Jj1 (κ:=K121) 25 (vc:=[vi x51.1.Kind,vi x51.1.V,vi x51.1.N]) R R R R R R R Z42 R R f123 R fun w124 S125 f126=>⟨tv,Jb 1 R (Je [1,1,1,2,2,2,1,1,2] R ?_)⟩⟩)⟩
 have f127:=f63.stp (S68.tr (S73.tr (S78.tr (S90.tr (S98.tr (S101.tr (S117.tr (S122.tr S125)))))))) R R
 refine Jl tv R R R R (Jd2 (cs:=[.slice ar x30.1.Arena.Owner.length aw,.slice au x30.1.Arena.Next.length aq,.slice av x30.1.Prio.length ap]) I39 Z39 R R R (haE f127.cells)) (Jl tv R R R R (Jd2 (cs:=[vi x51.1.Kind,vi x51.1.V,vi x51.1.N]) I42 Z42 R R R (haE f126.cells)) (Ob h fun x57 hx57 h=>?_))
 have f128:=(f47.mx (no_int _) m52 R (R:11+2=13)).stp (S59.tr (S62.tr (S68.tr (S73.tr (S78.tr (S90.tr (S98.tr (S101.tr (S117.tr (S122.tr S125)))))))))) R R
 have f129:=(f48.mx (no_own (no_int _) _) m52 R (R:11+3=14)).stp (S59.tr (S62.tr (S68.tr (S73.tr (S78.tr (S90.tr (S98.tr (S101.tr (S117.tr (S122.tr S125)))))))))) R R
 have f130:=(f49.mx (no_int _) m52 R (R:11+4=15)).stp (S59.tr (S62.tr (S68.tr (S73.tr (S78.tr (S90.tr (S98.tr (S101.tr (S117.tr (S122.tr S125)))))))))) R R
 refine Jh R R R C20 (i_Edited_ok (κ:=fun b=>mp [] 0 (K121 b)) (p0:=x30.1) (p1:=x51.1) (Jl2 f128.rdc (mp [] 0) R R) (Jl2 f129.rdc (mp [] 0) R R) (Jl2 f130.rdc (mp [] 0) R R) hx57) ?_
 rintro _ w131 ⟨k132,aI,aF,aE,aL,ax,aB,rfl,e133,f134,f135,f136⟩
 obtain⟨K137,S138,m139⟩:=Ji e133 26 R
 refine⟨tv,Jn 3 R (Jg1 (κ:=K137) 31 R R R R R X39 R fun b11 w144 K145 S146 f147=>⟨tv,Jj1 (κ:=K145) 31 (vc:=[.slice aI x57.1.Arena.Owner.length aF,.slice aE x57.1.Arena.Next.length aL,.slice ax x57.1.Prio.length aB]) R R R R R R R Z39 R R f147 R fun w148 S149 f150=>⟨tv,Jb 1 R (Jq (Je [1,1,1,2,2,2,2,2,2,2,2,2,2,1,1,1,2,2] R (Jl tv R R R R (Jd2 (cs:=[.slice ar x30.1.Arena.Owner.length aw,.slice au x30.1.Arena.Next.length aq,.slice av x30.1.Prio.length ap]) I39 Z39 R R R (haE (f127.stp (S138.tr (S146.tr S149)) R R).cells)) ?_)))⟩⟩)⟩
 have f152:=f102.stp (S117.tr (S122.tr (S125.tr (S138.tr (S146.tr S149))))) R R
 refine Jl tv R R R R (Jd2 (cs:=[.slice am x36.1.Arena.Owner.length ao,.slice ai x36.1.Arena.Next.length al,.slice ah x36.1.Prio.length an]) I39 Z39 R R R (haE f152.cells)) (Ob h fun x62 hx62 h=>?_)
 have f156:=(f86.mx (no_int _) m91 R (R:17+2=19)).stp (S98.tr (S101.tr (S117.tr (S122.tr (S125.tr (S138.tr (S146.tr S149))))))) R R
 have f157:=(f87.mxz z92 m91 R (R:17+3=20)).stp (S98.tr (S101.tr (S117.tr (S122.tr (S125.tr (S138.tr (S146.tr S149))))))) R R
 have f158:=(f88.mx (no_int _) m91 R (R:17+4=21)).stp (S98.tr (S101.tr (S117.tr (S122.tr (S125.tr (S138.tr (S146.tr S149))))))) R R
 have S001:=(S138.tr (S146.tr S149))
 refine Jh R R R C23 (s_SameParity_ok (κ:=fun b=>mp [] 0 (K145 b)) (p0:=x30.1) (p1:=x36.1) (Jl2 (f128.stp S001 R R).rdc (mp [] 0) R R) (Jl2 (f129.stp S001 R R).rdc (mp [] 0) R R) (Jl2 (f130.stp S001 R R).rdc (mp [] 0) R R) (Jl2 f156.rdc (mp [] 0) R R) (Jl2 f157.rdc (mp [] 0) R R) (Jl2 f158.rdc (mp [] 0) R R) hx62) ?_
 rintro _ w159 ⟨k160,rfl,e161⟩
 obtain⟨K162,S163,m164⟩:=Ji e161 32 R
 refine⟨tv,Jn 2 R (Ob h fun p67 h hK166=>Ju1 [(5,2),(6,2),(7,2)] [(8,2),(9,2),(10,2),(11,2),(12,2),(13,1),(14,1),(15,1),(16,2),(17,2)] (fun L w'=>L=[(3,.pointer (some ⟨b3,0,none⟩)),(4,.pointer (some ⟨b4,0,none⟩)),(7,.pointer (some ⟨b7,0,none⟩)),(11,.pointer (some ⟨b11,0,none⟩)),(12,.bool x57.2),(67,.bool p67)]∧∃κ',Stp [] K162 w159 κ' w') tv ?_ ?_)⟩
 revert h
 cases ht167:(!x62)
 refine JF fun h=>Jn 3 R ?_
 cases h
 exact Jv1 _ tv ⟨R,_,(Jx2 _ _).wk R⟩ (KM R)
 refine JT fun h=>Jn 3 R ?_
 cases h
 exact Jv1 _ tv ⟨R,_,(Jx2 _ _).wk R⟩ (KM R)
 rintro _ w168 _ ⟨rfl,K169,S170⟩
 have h:=hK166
 refine Jn 1 R (Ob h fun p71 h hK171=>Ju1 [(9,2),(10,2),(11,2)] [(12,2),(13,1),(14,1),(15,1),(16,2),(17,2)] (fun L w'=>L=[(3,.pointer (some ⟨b3,0,none⟩)),(4,.pointer (some ⟨b4,0,none⟩)),(7,.pointer (some ⟨b7,0,none⟩)),(11,.pointer (some ⟨b11,0,none⟩)),(71,.bool p71)]∧∃κ',Stp [] K169 w168 κ' w') tv ?_ ?_)
 revert h
 cases ht172:p67
 refine JF fun h=>Jn 3 R ?_
 cases h
 exact Jv1 _ tv ⟨R,_,(Jx2 _ _).wk R⟩ (KM R)
 refine JT fun h=>Jn 3 R ?_
 cases h
 exact Jv1 _ tv ⟨R,_,(Jx2 _ _).wk R⟩ (KM R)
 rintro _ w173 _ ⟨rfl,K174,S175⟩
 have h:=hK171
 refine Jn 1 R (Ob h fun p77 h hK176=>Ju1 [(13,1),(14,1),(15,1),(16,2),(17,2)] [] (fun L w'=>L=[(3,.pointer (some ⟨b3,0,none⟩)),(4,.pointer (some ⟨b4,0,none⟩)),(7,.pointer (some ⟨b7,0,none⟩)),(77,.bool p77)]∧∃κ',Stp [] K174 w173 κ' w') tv ?_ ?_)
 revert h
 cases ht177:p71
 have S002:=(S117.tr (S122.tr (S125.tr (S138.tr (S146.tr (S149.tr (S163.tr (S170.tr S175))))))))
 have S003:=(S146.tr (S149.tr (S163.tr (S170.tr S175))))
 refine JF fun h=>Jl tv R R R R (Jd2 (cs:=[.slice aI x57.1.Arena.Owner.length aF,.slice aE x57.1.Arena.Next.length aL,.slice ax x57.1.Prio.length aB]) I39 Z39 R R R (haE (f150.stp (S163.tr (S170.tr S175)) R R).cells)) (Jl tv R R R R (Jd2 (cs:=[.slice ad x24.1.Arena.Owner.length ac,.slice af x24.1.Arena.Next.length aa,.slice ab x24.1.Prio.length ae]) I39 Z39 R R R (haE (f108.stp S002 R R).cells)) (Ob h fun x75 hx75 h=>Jh R R R C23 (s_SameParity_ok (κ:=fun b=>mp [] 0 (K174 b)) (p0:=x57.1) (p1:=x24.1) (Jl2 ((f134.mx (no_int _) m139 R (R:26+2=28)).stp S003 R R).rdc (mp [] 0) R R) (Jl2 ((f135.mx (no_own (no_int _) _) m139 R (R:26+3=29)).stp S003 R R).rdc (mp [] 0) R R) (Jl2 ((f136.mx (no_int _) m139 R (R:26+4=30)).stp S003 R R).rdc (mp [] 0) R R) (Jl2 (f110.stp S002 R R) (mp [] 0) R R) (Jl2 (f111.stp S002 R R) (mp [] 0) R R) (Jl2 (f112.stp S002 R R) (mp [] 0) R R) hx75) ?_))
 rintro _ w186 ⟨k187,rfl,e188⟩
 obtain⟨K189,S190,m191⟩:=Ji e188 34 R
 refine⟨tv,Jn 2 R ?_⟩
 cases h
 exact Jv1 _ tv ⟨R,_,S190.wk R⟩ (KM R)
 refine JT fun h=>Jd1 R R R R (Jd1 R R R R (Jd1 R R R R (Jn 2 R ?_)))
 cases h
 exact Jv1 _ tv ⟨R,_,(Jx2 _ _).wk R⟩ (KM R)
 rintro _ w193 _ ⟨rfl,K194,S195⟩
 have h:=hK176
 refine Jd ?_
 revert h
 cases ht196:p77
 refine JF fun h=>Jy R (Js (Jp (Je [1,1,1,1] R ?_)))
 have f198:=f108.stp (S117.tr (S122.tr (S125.tr (S138.tr (S146.tr (S149.tr (S163.tr (S170.tr (S175.tr S195))))))))) R R
 refine Jl tv R R R R (Jd2 (cs:=[.slice ad x24.1.Arena.Owner.length ac,.slice af x24.1.Arena.Next.length aa,.slice ab x24.1.Prio.length ae]) I39 Z39 R R R (haE f198.cells)) (Ob h fun x79 hx79 h=>?_)
 have f199:=f110.stp (S117.tr (S122.tr (S125.tr (S138.tr (S146.tr (S149.tr (S163.tr (S170.tr (S175.tr S195))))))))) R R
 have f200:=f111.stp (S117.tr (S122.tr (S125.tr (S138.tr (S146.tr (S149.tr (S163.tr (S170.tr (S175.tr S195))))))))) R R
 have f201:=f112.stp (S117.tr (S122.tr (S125.tr (S138.tr (S146.tr (S149.tr (S163.tr (S170.tr (S175.tr S195))))))))) R R
 refine Jh R R R C24 (s_Solved_ok (κ:=fun b=>mp [] 0 (K194 b)) (p0:=x24.1) (Jl2 f199 (mp [] 0) R R) (Jl2 f200 (mp [] 0) R R) (Jl2 f201 (mp [] 0) R R) hx79) ?_
 rintro _ w202 ⟨k203,aM,aC,aH,aA,rfl,e204,f205,f206⟩
 obtain⟨K207,S208,m209⟩:=Ji e204 34 R
 refine⟨tv,Jg1 (κ:=K207) 38 R R R R R X34 R fun b13 w213 K214 S215 f216=>⟨tv,Jj1 (κ:=K214) 38 (vc:=[.slice aM x79.Won.length aC,.slice aH x79.Plan.length aA]) R R R R R R R Z34 R R f216 R fun w217 S218 f219=>⟨tv,Jd (Je [1,1,1,1,2,2,2,1,1,2] R ?_)⟩⟩⟩
 have f220:=f198.stp (S208.tr (S215.tr S218)) R R
 refine Jl tv R R R R (Jd2 (cs:=[.slice ad x24.1.Arena.Owner.length ac,.slice af x24.1.Arena.Next.length aa,.slice ab x24.1.Prio.length ae]) I39 Z39 R R R (haE f220.cells)) (Jl tv R R R R (Jd2 (cs:=[.slice aM x79.Won.length aC,.slice aH x79.Plan.length aA]) I34 Z34 R R R (haE f219.cells)) ?_)
 have f221:=f109.stp (S117.tr (S122.tr (S125.tr (S138.tr (S146.tr (S149.tr (S163.tr (S170.tr (S175.tr (S195.tr (S208.tr (S215.tr S218)))))))))))) R R
 refine Jl tv R R R R (Jd2 (cs:=[vi x24.2.Kind,vi x24.2.V,vi x24.2.N]) I42 Z42 R R R (haE f221.cells)) (Ob h fun x84 hx84 h=>?_)
 have f222:=f199.stp (S208.tr (S215.tr S218)) R R
 have f223:=f200.stp (S208.tr (S215.tr S218)) R R
 have f224:=f201.stp (S208.tr (S215.tr S218)) R R
 have f225:=(f205.mx (no_int _) m209 R (R:34+2=36)).stp (S215.tr S218) R R
 refine Jh R R R C12 (i_ResolvedBy_ok (κ:=fun b=>mp [] 0 (K214 b)) (p0:=x24.1) (p1:=x79) (p2:=x24.2) (Jl2 f222 (mp [] 0) R R) (Jl2 f223 (mp [] 0) R R) (Jl2 f224 (mp [] 0) R R) (Jl2 f225.rdc (mp [] 0) R R) (Jl2 ((f206.mx (no_int _) m209 R (R:34+3=37)).stp (S215.tr S218) R R).rdc (mp [] 0) R R) hx84) ?_
 rintro _ w227 ⟨k228,az,aD,aK,ay,rfl,e229,f230,f231⟩
 obtain⟨K232,S233,m234⟩:=Ji e229 39 R
 refine⟨tv,?_⟩
 have f236:=f230.mx (no_int _) m234 R (R:39+2=41)
 refine Jn 3 R (Jg1 (κ:=K232) 43 R R R R R X34 R fun b14 w238 K239 S240 f241=>⟨tv,Jj1 (κ:=K239) 43 (vc:=[.slice az x84.1.Won.length aD,.slice aK x84.1.Plan.length ay]) R R R R R R R Z34 R R f241 R fun w242 S243 f244=>⟨tv,Jb 1 R (Je [1,1,1,2] R ?_)⟩⟩)
 have f245:=f220.stp (S233.tr (S240.tr S243)) R R
 refine Jl tv R R R R (Jd2 (cs:=[.slice ad x24.1.Arena.Owner.length ac,.slice af x24.1.Arena.Next.length aa,.slice ab x24.1.Prio.length ae]) I39 Z39 R R R (haE f245.cells)) ?_
 have f246:=f221.stp (S233.tr (S240.tr S243)) R R
 refine Jl tv R R R R (Jd2 (cs:=[vi x24.2.Kind,vi x24.2.V,vi x24.2.N]) I42 Z42 R R R (haE f246.cells)) (Ob h fun x89 hx89 h=>?_)
 have f247:=f222.stp (S233.tr (S240.tr S243)) R R
 have f248:=f223.stp (S233.tr (S240.tr S243)) R R
 have f249:=f224.stp (S233.tr (S240.tr S243)) R R
 refine Jh R R R C25 (i_TouchedBy_ok (κ:=fun b=>mp [] 0 (K239 b)) (p0:=x24.1) (p1:=x24.2) (Jl2 f247 (mp [] 0) R R) (Jl2 f248 (mp [] 0) R R) (Jl2 f249 (mp [] 0) R R) hx89) ?_
 rintro _ w250 ⟨k251,aJ,aG,rfl,e252,f253⟩
 obtain⟨K254,S255,m256⟩:=Ji e252 44 R
 refine⟨tv,Jb 1 R (Je [1,1,1,2] R (Jl tv R R R R (Jd2 (cs:=[.slice ad x24.1.Arena.Owner.length ac,.slice af x24.1.Arena.Next.length aa,.slice ab x24.1.Prio.length ae]) I39 Z39 R R R (haE (f245.stp S255 R R).cells)) (Jl tv R R R R (Jd2 (cs:=[vi x24.2.Kind,vi x24.2.V,vi x24.2.N]) I42 Z42 R R R (haE (f246.stp S255 R R).cells)) (Ob h fun x92 hx92 h=>Jh R R R C26 (i_TurnedBy_ok (κ:=fun b=>mp [] 0 (K254 b)) (p0:=x24.1) (p1:=x24.2) (Jl2 (f247.stp S255 R R) (mp [] 0) R R) (Jl2 (f248.stp S255 R R) (mp [] 0) R R) (Jl2 (f249.stp S255 R R) (mp [] 0) R R) hx92) ?_))))⟩
 rintro _ w264 ⟨k265,aj,ak,rfl,e266,f267⟩
 obtain⟨K268,S269,m270⟩:=Ji e266 47 R
 refine⟨tv,?_⟩
 have f272:=f267.mx (no_int _) m270 R (R:47+2=49)
 refine Jb 1 R (Je [1,1,1,1] R ?_)
 have f273:=f152.stp (S163.tr (S170.tr (S175.tr (S195.tr (S208.tr (S215.tr (S218.tr (S233.tr (S240.tr (S243.tr (S255.tr S269))))))))))) R R
 refine Jl tv R R R R (Jd2 (cs:=[.slice am x36.1.Arena.Owner.length ao,.slice ai x36.1.Arena.Next.length al,.slice ah x36.1.Prio.length an]) I39 Z39 R R R (haE f273.cells)) (Ob h fun x94 hx94 h=>?_)
 have f274:=f156.stp (S163.tr (S170.tr (S175.tr (S195.tr (S208.tr (S215.tr (S218.tr (S233.tr (S240.tr (S243.tr (S255.tr S269))))))))))) R R
 have f275:=f157.stp (S163.tr (S170.tr (S175.tr (S195.tr (S208.tr (S215.tr (S218.tr (S233.tr (S240.tr (S243.tr (S255.tr S269))))))))))) R R
 have f276:=f158.stp (S163.tr (S170.tr (S175.tr (S195.tr (S208.tr (S215.tr (S218.tr (S233.tr (S240.tr (S243.tr (S255.tr S269))))))))))) R R
 refine Jh R R R C24 (s_Solved_ok (κ:=fun b=>mp [] 0 (K268 b)) (p0:=x36.1) (Jl2 f274.rdc (mp [] 0) R R) (Jl2 f275.rdc (mp [] 0) R R) (Jl2 f276.rdc (mp [] 0) R R) hx94) ?_
 rintro _ w277 ⟨k278,aN,aO,aP,aQ,rfl,e279,f280,f281⟩
 obtain⟨K282,S283,m284⟩:=Ji e279 50 R
 refine⟨tv,?_⟩
 have f286:=f280.mx (no_int _) m284 R (R:50+2=52)
 refine Jg1 (κ:=K282) 54 R R R R R X34 R fun b18 w288 K289 S290 f291=>⟨tv,Jj1 (κ:=K289) 54 (vc:=[.slice aN x94.Won.length aO,.slice aP x94.Plan.length aQ]) R R R R R R R Z34 R R f291 R fun w292 S293 f294=>⟨tv,Jd (Jq (Je [2,2,2,1,1,1,2,2,2,2,1,2,1,1,2,2,2,2,2,1,2,2] R (Jn 3 R (Ob h fun p102 h hK295=>Ju1 [(3,1),(4,1),(5,1),(6,2),(7,2)] [(8,2),(9,2),(10,1),(11,2),(12,1),(13,1),(14,2),(15,2),(16,2),(17,2),(18,2),(19,1),(20,2),(21,2)] (fun L w'=>L=[(13,.pointer (some ⟨b13,0,none⟩)),(14,.pointer (some ⟨b14,0,none⟩)),(16,.slice aJ x89.length aG),(17,.slice aj x92.length ak),(18,.pointer (some ⟨b18,0,none⟩)),(102,.bool p102)]∧∃κ',Stp [] K289 w292 κ' w') tv ?_ ?_))))⟩⟩
 revert h
 cases ht296:(!x84.2)
 have S004:=(S283.tr (S290.tr S293))
 have S005:=(S240.tr (S243.tr (S255.tr (S269.tr (S283.tr (S290.tr S293))))))
 refine JF fun h=>Jl tv R R R R (Jd2 (cs:=[.slice am x36.1.Arena.Owner.length ao,.slice ai x36.1.Arena.Next.length al,.slice ah x36.1.Prio.length an]) I39 Z39 R R R (haE (f273.stp S004 R R).cells)) (Jl tv R R R R (Jd2 (cs:=[.slice az x84.1.Won.length aD,.slice aK x84.1.Plan.length ay]) I34 Z34 R R R (haE (f244.stp (S255.tr (S269.tr (S283.tr (S290.tr S293)))) R R).cells)) (Ob h fun x100 hx100 h=>Jh R R R C27 (s_AnswerOk_ok (κ:=fun b=>mp [] 0 (K289 b)) (p0:=x36.1) (p1:=x84.1) (Jl2 (f274.stp S004 R R).rdc (mp [] 0) R R) (Jl2 (f275.stp S004 R R).rdc (mp [] 0) R R) (Jl2 (f276.stp S004 R R).rdc (mp [] 0) R R) (Jl2 (f236.stp S005 R R).rdc (mp [] 0) R R) (Jl2 ((f231.mx (no_int _) m234 R (R:39+3=42)).stp S005 R R).rdc (mp [] 0) R R) hx100) ?_))
 rintro _ w304 ⟨k305,rfl,e306⟩
 obtain⟨K307,S308,m309⟩:=Ji e306 55 R
 refine⟨tv,Jn 2 R ?_⟩
 cases h
 exact Jv1 _ tv ⟨R,_,S308.wk R⟩ (KM R)
 refine JT fun h=>Jd1 R R R R (Jd1 R R R R (Jd1 R R R R (Jn 2 R ?_)))
 cases h
 exact Jv1 _ tv ⟨R,_,(Jx2 _ _).wk R⟩ (KM R)
 rintro _ w311 _ ⟨rfl,K312,S313⟩
 have h:=hK295
 refine Jn 1 R (Ob h fun p110 h hK314=>Ju1 [(9,2),(10,1),(11,2),(12,1),(13,1),(14,2),(15,2)] [(16,2),(17,2),(18,2),(19,1),(20,2),(21,2)] (fun L w'=>L=[(13,.pointer (some ⟨b13,0,none⟩)),(16,.slice aJ x89.length aG),(17,.slice aj x92.length ak),(18,.pointer (some ⟨b18,0,none⟩)),(110,.bool p110)]∧∃κ',Stp [] K312 w311 κ' w') tv ?_ ?_)
 revert h
 cases ht315:p102
 refine JF fun h=>Jf R (Jb2 U34 R Z22 R R) (Jl tv R R R R (Jc2 I22 R R (hvE ((f244.stp (S255.tr (S269.tr (S283.tr (S290.tr (S293.tr S313))))) R R).ld 0 R R))) (Jf R (Jb2 U34 R Z22 R R) (Jl tv R R R R (Jc2 I22 R R (hvE ((f294.stp S313 R R).ld 0 R R))) (Ob h fun x108 hx108 h=>Jh R R R C28 (l_likeInts_ok (κ:=fun b=>mp [] 0 (K312 b)) (Jl2 (f236.stp (S240.tr (S243.tr (S255.tr (S269.tr (S283.tr (S290.tr (S293.tr S313))))))) R R).rdc (mp [] 0) R R) (Jl2 (f286.stp (S290.tr (S293.tr S313)) R R).rdc (mp [] 0) R R) hx108) ?_))))
 rintro _ w320 ⟨k321,rfl,e322⟩
 obtain⟨K323,S324,m325⟩:=Ji e322 55 R
 refine⟨tv,Jn 2 R ?_⟩
 cases h
 exact Jv1 _ tv ⟨R,_,S324.wk R⟩ (KM R)
 refine JT fun h=>Jn 1 R (Jd1 R R R R (Jn 1 R (Jd1 R R R R (Jd1 R R R R (Jn 2 R ?_)))))
 cases h
 exact Jv1 _ tv ⟨R,_,(Jx2 _ _).wk R⟩ (KM R)
 rintro _ w327 _ ⟨rfl,K328,S329⟩
 have h:=hK314
 refine Jn 1 R (Ob h fun p116 h hK330=>Ju1 [(17,2),(18,2),(19,1),(20,2),(21,2)] [] (fun L w'=>L=[(13,.pointer (some ⟨b13,0,none⟩)),(17,.slice aj x92.length ak),(18,.pointer (some ⟨b18,0,none⟩)),(116,.bool p116)]∧∃κ',Stp [] K328 w327 κ' w') tv ?_ ?_)
 revert h
 cases ht331:p110
 refine JF fun h=>Jn 2 R (Ob h fun x114 hx114 h=>Jh R R R C29 (s_PartIn_ok (κ:=fun b=>mp [] 0 (K328 b)) (Jl2 (f272.stp (S283.tr (S290.tr (S293.tr (S313.tr S329)))) R R).rdc (mp [] 0) R R) (Jl2 ((f253.mx (no_int _) m256 R (R:44+2=46)).stp (S269.tr (S283.tr (S290.tr (S293.tr (S313.tr S329))))) R R).rdc (mp [] 0) R R) hx114) ?_)
 rintro _ w334 ⟨k335,rfl,e336⟩
 obtain⟨K337,S338,m339⟩:=Ji e336 55 R
 refine⟨tv,Jn 2 R ?_⟩
 cases h
 exact Jv1 _ tv ⟨R,_,S338.wk R⟩ (KM R)
 refine JT fun h=>Jn 2 R (Jd1 R R R R (Jn 2 R ?_))
 cases h
 exact Jv1 _ tv ⟨R,_,(Jx2 _ _).wk R⟩ (KM R)
 rintro _ w341 _ ⟨rfl,K342,S343⟩
 have h:=hK330
 refine Jd ?_
 revert h
 cases ht344:p116
 refine JF fun h=>Jy R (Js (Jp (Jq (Je [2] R (Jb 1 R ?_)))))
 have hN346:(x94.Won.length:Int)≤9223372036854775807:=f286.len_le
 refine Ob h fun q2 hq348 hK347=>?_
 clear h
 refine Jx1 (fun L w'=>∃κ',L=[]∧Stp [] K342 w341 κ' w'∧q2=Sum.inr ()) ?_ ?_
 refine Jv (Jy1 (fun k L w'=>∃κ' v19,L=[(13,.pointer (some ⟨b13,0,none⟩)),(17,.slice aj x92.length ak),(18,.pointer (some ⟨b18,0,none⟩)),(19,vi v19)]∧Stp [] K342 w341 κ' w'∧0≤v19∧Int.toNat ((x94.Won.length:Int)-v19)=k∧cntM (l_FnEdit_b0 x79 x92 x94) k v19 ()=some q2) ⟨_,_,⟨K342,0,R,(Jx2 _ _).wk R,(by decide),(by simp),hq348⟩,(KM R)⟩ ?_)
 rintro k _ w352 ⟨K353,v19,rfl,S354,hj346,hJ346,h⟩
 rcases k with _ | k
 have hk355:=h;obtain⟨o346,h⟩:=ex_eq (Sum.inr (Sum.inl ()):Bool⊕((Unit)⊕(Unit)))
 have hc346:decide (v19<(x94.Won.length:Int))=false:=Jo2 (by omega)
 refine Jq (Je [2,2,1,2,2] R (Jn 1 R (Jf R (Jb2 U34 R Z22 R R) (Jl tv R R R R (Jc2 I22 R R (hvE ((f294.stp (S313.tr (S329.tr (S343.tr S354))) R R).ld 0 R R))) (Jf R (Je2 U22 R R) (Jb 1 R (Jw2 R hc346 (Jc1 (Jt (Jt ?_))))))))))
 cases h
 have h:=hk355
 refine Jb1 ?_
 cases h
 exact Jw1 _ ⟨K353,R,S354.wk R,R⟩ KN
 obtain⟨o346,h,hk355⟩:=BI h;unfold l_FnEdit_b0 at h
 have hc346:decide (v19<(x94.Won.length:Int))=true:=Jn2 (by omega)
 refine Jq (Je [2,2,1,2,2] R (Jn 1 R (Jf R (Jb2 U34 R Z22 R R) ?_)))
 have f357:=f294.stp (S313.tr (S329.tr (S343.tr S354))) R R
 have S006:=(S233.tr (S240.tr (S243.tr (S255.tr (S269.tr (S283.tr (S290.tr (S293.tr (S313.tr (S329.tr (S343.tr S354)))))))))))
 refine Jl tv R R R R (Jc2 I22 R R (hvE (f357.ld 0 R R))) (Jf R (Je2 U22 R R) (Jb 1 R (Jv2 R hc346 (Js (Jp (Jq (Jv (Jq (Js1 (κ:=K353) [0,36,38,52,54] none [(0,2),(2,2),(5,2),(7,2),(11,2),(12,2),(1,0),(3,2),(4,0),(6,0),(8,2),(9,0),(10,2),(13,1),(14,2)] [] (by kernel_rfl) (by kernel_rfl) fun w359 S358=>Jf R (Jb2 U34 R Z22 R R) (Jn 1 R (Jf R (Jb2 U34 R Z22 R R) (Jn 3 R (Jg R (Jc2 I22 R R (hvC ((f219.stp (S006.tr S358) R R).ld 0 R R) R)) (Ob h fun x127 hx127 h=>Jf R (Jf2 f225.rdc hx127 U22 Z2 R R R R) (Jg R (Jc2 I2 R R (hvC ((f225.stp (S006.tr S358) R R).rdc.gInt hx127) R)) (Jg R (Jc2 I22 R R (hvC ((f357.stp S358 R R).ld 0 R R) R)) (Ob h fun x132 hx132 h=>Jf R (Jf2 f286.rdc hx132 U22 Z2 R R R R) (Jg R (Jc2 I2 R R (hvC ((f286.stp (S290.tr (S293.tr (S313.tr (S329.tr (S343.tr (S354.tr S358)))))) R R).rdc.gInt hx132) R)) (Jn 1 R (Ob h fun x137 hx137 h=>Jh R R R C30 (l_w6Has_ok (κ:=fun b=>mp [] 0 (K353 b)) (Jl2 (f272.stp (S283.tr (S290.tr (S293.tr (S313.tr (S329.tr (S343.tr (S354.tr S358))))))) R R).rdc (mp [] 0) R R) hx137) ?_))))))))))))))))))))
 rintro _ w365 ⟨k366,rfl,e367⟩
 obtain⟨K368,S369,m370⟩:=Ji e367 55 R
 refine⟨(S369.cl R),Jf R (rn_neqB R R U4 R) (Jt1 (Jd ?_))⟩
 revert h
 cases ht372:((x127 !=x132) !=x137)
 refine JF fun h=>Jy R (Js (Jz (Jp (Ja [2,2,2] R (Jc 3 R ?_)))))
 have hw346:IntKind.wrap .i64 (v19+1)=v19+1:=wr1 hj346 (Jm2 hc346) hN346
 rw[hw346]
 have hc346:=Jm2 hc346
 cases h
 exact Jz1 fun a ha=>⟨k,_,Ja3 _,⟨K368,v19+1,R,(S354.tr (S358.tr S369)).wk R,by omega,by omega,hk355⟩,(ha.mm R)⟩
 refine JT fun h=>Jx R (Je [2] R (Jb 1 R (Ju (Ja1 (Jw (Jw ?_))))))
 cases h
 obtain rfl:=Option.some.inj hk355
 have h:=hK347
 dsimp only[aft]at h
 refine Ja1 (Jq2 (Jw (Ja2 (l:=[.tmp 2]) V4 (Jp2 R R) R ?_)))
 cases h
 exact⟨K368,R,(hE.stp (S5.tr (S18.tr (S26.tr (S30.tr (S34.tr (S38.tr (S51.tr (S59.tr (S62.tr (S68.tr (S73.tr (S78.tr (S90.tr (S98.tr (S101.tr (S117.tr (S122.tr (S125.tr (S138.tr (S146.tr (S149.tr (S163.tr (S170.tr (S175.tr (S195.tr (S208.tr (S215.tr (S218.tr (S233.tr (S240.tr (S243.tr (S255.tr (S269.tr (S283.tr (S290.tr (S293.tr (S313.tr (S329.tr (S343.tr (S354.tr (S358.tr S369))))))))))))))))))))))))))))))))))))))))) R R)⟩
 rintro _ w349 ⟨K350,rfl,S351,rfl⟩
 have h:=hK347
 dsimp only[aft]at h
 refine Jp (Je [2] R (Jb 1 R (Ju (Ja2 (l:=[.tmp 2]) V4 (Jp2 R R) R ?_))))
 cases h
 exact⟨K350,R,(hE.stp (S5.tr (S18.tr (S26.tr (S30.tr (S34.tr (S38.tr (S51.tr (S59.tr (S62.tr (S68.tr (S73.tr (S78.tr (S90.tr (S98.tr (S101.tr (S117.tr (S122.tr (S125.tr (S138.tr (S146.tr (S149.tr (S163.tr (S170.tr (S175.tr (S195.tr (S208.tr (S215.tr (S218.tr (S233.tr (S240.tr (S243.tr (S255.tr (S269.tr (S283.tr (S290.tr (S293.tr (S313.tr (S329.tr (S343.tr S351))))))))))))))))))))))))))))))))))))))) R R)⟩
 refine JT fun h=>Jx R (Je [2] R (Jb 1 R (Ju (Jw (Ja2 (l:=[.tmp 2]) V4 (Jp2 R R) R ?_)))))
 cases h
 exact⟨K342,R,(hE.stp (S5.tr (S18.tr (S26.tr (S30.tr (S34.tr (S38.tr (S51.tr (S59.tr (S62.tr (S68.tr (S73.tr (S78.tr (S90.tr (S98.tr (S101.tr (S117.tr (S122.tr (S125.tr (S138.tr (S146.tr (S149.tr (S163.tr (S170.tr (S175.tr (S195.tr (S208.tr (S215.tr (S218.tr (S233.tr (S240.tr (S243.tr (S255.tr (S269.tr (S283.tr (S290.tr (S293.tr (S313.tr (S329.tr S343)))))))))))))))))))))))))))))))))))))) R R)⟩
 refine JT fun h=>Jx R (Je [2] R (Jb 1 R (Ju (Jw (Ja2 (l:=[.tmp 2]) V4 (Jp2 R R) R ?_)))))
 cases h
 exact⟨K194,R,(hE.stp (S5.tr (S18.tr (S26.tr (S30.tr (S34.tr (S38.tr (S51.tr (S59.tr (S62.tr (S68.tr (S73.tr (S78.tr (S90.tr (S98.tr (S101.tr (S117.tr (S122.tr (S125.tr (S138.tr (S146.tr (S149.tr (S163.tr (S170.tr (S175.tr S195)))))))))))))))))))))))) R R)⟩
 refine JT fun h=>Jx R (Je [2,1,2,2,2] R (Jf R (Jb2 U39 R Z22 R R) (Jl tv R R R R (Jc2 I22 R R (hvE ((f63.stp (S68.tr (S73.tr (S78.tr (S90.tr (S98.tr S101))))) R R).ld 2 R R))) (Jf R (Je2 U22 R R) (Jb 2 R (Ju (Jw (Ja2 (l:=[.tmp 2]) V4 (Jp2 R R) R ?_))))))))
 cases h
 exact⟨K97,R,(hE.stp (S5.tr (S18.tr (S26.tr (S30.tr (S34.tr (S38.tr (S51.tr (S59.tr (S62.tr (S68.tr (S73.tr (S78.tr (S90.tr (S98.tr S101)))))))))))))) R R)⟩
 refine JT fun h=>Jx R (Je [2] R (Jb 1 R (Ju (Jw (Ja2 (l:=[.tmp 2]) V4 (Jp2 R R) R ?_)))))
 cases h
 exact⟨K97,R,(hE.stp (S5.tr (S18.tr (S26.tr (S30.tr (S34.tr (S38.tr (S51.tr (S59.tr (S62.tr (S68.tr (S73.tr (S78.tr (S90.tr (S98.tr S101)))))))))))))) R R)⟩
 refine JT fun h=>Jx R (Je [2] R (Jb 1 R (Ju (Jw (Ja2 (l:=[.tmp 2]) V4 (Jp2 R R) R ?_)))))
 cases h
 exact⟨K4,R,(hE.stp S5 R R)⟩
end Go.Proofs.YtmiilifclnanlaaGreat
