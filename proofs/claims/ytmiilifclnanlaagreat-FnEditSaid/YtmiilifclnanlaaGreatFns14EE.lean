/- The walks, part 14. By program. -/
import Derived.Test.YtmiilifclnanlaaGreatFns12EE
import Derived.Test.YtmiilifclnanlaaGreatFns13EE
set_option linter.unusedVariables false
set_option linter.unusedSimpArgs false
namespace Go.Proofs.YtmiilifclnanlaaGreat
open Go Go.Wk Go.Proofs
set_option maxRecDepth 100000
set_option maxHeartbeats 1000000
theorem s_l32DrawPair_ok {w:World}{κ:Col}{ai ah}{p0:l1Cur}{b0}(g0_0:Rd (Rp.int .u8) κ w 0 ai ah p0.b) (gb0:Bc κ w 2 b0 107 [.slice ai p0.b.length ah,vi p0.i,vi p0.h]){r:Parity×Edit×Int×Int}(h:s_l32DrawPair p0=some r):Ret Tryz.prog 53 [.pointer (some ⟨b0,0,none⟩)] w (fun v w'=>∃(κ':Col) (ra0:Option Addr) (ru0:Nat) (ra1:Option Addr) (ru1:Nat) (ra2:Option Addr) (ru2:Nat),v= .tuple #[.agg #[.slice ra0 r.1.Arena.Owner.length ru0,.slice ra1 r.1.Arena.Next.length ru1,.slice ra2 r.1.Prio.length ru2],.agg #[vi r.2.1.Kind,vi r.2.1.V,vi r.2.1.N]]∧Ent κ w κ' w'∧Oc E6 2 κ' w' 3 ra0 ru0 r.1.Arena.Owner∧Oc (Ep.own E6 2) 22 κ' w' 4 ra1 ru1 r.1.Arena.Next∧Oc E6 2 κ' w' 5 ra2 ru2 r.1.Prio∧Bc κ' w' 2 b0 107 [.slice ai p0.b.length ah,vi r.2.2.1,vi r.2.2.2]):=by
 unfold s_l32DrawPair at h
 refine Ret.enter F53 R N53 R ?_
 dsimp only[envOf]
 have hE:=Ent.refl κ w
 refine Je [1,1] R (Jg1 (κ:=κ) 3 R R R R R X39 R fun b2 w1 K2 S3 f4=>⟨tv,Jg1 (κ:=K2) 4 R R R R R X42 R fun b3 w5 K6 S7 f8=>⟨tv,Jd (Je [2,1,1,1] R (Jn 1 R (Ob h fun x6 hx6 h=>?_)))⟩⟩)
 have f9:=g0_0.stp (S3.tr S7) R R
 refine Jh R R R C68 (s_l4DrawAny_ok (κ:=fun b=>mp [(2,2)] 0 (K6 b)) (p0:=p0) (Jl2 f9 (mp [(2,2)] 0) R R) ((gb0.stp (S3.tr S7) R R).map (mp [(2,2)] 0) R R) hx6) ?_
 rintro _ w11 ⟨k12,ae,aa,ab,ac,af,ad,rfl,e13,f14,f15,f16,f17⟩
 obtain⟨K18,S19,m20⟩:=Ji e13 5 R
 refine⟨tv,Jg1 (κ:=K18) 11 R R R R R X39 R fun b4 w26 K27 S28 f29=>⟨tv,Jj1 (κ:=K27) 11 (vc:=[.slice ae x6.1.Arena.Owner.length aa,.slice ab x6.1.Arena.Next.length ac,.slice af x6.1.Prio.length ad]) R R R R R R R Z39 R R f29 R fun w30 S31 f32=>⟨tv,Jd (Jq (Js1 (κ:=K27) [11] none [(1,2),(0,0),(2,0),(3,1),(4,1),(5,1)] [] (by kernel_rfl) (by kernel_rfl) fun w34 S33=>Jn 1 R ?_))⟩⟩⟩
 have f35:=f32.stp S33 R R
 refine Jg R (Jd2 (cs:=[.slice ae x6.1.Arena.Owner.length aa,.slice ab x6.1.Arena.Next.length ac,.slice af x6.1.Prio.length ad]) I39 Z39 R R R (haC f35.cells R)) (Jg R (Jd2 (cs:=[.slice ae x6.1.Arena.Owner.length aa,.slice ab x6.1.Arena.Next.length ac,.slice af x6.1.Prio.length ad]) I39 Z39 R R R (haC f35.cells R)) (Ob h fun x10 hx10 h=>?_))
 have f37:=(f14.mx (no_int _) m20 R (R:5+3=8)).stp (S28.tr (S31.tr S33)) R R
 have f38:=(f15.mx (no_own (no_int _) _) m20 R (R:5+4=9)).stp (S28.tr (S31.tr S33)) R R
 have f39:=(f16.mx (no_int _) m20 R (R:5+5=10)).stp (S28.tr (S31.tr S33)) R R
 refine Jh R R R C70 (s_l32Draw_ok (κ:=fun b=>mp [(7,2)] 0 (K27 b)) (p1:=x6.1) (p0:=(⟨p0.b,x6.2.1,x6.2.2⟩:l1Cur)) (Jl2 (f9.stp (S19.tr (S28.tr (S31.tr S33))) R R) (mp [(7,2)] 0) R R) (Jl2 f37.rdc (mp [(7,2)] 0) R R) (Jl2 f38.rdc (mp [(7,2)] 0) R R) (Jl2 f39.rdc (mp [(7,2)] 0) R R) (((f17.mx m20 R (R:5+2=7)).stp (S28.tr (S31.tr S33)) R R).map (mp [(7,2)] 0) R R) hx10) ?_
 rintro _ w41 ⟨k42,rfl,e43,f44⟩
 obtain⟨K45,S46,m47⟩:=Ji e43 12 R
 refine⟨(S46.cl R),Jj1 (κ:=K45) 3 (vc:=[.slice ae x6.1.Arena.Owner.length aa,.slice ab x6.1.Arena.Next.length ac,.slice af x6.1.Prio.length ad]) R R R R R R R Z39 R R (f4.stp (S7.tr (S19.tr (S28.tr (S31.tr (S33.tr S46))))) R R) R fun w51 S52 f53=>⟨((S46.tr S52).cl R),Jj1 (κ:=K45) 4 (vc:=[vi x10.1.Kind,vi x10.1.V,vi x10.1.N]) R R R R R R R Z42 R R (f8.stp (S19.tr (S28.tr (S31.tr (S33.tr (S46.tr S52))))) R R) R fun w55 S56 f57=>⟨((S46.tr (S52.tr S56)).cl R),Jt1 (Jd (Ju (Ja2 (l:=[.cell 2 39,.cell 3 42]) V53 (res_cellA R (f53.stp S56 R R) I39 Z39 R (res_cellA R f57 I42 Z42 R R)) R ?_)))⟩⟩⟩
 cases h
 have S001:=(S46.tr (S52.tr S56))
 exact⟨(fun b=>ren [(8,3),(9,4),(10,5),(14,2)] (K45 b)),ae,aa,ab,ac,af,ad,R,((hE.stp (S3.tr (S7.tr (S19.tr (S28.tr (S31.tr (S33.tr (S46.tr (S52.tr S56)))))))) R R).map (ren [(8,3),(9,4),(10,5),(14,2)]) R R),((f37.stp S001 R R).map (ren [(8,3),(9,4),(10,5),(14,2)]) R R),((f38.stp S001 R R).map (ren [(8,3),(9,4),(10,5),(14,2)]) R R),((f39.stp S001 R R).map (ren [(8,3),(9,4),(10,5),(14,2)]) R R),(((f44.mx m47 R (R:12+2=14)).stp (S52.tr S56) R R).map (ren [(8,3),(9,4),(10,5),(14,2)]) R R)⟩
theorem i_Edited_ok {w:World}{κ:Col}{aa af ab ac ad ae}{p0:Parity}{p1:Edit}(g0_0_0:Rd (Rp.int .i64) κ w 0 aa af p0.Arena.Owner) (g0_0_1:Rd (Rp.sl (Rp.int .i64)) κ w 0 ab ac p0.Arena.Next) (g0_1:Rd (Rp.int .i64) κ w 0 ad ae p0.Prio){r:Parity×Bool}(h:i_Edited p0 p1=some r):Ret Tryz.prog 20 [.agg #[.slice aa p0.Arena.Owner.length af,.slice ab p0.Arena.Next.length ac,.slice ad p0.Prio.length ae],.agg #[vi p1.Kind,vi p1.V,vi p1.N]] w (fun v w'=>∃(κ':Col) (ra0:Option Addr) (ru0:Nat) (ra1:Option Addr) (ru1:Nat) (ra2:Option Addr) (ru2:Nat),v= .tuple #[.agg #[.slice ra0 r.1.Arena.Owner.length ru0,.slice ra1 r.1.Arena.Next.length ru1,.slice ra2 r.1.Prio.length ru2],.bool r.2]∧Ent κ w κ' w'∧Oc E6 2 κ' w' 2 ra0 ru0 r.1.Arena.Owner∧Oc (Ep.own E6 2) 22 κ' w' 3 ra1 ru1 r.1.Arena.Next∧Oc E6 2 κ' w' 4 ra2 ru2 r.1.Prio):=by
 unfold i_Edited at h
 refine Ret.enter F20 R N20 R ?_
 dsimp only[envOf]
 have hE:=Ent.refl κ w
 refine Je [1,1,1,2] R (Jf1 (κ:=κ) 2 R R R R R R R fun b2 w1 K2 S3 f4=>⟨tv,Jf1 (κ:=K2) 3 R R R R R R R fun b3 w5 K6 S7 f8=>⟨tv,Jg1 (κ:=K6) 4 R R R R R X39 R fun b4 w9 K10 S11 f12=>⟨tv,Jb 1 R (Jq (Je [1,1,2,2,1,1,1,2,2] R ?_))⟩⟩⟩)
 have f13:=f4.stp (S7.tr S11) R R
 refine Jl tv R R R R (Jd2 (cs:=[.slice aa p0.Arena.Owner.length af,.slice ab p0.Arena.Next.length ac,.slice ad p0.Prio.length ae]) I39 Z39 R R R (haE f13.cells)) (Ob h fun x7 hx7 h=>?_)
 have f14:=g0_0_0.stp (S3.tr (S7.tr S11)) R R
 have f15:=g0_0_1.stp (S3.tr (S7.tr S11)) R R
 have f16:=g0_1.stp (S3.tr (S7.tr S11)) R R
 refine Jh R R R C54 (i_ParityOk_ok (κ:=fun b=>mp [] 0 (K10 b)) (p0:=p0) (Jl2 f14 (mp [] 0) R R) (Jl2 f15 (mp [] 0) R R) (Jl2 f16 (mp [] 0) R R) hx7) ?_
 rintro _ w17 ⟨k18,rfl,e19⟩
 obtain⟨K20,S21,m22⟩:=Ji e19 5 R
 refine⟨tv,Jn 2 R (Ob h fun p14 h hK24=>Ju1 [(4,1),(5,1),(6,1),(7,2),(8,2)] [] (fun L w'=>L=[(2,.pointer (some ⟨b2,0,none⟩)),(3,.pointer (some ⟨b3,0,none⟩)),(4,.pointer (some ⟨b4,0,none⟩)),(14,.bool p14)]∧∃κ',Stp [] K20 w17 κ' w') tv ?_ ?_)⟩
 revert h
 cases ht25:(!x7)
 refine JF fun h=>Jl tv R R R R (Jd2 (cs:=[.slice aa p0.Arena.Owner.length af,.slice ab p0.Arena.Next.length ac,.slice ad p0.Prio.length ae]) I39 Z39 R R R (haE (f13.stp S21 R R).cells)) (Jl tv R R R R (Jd2 (cs:=[vi p1.Kind,vi p1.V,vi p1.N]) I42 Z42 R R R (haE (f8.stp (S11.tr S21) R R).cells)) (Ob h fun x12 hx12 h=>Jh R R R C42 (i_isEdit_ok (κ:=fun b=>mp [] 0 (K20 b)) (p0:=p0) (p1:=p1) (Jl2 (f14.stp S21 R R) (mp [] 0) R R) (Jl2 (f15.stp S21 R R) (mp [] 0) R R) (Jl2 (f16.stp S21 R R) (mp [] 0) R R) hx12) ?_))
 rintro _ w31 ⟨k32,rfl,e33⟩
 obtain⟨K34,S35,m36⟩:=Ji e33 7 R
 refine⟨tv,Jn 2 R ?_⟩
 cases h
 exact Jv1 _ tv ⟨R,_,S35.wk R⟩ (KM R)
 refine JT fun h=>Jd1 R R R R (Jd1 R R R R (Jd1 R R R R (Jn 2 R ?_)))
 cases h
 exact Jv1 _ tv ⟨R,_,(Jx2 _ _).wk R⟩ (KM R)
 rintro _ w38 _ ⟨rfl,K39,S40⟩
 have h:=hK24
 refine Jd ?_
 revert h
 cases ht41:p14
 have S001:=(S21.tr S40)
 refine JF fun h=>Jy R (Js (Jp (Je [1,1,1,1,2] R (Jl tv R R R R (Jd2 (cs:=[.slice aa p0.Arena.Owner.length af,.slice ab p0.Arena.Next.length ac,.slice ad p0.Prio.length ae]) I39 Z39 R R R (haE (f13.stp S001 R R).cells)) (Jl tv R R R R (Jd2 (cs:=[vi p1.Kind,vi p1.V,vi p1.N]) I42 Z42 R R R (haE (f8.stp (S11.tr (S21.tr S40)) R R).cells)) (Ob h fun x18 hx18 h=>Jh R R R C44 (i_edited_ok (κ:=fun b=>mp [] 0 (K39 b)) (p0:=p0) (p1:=p1) (Jl2 (f14.stp S001 R R) (mp [] 0) R R) (Jl2 (f15.stp S001 R R) (mp [] 0) R R) (Jl2 (f16.stp S001 R R) (mp [] 0) R R) hx18) ?_))))))
 rintro _ w52 ⟨k53,ak,al,ah,ai,am,aj,rfl,e54,f55,f56,f57⟩
 obtain⟨K58,S59,m60⟩:=Ji e54 7 R
 refine⟨tv,Jj1 (κ:=K58) 4 (vc:=[.slice ak x18.Arena.Owner.length al,.slice ah x18.Arena.Next.length ai,.slice am x18.Prio.length aj]) R R R R R R R Z39 R R (f12.stp (S21.tr (S40.tr S59)) R R) R fun w66 S67 f68=>⟨tv,Jb 1 R (Ju (Ja2 (l:=[.cell 4 39,.tmp 5]) V20 (res_cellA R f68 I39 Z39 R (Jp2 R R)) R ?_))⟩⟩
 cases h
 exact⟨(fun b=>ren [(9,2),(10,3),(11,4)] (K58 b)),ak,al,ah,ai,am,aj,R,((hE.stp (S3.tr (S7.tr (S11.tr (S21.tr (S40.tr (S59.tr S67)))))) R R).map (ren [(9,2),(10,3),(11,4)]) R R),(((f55.mx (no_int _) m60 R (R:7+2=9)).stp S67 R R).map (ren [(9,2),(10,3),(11,4)]) R R),(((f56.mx (no_own (no_int _) _) m60 R (R:7+3=10)).stp S67 R R).map (ren [(9,2),(10,3),(11,4)]) R R),(((f57.mx (no_int _) m60 R (R:7+4=11)).stp S67 R R).map (ren [(9,2),(10,3),(11,4)]) R R)⟩
 refine JT fun h=>Jx R (Je [2,1,2] R (Jf R (rn_build (parts:=[]) (cells:=[.slice none 0 0,.slice none 0 0,.slice none 0 0]) R R (by kernel_rfl)) (Jj1 (κ:=K39) 4 (vc:=[.slice none 0 0,.slice none 0 0,.slice none 0 0]) R R R R R R R Z39 R R (f12.stp (S21.tr S40) R R) R fun w43 S44 f45=>⟨tv,Jb 1 R (Ju (Jw (Ja2 (l:=[.cell 4 39,.tmp 5]) V20 (res_cellA R f45 I39 Z39 R (Jp2 R R)) R ?_)))⟩)))
 cases h
 exact⟨K39,none,0,none,0,none,0,R,(hE.stp (S3.tr (S7.tr (S11.tr (S21.tr (S40.tr S44))))) R R),Ow.nil,Ow.nil,Ow.nil⟩
theorem s_Edited_ok {w:World}{κ:Col}{aa af ab ac ad ae}{p0:Parity}{p1:Edit}(g0_0_0:Rd (Rp.int .i64) κ w 0 aa af p0.Arena.Owner) (g0_0_1:Rd (Rp.sl (Rp.int .i64)) κ w 0 ab ac p0.Arena.Next) (g0_1:Rd (Rp.int .i64) κ w 0 ad ae p0.Prio){r:Parity×Bool}(h:s_Edited p0 p1=some r):Ret Tryz.prog 21 [.agg #[.slice aa p0.Arena.Owner.length af,.slice ab p0.Arena.Next.length ac,.slice ad p0.Prio.length ae],.agg #[vi p1.Kind,vi p1.V,vi p1.N]] w (fun v w'=>∃(κ':Col) (ra0:Option Addr) (ru0:Nat) (ra1:Option Addr) (ru1:Nat) (ra2:Option Addr) (ru2:Nat),v= .tuple #[.agg #[.slice ra0 r.1.Arena.Owner.length ru0,.slice ra1 r.1.Arena.Next.length ru1,.slice ra2 r.1.Prio.length ru2],.bool r.2]∧Ent κ w κ' w'∧Oc E6 2 κ' w' 2 ra0 ru0 r.1.Arena.Owner∧Oc (Ep.fz (Rp.sl (Rp.int .i64))) 22 κ' w' 3 ra1 ru1 r.1.Arena.Next∧Oc E6 2 κ' w' 4 ra2 ru2 r.1.Prio):=by
 unfold s_Edited at h
 refine Ret.enter F21 R N21 R ?_
 dsimp only[envOf]
 have hE:=Ent.refl κ w
 refine Je [1,1,1,2] R (Jf1 (κ:=κ) 2 R R R R R R R fun b2 w1 K2 S3 f4=>⟨tv,Jf1 (κ:=K2) 3 R R R R R R R fun b3 w5 K6 S7 f8=>⟨tv,Jg1 (κ:=K6) 4 R R R R R X39 R fun b4 w9 K10 S11 f12=>⟨tv,Jb 1 R (Jq (Je [1,1,1,2] R ?_))⟩⟩⟩)
 have f13:=f4.stp (S7.tr S11) R R
 refine Jl tv R R R R (Jd2 (cs:=[.slice aa p0.Arena.Owner.length af,.slice ab p0.Arena.Next.length ac,.slice ad p0.Prio.length ae]) I39 Z39 R R R (haE f13.cells)) ?_
 have f14:=f8.stp S11 R R
 refine Jl tv R R R R (Jd2 (cs:=[vi p1.Kind,vi p1.V,vi p1.N]) I42 Z42 R R R (haE f14.cells)) (Ob h fun x8 hx8 h=>?_)
 have f15:=g0_0_0.stp (S3.tr (S7.tr S11)) R R
 have f16:=g0_0_1.stp (S3.tr (S7.tr S11)) R R
 have f17:=g0_1.stp (S3.tr (S7.tr S11)) R R
 refine Jh R R R C36 (s_EditOk_ok (κ:=fun b=>mp [] 0 (K10 b)) (p0:=p0) (p1:=p1) (Jl2 f15 (mp [] 0) R R) (Jl2 f16 (mp [] 0) R R) (Jl2 f17 (mp [] 0) R R) hx8) ?_
 rintro _ w18 ⟨k19,rfl,e20⟩
 obtain⟨K21,S22,m23⟩:=Ji e20 5 R
 refine⟨tv,Jb 1 R ?_⟩
 revert h
 cases ht25:(!x8)
 refine JF fun h=>Jy R (Js (Jp (Je [1,1,1,1,2] R (Jl tv R R R R (Jd2 (cs:=[.slice aa p0.Arena.Owner.length af,.slice ab p0.Arena.Next.length ac,.slice ad p0.Prio.length ae]) I39 Z39 R R R (haE (f13.stp S22 R R).cells)) (Jl tv R R R R (Jd2 (cs:=[vi p1.Kind,vi p1.V,vi p1.N]) I42 Z42 R R R (haE (f14.stp S22 R R).cells)) (Ob h fun x13 hx13 h=>Jh R R R C38 (s_l32Do_ok (κ:=fun b=>mp [] 1 (K21 b)) (p0:=p0) (p1:=p1) (Jl2 (f15.stp S22 R R) (mp [] 1) R R) (Jl2 (f16.stp S22 R R) (mp [] 1) R R) (Jl2 (f17.stp S22 R R) (mp [] 1) R R) hx13) ?_))))))
 rintro _ w36 ⟨k37,al,am,aj,ah,ai,ak,rfl,e38,f39,f40,f41⟩
 obtain⟨K42,S43,m44,z45⟩:=Jj e38 7 R
 refine⟨tv,Jj1 (κ:=K42) 4 (vc:=[.slice al x13.Arena.Owner.length am,.slice aj x13.Arena.Next.length ah,.slice ai x13.Prio.length ak]) R R R R R R R Z39 R R (f12.stp (S22.tr S43) R R) R fun w50 S51 f52=>⟨tv,Jb 1 R (Ju (Ja2 (l:=[.cell 4 39,.tmp 5]) V21 (res_cellA R f52 I39 Z39 R (Jp2 R R)) R ?_))⟩⟩
 cases h
 exact⟨(fun b=>ren [(9,2),(10,3),(11,4)] (K42 b)),al,am,aj,ah,ai,ak,R,((hE.stp (S3.tr (S7.tr (S11.tr (S22.tr (S43.tr S51))))) R R).map (ren [(9,2),(10,3),(11,4)]) R R),(((f39.mx (no_int _) m44 R (R:7+2=9)).stp S51 R R).map (ren [(9,2),(10,3),(11,4)]) R R),(((f40.mxz z45 m44 R (R:7+3=10)).stp S51 R R).map (ren [(9,2),(10,3),(11,4)]) R R),(((f41.mx (no_int _) m44 R (R:7+4=11)).stp S51 R R).map (ren [(9,2),(10,3),(11,4)]) R R)⟩
 refine JT fun h=>Jx R (Je [2,1,2] R (Jf R (rn_build (parts:=[]) (cells:=[.slice none 0 0,.slice none 0 0,.slice none 0 0]) R R (by kernel_rfl)) (Jj1 (κ:=K21) 4 (vc:=[.slice none 0 0,.slice none 0 0,.slice none 0 0]) R R R R R R R Z39 R R (f12.stp S22 R R) R fun w27 S28 f29=>⟨tv,Jb 1 R (Ju (Jw (Ja2 (l:=[.cell 4 39,.tmp 5]) V21 (res_cellA R f29 I39 Z39 R (Jp2 R R)) R ?_)))⟩)))
 cases h
 exact⟨K21,none,0,none,0,none,0,R,(hE.stp (S3.tr (S7.tr (S11.tr (S22.tr S28)))) R R),Ow.nil,Ow.nil,Ow.nil⟩
theorem s_KeepsWon_ok {w:World}{κ:Col}{aa af ab ac ad ae}{p0:Parity}{a1 u1}{p1:(List Int)}(g0_0_0:Rd (Rp.int .i64) κ w 0 aa af p0.Arena.Owner) (g0_0_1:Rd (Rp.sl (Rp.int .i64)) κ w 0 ab ac p0.Arena.Next) (g0_1:Rd (Rp.int .i64) κ w 0 ad ae p0.Prio) (g1:Rd (Rp.int .i64) κ w 0 a1 u1 p1){r:Bool}(h:s_KeepsWon p0 p1=some r):Ret Tryz.prog 96 [.agg #[.slice aa p0.Arena.Owner.length af,.slice ab p0.Arena.Next.length ac,.slice ad p0.Prio.length ae],.slice a1 p1.length u1] w (fun v w'=>∃(κ':Col),v= .bool r∧Ent κ w κ' w'):=by
 unfold s_KeepsWon at h
 refine Ret.enter F96 R N96 R ?_
 dsimp only[envOf]
 have hE:=Ent.refl κ w
 refine Je [1,2] R (Jf1 (κ:=κ) 2 R R R R R R R fun b2 w1 K2 S3 f4=>⟨tv,Jb 1 R (Je [1,2,1,2,2,2,1,1,2] R (Jl tv R R R R (Jd2 (cs:=[.slice aa p0.Arena.Owner.length af,.slice ab p0.Arena.Next.length ac,.slice ad p0.Prio.length ae]) I39 Z39 R R R (haE f4.cells)) (Jn 1 R (Ob h fun x10 hx10 h=>?_))))⟩)
 have f5:=g0_0_0.stp S3 R R
 have f6:=g0_0_1.stp S3 R R
 have f7:=g0_1.stp S3 R R
 refine Jh R R R C124 (s_OnlyBy_ok (κ:=fun b=>mp [] 0 (K2 b)) (p0:=p0) (Jl2 f5 (mp [] 0) R R) (Jl2 f6 (mp [] 0) R R) (Jl2 f7 (mp [] 0) R R) (Jl2 (g1.stp S3 R R) (mp [] 0) R R) hx10) ?_
 rintro _ w9 ⟨k10,ah,ak,ai,al,aj,am,rfl,e11,f12,f13,f14⟩
 obtain⟨K15,S16,m17⟩:=Ji e11 3 R
 refine⟨tv,Jn 3 R (Jg1 (κ:=K15) 8 R R R R R X39 R fun b5 w22 K23 S24 f25=>⟨tv,Jj1 (κ:=K23) 8 (vc:=[.slice ah x10.1.Arena.Owner.length ak,.slice ai x10.1.Arena.Next.length al,.slice aj x10.1.Prio.length am]) R R R R R R R Z39 R R f25 R fun w26 S27 f28=>⟨tv,Jb 1 R (Jq (Js1 (κ:=K23) [2,8] none [(0,2),(1,2),(2,0),(4,0),(3,1),(5,1),(6,1),(7,2),(8,2)] [] (by kernel_rfl) (by kernel_rfl) fun w30 S29=>Jn 2 R (Ob h fun p20 h hK31=>Ju1 [(2,0),(4,0),(3,1),(5,1),(6,1),(7,2)] [(8,2)] (fun L w'=>L=[(4,.bool false),(20,.bool p20)]∧∃κ',Stp [] K23 w30 κ' w') (Cl.refl _ _ _) ?_ ?_)))⟩⟩)⟩
 revert h
 cases ht32:x10.2
 refine JF fun h=>Je1 R R R R (Je1 R R R R (Jd1 R R R R (Jd1 R R R R (Jd1 R R R R (Jn 1 R ?_)))))
 cases h
 exact Jv1 _ (Cl.refl _ _ _) ⟨R,_,(Jx2 _ _).wk R⟩ (KM R)
 have S001:=(S24.tr (S27.tr S29))
 refine JT fun h=>Jg R (Jd2 (cs:=[.slice ah x10.1.Arena.Owner.length ak,.slice ai x10.1.Arena.Next.length al,.slice aj x10.1.Prio.length am]) I39 Z39 R R R (haC (f28.stp S29 R R).cells R)) (Jg R (Jd2 (cs:=[.slice aa p0.Arena.Owner.length af,.slice ab p0.Arena.Next.length ac,.slice ad p0.Prio.length ae]) I39 Z39 R R R (haC (f4.stp (S16.tr (S24.tr (S27.tr S29))) R R).cells R)) (Ob h fun x16 hx16 h=>Jh R R R C97 (s_l7Won_ok (κ:=fun b=>mp [] 0 (K23 b)) (p0:=x10.1) (Jl2 ((f12.mx (no_int _) m17 R (R:3+2=5)).stp S001 R R).rdc (mp [] 0) R R) (Jl2 ((f13.mx (no_own (no_int _) _) m17 R (R:3+3=6)).stp S001 R R).rdc (mp [] 0) R R) (Jl2 ((f14.mx (no_int _) m17 R (R:3+4=7)).stp S001 R R).rdc (mp [] 0) R R) hx16) ?_))
 rintro _ w38 ⟨k39,an,ap,rfl,e40,f41⟩
 obtain⟨K42,S43,m44⟩:=Ji e40 9 R
 have S002:=(S16.tr (S24.tr (S27.tr (S29.tr S43))))
 refine⟨(S43.cl R),Ob h fun x18 hx18 h=>Jh R R R C97 (s_l7Won_ok (κ:=fun b=>mp [] 0 (K42 b)) (p0:=p0) (Jl2 (f5.stp S002 R R) (mp [] 0) R R) (Jl2 (f6.stp S002 R R) (mp [] 0) R R) (Jl2 (f7.stp S002 R R) (mp [] 0) R R) hx18) ?_⟩
 rintro _ w50 ⟨k51,aq,ao,rfl,e52,f53⟩
 obtain⟨K54,S55,m56⟩:=Ji e52 12 R
 refine⟨((S43.tr S55).cl R),Ob h fun x19 hx19 h=>Jh R R R C125 (s_l7Same_ok (κ:=fun b=>mp [] 0 (K54 b)) (Jl2 ((f41.mx (no_int _) m44 R (R:9+2=11)).stp S55 R R).rdc (mp [] 0) R R) (Jl2 (f53.mx (no_int _) m56 R (R:12+2=14)).rdc (mp [] 0) R R) hx19) ?_⟩
 rintro _ w60 ⟨k61,rfl,e62⟩
 obtain⟨K63,S64,m65⟩:=Ji e62 15 R
 refine⟨((S43.tr (S55.tr S64)).cl R),Jn 1 R ?_⟩
 cases h
 exact Jv1 _ ((S43.tr (S55.tr S64)).cl R) ⟨R,_,(S43.tr (S55.tr S64)).wk R⟩ (KM R)
 rintro _ w67 _ ⟨rfl,K68,S69⟩
 have h:=hK31
 refine Jn 1 R (Jt1 (Jd (Ju (Ja2 (l:=[.tmp 4]) V96 (Jp2 R R) R ?_))))
 cases h
 exact⟨K68,R,(hE.stp (S3.tr (S16.tr (S24.tr (S27.tr (S29.tr S69))))) R R)⟩
theorem i_ResolvedBy_ok {w:World}{κ:Col}{af ae ab ah ak aj}{p0:Parity}{am ao an al}{p1:Answer}{p2:Edit}(g0_0_0:Rd (Rp.int .i64) κ w 0 af ae p0.Arena.Owner) (g0_0_1:Rd (Rp.sl (Rp.int .i64)) κ w 0 ab ah p0.Arena.Next) (g0_1:Rd (Rp.int .i64) κ w 0 ak aj p0.Prio) (g1_0:Rd (Rp.int .i64) κ w 0 am ao p1.Won) (g1_1:Rd (Rp.int .i64) κ w 0 an al p1.Plan){r:Answer×Bool}(h:i_ResolvedBy p0 p1 p2=some r):Ret Tryz.prog 12 [.agg #[.slice af p0.Arena.Owner.length ae,.slice ab p0.Arena.Next.length ah,.slice ak p0.Prio.length aj],.agg #[.slice am p1.Won.length ao,.slice an p1.Plan.length al],.agg #[vi p2.Kind,vi p2.V,vi p2.N]] w (fun v w'=>∃(κ':Col) (ra0:Option Addr) (ru0:Nat) (ra1:Option Addr) (ru1:Nat),v= .tuple #[.agg #[.slice ra0 r.1.Won.length ru0,.slice ra1 r.1.Plan.length ru1],.bool r.2]∧Ent κ w κ' w'∧Oc E6 2 κ' w' 2 ra0 ru0 r.1.Won∧Oc E6 2 κ' w' 3 ra1 ru1 r.1.Plan):=by
 unfold i_ResolvedBy at h
 refine Ret.enter F12 R N12 R ?_
 dsimp only[envOf]
 have hE:=Ent.refl κ w
 refine Je [1,1,1,1,2] R (Jf1 (κ:=κ) 2 R R R R R R R fun b3 w1 K2 S3 f4=>⟨tv,Jf1 (κ:=K2) 3 R R R R R R R fun b4 w5 K6 S7 f8=>⟨tv,Jf1 (κ:=K6) 4 R R R R R R R fun b5 w9 K10 S11 f12=>⟨tv,Jg1 (κ:=K10) 5 R R R R R X34 R fun b6 w13 K14 S15 f16=>⟨tv,Jb 1 R (Jq (Je [1,1,1,2,2,1,1,1,2,2] R ?_))⟩⟩⟩⟩)
 have f17:=f4.stp (S7.tr (S11.tr S15)) R R
 refine Jl tv R R R R (Jd2 (cs:=[.slice af p0.Arena.Owner.length ae,.slice ab p0.Arena.Next.length ah,.slice ak p0.Prio.length aj]) I39 Z39 R R R (haE f17.cells)) ?_
 have f18:=f8.stp (S11.tr S15) R R
 refine Jl tv R R R R (Jd2 (cs:=[.slice am p1.Won.length ao,.slice an p1.Plan.length al]) I34 Z34 R R R (haE f18.cells)) (Ob h fun x13 hx13 h=>?_)
 have f19:=g0_0_0.stp (S3.tr (S7.tr (S11.tr S15))) R R
 have f20:=g0_0_1.stp (S3.tr (S7.tr (S11.tr S15))) R R
 have f21:=g0_1.stp (S3.tr (S7.tr (S11.tr S15))) R R
 have f22:=g1_0.stp (S3.tr (S7.tr (S11.tr S15))) R R
 have f23:=g1_1.stp (S3.tr (S7.tr (S11.tr S15))) R R
 refine Jh R R R C41 (i_AnswerOk_ok (κ:=fun b=>mp [] 0 (K14 b)) (p0:=p0) (p1:=p1) (Jl2 f19 (mp [] 0) R R) (Jl2 f20 (mp [] 0) R R) (Jl2 f21 (mp [] 0) R R) (Jl2 f22 (mp [] 0) R R) (Jl2 f23 (mp [] 0) R R) hx13) ?_
 rintro _ w24 ⟨k25,rfl,e26⟩
 obtain⟨K27,S28,m29⟩:=Ji e26 6 R
 refine⟨tv,Jn 2 R (Ob h fun p20 h hK31=>Ju1 [(5,1),(6,1),(7,1),(8,2),(9,2)] [] (fun L w'=>L=[(3,.pointer (some ⟨b3,0,none⟩)),(4,.pointer (some ⟨b4,0,none⟩)),(5,.pointer (some ⟨b5,0,none⟩)),(6,.pointer (some ⟨b6,0,none⟩)),(20,.bool p20)]∧∃κ',Stp [] K27 w24 κ' w') tv ?_ ?_)⟩
 revert h
 cases ht32:(!x13)
 refine JF fun h=>Jl tv R R R R (Jd2 (cs:=[.slice af p0.Arena.Owner.length ae,.slice ab p0.Arena.Next.length ah,.slice ak p0.Prio.length aj]) I39 Z39 R R R (haE (f17.stp S28 R R).cells)) (Jl tv R R R R (Jd2 (cs:=[vi p2.Kind,vi p2.V,vi p2.N]) I42 Z42 R R R (haE (f12.stp (S15.tr S28) R R).cells)) (Ob h fun x18 hx18 h=>Jh R R R C42 (i_isEdit_ok (κ:=fun b=>mp [] 0 (K27 b)) (p0:=p0) (p1:=p2) (Jl2 (f19.stp S28 R R) (mp [] 0) R R) (Jl2 (f20.stp S28 R R) (mp [] 0) R R) (Jl2 (f21.stp S28 R R) (mp [] 0) R R) hx18) ?_))
 rintro _ w38 ⟨k39,rfl,e40⟩
 obtain⟨K41,S42,m43⟩:=Ji e40 8 R
 refine⟨tv,Jn 2 R ?_⟩
 cases h
 exact Jv1 _ tv ⟨R,_,S42.wk R⟩ (KM R)
 refine JT fun h=>Jd1 R R R R (Jd1 R R R R (Jd1 R R R R (Jn 2 R ?_)))
 cases h
 exact Jv1 _ tv ⟨R,_,(Jx2 _ _).wk R⟩ (KM R)
 rintro _ w45 _ ⟨rfl,K46,S47⟩
 have h:=hK31
 refine Jd ?_
 revert h
 cases ht48:p20
 refine JF fun h=>Jy R (Js (Jp (Je [1,1,1,1,1,1] R ?_)))
 have f54:=f17.stp (S28.tr S47) R R
 refine Jl tv R R R R (Jd2 (cs:=[.slice af p0.Arena.Owner.length ae,.slice ab p0.Arena.Next.length ah,.slice ak p0.Prio.length aj]) I39 Z39 R R R (haE f54.cells)) ?_
 have f55:=f12.stp (S15.tr (S28.tr S47)) R R
 refine Jl tv R R R R (Jd2 (cs:=[vi p2.Kind,vi p2.V,vi p2.N]) I42 Z42 R R R (haE f55.cells)) (Ob h fun x24 hx24 h=>?_)
 have f56:=f19.stp (S28.tr S47) R R
 have f57:=f20.stp (S28.tr S47) R R
 refine Jh R R R C44 (i_edited_ok (κ:=fun b=>mp [] 0 (K46 b)) (p0:=p0) (p1:=p2) (Jl2 f56 (mp [] 0) R R) (Jl2 f57 (mp [] 0) R R) (Jl2 (f21.stp (S28.tr S47) R R) (mp [] 0) R R) hx24) ?_
 rintro _ w59 ⟨k60,ay,ax,aB,ar,au,az,rfl,e61,f62,f63,f64⟩
 obtain⟨K65,S66,m67⟩:=Ji e61 8 R
 refine⟨tv,Ob h fun x25 hx25 h=>Jh R R R C43 (i_Solved_ok (κ:=fun b=>mp [] 0 (K65 b)) (p0:=x24) (Jl2 (f62.mx (no_int _) m67 R (R:8+2=10)).rdc (mp [] 0) R R) (Jl2 (f63.mx (no_own (no_int _) _) m67 R (R:8+3=11)).rdc (mp [] 0) R R) (Jl2 (f64.mx (no_int _) m67 R (R:8+4=12)).rdc (mp [] 0) R R) hx25) ?_⟩
 rintro _ w72 ⟨k73,ai,ac,aa,ad,rfl,e74,f75,f76⟩
 obtain⟨K77,S78,m79⟩:=Ji e74 13 R
 refine⟨tv,Jg1 (κ:=K77) 17 R R R R R X34 R fun b8 w83 K84 S85 f86=>⟨tv,Jj1 (κ:=K84) 17 (vc:=[.slice ai x25.Won.length ac,.slice aa x25.Plan.length ad]) R R R R R R R Z34 R R f86 R fun w87 S88 f89=>⟨tv,Jd (Jq (Jq (Js1 (κ:=K84) [2,4] none [(0,2),(2,2),(4,2),(10,2),(1,0),(3,0),(5,0),(6,1),(7,1),(8,1),(9,2)] [] (by kernel_rfl) (by kernel_rfl) fun w91 S90=>Jf R (Jb2 U39 R Z37 R R) (Jf R (Jb2 U39 R Z37 R R) (Jf R (Jb2 U42 R Z2 R R) (Jn 1 R ?_))))))⟩⟩⟩
 have f92:=f54.stp (S66.tr (S78.tr (S85.tr (S88.tr S90)))) R R
 refine Jg R (Jd2 (cs:=[.slice af p0.Arena.Owner.length ae,.slice ab p0.Arena.Next.length ah]) I37 Z37 R R R (haC (f92.lds 0 2 R) R)) (Jg R (Jd2 (cs:=[.slice af p0.Arena.Owner.length ae,.slice ab p0.Arena.Next.length ah]) I37 Z37 R R R (haC (f92.lds 0 2 R) R)) (Jg R (Jc2 I2 R R (hvC ((f55.stp (S66.tr (S78.tr (S85.tr (S88.tr S90)))) R R).ld 1 R R) R)) (Jn1 (κ:=K84) (E:=E6) 18 [] (parts:=[(0,.tmp 31)]) (cells:=[vi p2.V]) (xs:=([p2.V]:List Int)) R R R R R R Y22 Tryzinfo2 R R R R R R R R R R ⟨[vi p2.V],[],Zl K84 w91 [],Zl K84 w91 [],R,Zl.sp (l1:=[]) (l2:=[]) R,Zl.sr (l1:=[]) (l2:=[]),R,R⟩ fun aw av w94 K95 S96 f97=>⟨(S96.cl R),Ob h fun x33 hx33 h=>?_⟩)))
 have f98:=f56.stp (S66.tr (S78.tr (S85.tr (S88.tr (S90.tr S96))))) R R
 have f99:=f57.stp (S66.tr (S78.tr (S85.tr (S88.tr (S90.tr S96))))) R R
 refine Jh R R R C46 (i_markOf_ok (κ:=fun b=>mp [] 0 (K95 b)) (p0:=p0.Arena) (Jl2 f98 (mp [] 0) R R) (Jl2 f99 (mp [] 0) R R) (Jl2 f97.rdc (mp [] 0) R R) hx33) ?_
 rintro _ w100 ⟨k101,aC,aA,rfl,e102,f103⟩
 obtain⟨K104,S105,m106⟩:=Ji e102 19 R
 refine⟨((S96.tr S105).cl R),Ob h fun x34 hx34 h=>Jh R R R C45 (i_leadTo_ok (κ:=fun b=>mp [] 0 (K104 b)) (p0:=p0.Arena) (Jl2 (f98.stp S105 R R) (mp [] 0) R R) (Jl2 (f99.stp S105 R R) (mp [] 0) R R) (Jl2 (f103.mx no_bool m106 R (R:19+2=21)).rdc (mp [] 0) R R) hx34) ?_⟩
 rintro _ w111 ⟨k112,aq,ap,rfl,e113,f114⟩
 obtain⟨K115,S116,m117⟩:=Ji e113 22 R
 refine⟨((S96.tr (S105.tr S116)).cl R),?_⟩
 have f119:=f114.mx no_bool m117 R (R:22+2=24)
 refine Jf R (Je2 U70 R R) (Jt1 (Jd ?_))
 have hN120:(x34.length:Int)≤9223372036854775807:=f119.len_le
 refine Ob h fun q2 hq122 hK121=>?_
 clear h
 refine Jx1 (fun L w'=>∃κ',∃s3:(List Int)×(List Int),L=[(6,.pointer (some ⟨b6,0,none⟩)),(8,.pointer (some ⟨b8,0,none⟩))]∧Stp [15,16] K115 w111 κ' w'∧Oc E6 2 κ' w' 15 ai ac s3.1∧x25.Won.length=s3.1.length∧Oc E6 2 κ' w' 16 aa ad s3.2∧x25.Plan.length=s3.2.length∧q2=Sum.inr s3) ?_ ?_
 have S001:=(S85.tr (S88.tr (S90.tr (S96.tr (S105.tr S116)))))
 refine Jv (Jy1 (fun k L w'=>∃κ' v36,∃s1:(List Int)×(List Int),L=[(4,.pointer (some ⟨b4,0,none⟩)),(6,.pointer (some ⟨b6,0,none⟩)),(8,.pointer (some ⟨b8,0,none⟩)),(34,.slice aq x34.length ap),(35,vi (x34.length:Int)),(36,vi v36)]∧Stp [15,16] K115 w111 κ' w'∧Oc E6 2 κ' w' 15 ai ac s1.1∧x25.Won.length=s1.1.length∧Oc E6 2 κ' w' 16 aa ad s1.2∧x25.Plan.length=s1.2.length∧0≤v36∧Int.toNat ((x34.length:Int)-v36)=k∧cntM (i_ResolvedBy_b0 p1 x34) k v36 s1=some q2) ⟨_,_,⟨K115,0,((x25.Won:(List Int)),(x25.Plan:(List Int))),R,(Jx2 _ _).wk R,((f75.mx (no_int _) m79 R (R:13+2=15)).stp S001 R R),R,((f76.mx (no_int _) m79 R (R:13+3=16)).stp S001 R R),R,(by decide),(by simp),hq122⟩,(KM R)⟩ ?_)
 rintro k _ w130 ⟨K131,v36,s1,rfl,S132,f133,hn134,f135,hn136,hj120,hJ120,h⟩
 rcases k with _ | k
 have hk139:=h;obtain⟨o120,h⟩:=ex_eq (Sum.inr (Sum.inl s1):(Answer×Bool)⊕(((List Int)×(List Int))⊕((List Int)×(List Int))))
 have hc120:decide (v36<(x34.length:Int))=false:=Jo2 (by omega)
 refine Je [2] R (Jb 1 R (Jq (Jw2 R hc120 (Jc1 (Jt (Jt ?_))))))
 cases h
 have h:=hk139
 refine Jb1 ?_
 cases h
 exact Jw1 _ ⟨K131,((s1.1:(List Int)),(s1.2:(List Int))),R,S132.wk R,f133,hn134,f135,hn136,R⟩ (KM R)
 obtain⟨o120,h,hk139⟩:=BI h;unfold i_ResolvedBy_b0 at h
 have hc120:decide (v36<(x34.length:Int))=true:=Jn2 (by omega)
 refine Je [2] R (Jb 1 R (Jq (Jv2 R hc120 (Js (Jp (Jq (Jv (Je [2,2,1,2,2] R (Jn 1 R (Ob h fun x39 hx39 h=>Jf R (Jf2 f119.rdc hx39 U70 Z4 R R R R) (Jl tv R R R R (Jc2 I4 R R (hvE ((f119.stp S132 R R).rdc.gBool hx39))) (Jb 2 R (Je [2,2] R (Jb 2 R (Ob h fun q4 h hK141=>Jx1 (fun L w'=>∃κ',L=[(4,.pointer (some ⟨b4,0,none⟩)),(6,.pointer (some ⟨b6,0,none⟩)),(8,.pointer (some ⟨b8,0,none⟩)),(34,.slice aq x34.length ap),(35,vi (x34.length:Int)),(36,vi v36)]∧Stp [15,16] K131 w130 κ' w'∧Oc E6 2 κ' w' 15 ai ac q4.1∧x25.Won.length=q4.1.length∧Oc E6 2 κ' w' 16 aa ad q4.2∧x25.Plan.length=q4.2.length) ?_ ?_)))))))))))))))
 revert h
 cases ht149:(!x39)
 refine JF fun h=>Jy R (Js ?_)
 cases h
 exact Jw1 _ ⟨K131,R,(Jx2 _ _).wk R,f133,hn134,f135,hn136⟩ (KM R)
 refine JT fun h=>Jx R (Jq (Js1 (κ:=K131) [0,3,17] none [(0,2),(2,2),(3,2),(5,2),(1,0),(4,0),(6,2),(7,0),(8,2),(9,1)] [] (by kernel_rfl) (by kernel_rfl) fun w151 S150=>Jf R (Jb2 U34 R Z22 R R) (Jn 1 R (Jf R (Jb2 U34 R Z22 R R) (Jn 1 R ?_)))))
 have f152:=f89.stp (S90.tr (S96.tr (S105.tr (S116.tr (S132.tr S150))))) R R
 refine Jg R (Jc2 I22 R R (hvC (f152.ld 0 R R) R)) ?_
 have f153:=f18.stp (S28.tr (S47.tr (S66.tr (S78.tr (S85.tr (S88.tr (S90.tr (S96.tr (S105.tr (S116.tr (S132.tr S150))))))))))) R R
 refine Jg R (Jc2 I22 R R (hvC (f153.ld 0 R R) R)) (Ob h fun x49 hx49 h=>Jf R (Jf2 f22 hx49 U22 Z2 R R R R) (Jg R (Jc2 I2 R R (hvC ((f22.stp (S28.tr (S47.tr (S66.tr (S78.tr (S85.tr (S88.tr (S90.tr (S96.tr (S105.tr (S116.tr (S132.tr S150))))))))))) R R).gInt hx49) R)) (Ob h fun x51 hx51 h=>Jf R (Jf2 f133.rdc hx51 U22 Z2 R R hn134 R) (Ob h fun y336 hy336 h=>Jk1 (κ:=K131) (E:=E6) 15 [] R R R R R R R R Z2 R R R R (f133.stp S150 R R) hy336 fun w156 K157 S158 f159=>⟨(S158.cl R),?_⟩))))
 have hn160:x25.Won.length=y336.length:=hn134.trans (Jt2 hy336).2.2.2.symm
 refine Jt1 (Jd (Js1 (κ:=K157) [0,3,17] none [(0,2),(2,2),(3,2),(5,2),(1,0),(4,0),(6,2),(7,0),(8,2),(9,1)] [] (by kernel_rfl) (by kernel_rfl) fun w162 S161=>Jf R (Jb2 U34 R Z22 R R) (Jn 1 R (Jf R (Jb2 U34 R Z22 R R) (Jn 1 R (Jg R (Jc2 I22 R R (hvC ((f152.stp (S158.tr S161) R R).ld 1 R R) R)) (Jg R (Jc2 I22 R R (hvC ((f153.stp (S158.tr S161) R R).ld 1 R R) R)) (Ob h fun x58 hx58 h=>Jf R (Jf2 f23 hx58 U22 Z2 R R R R) (Jg R (Jc2 I2 R R (hvC ((f23.stp (S28.tr (S47.tr (S66.tr (S78.tr (S85.tr (S88.tr (S90.tr (S96.tr (S105.tr (S116.tr (S132.tr (S150.tr (S158.tr S161))))))))))))) R R).gInt hx58) R)) (Ob h fun x60 hx60 h=>Jf R (Jf2 f135.rdc hx60 U22 Z2 R R hn136 R) (Ob h fun y337 hy337 h=>Jk1 (κ:=K157) (E:=E6) 16 [] R R R R R R R R Z2 R R R R (f135.stp (S150.tr (S158.tr S161)) R R) hy337 fun w167 K168 S169 f170=>⟨(S169.cl R),?_⟩)))))))))))
 have hn171:x25.Plan.length=y337.length:=hn136.trans (Jt2 hy337).2.2.2.symm
 refine Jt1 (Jo ?_)
 cases h
 exact Jw1 _ ⟨K168,R,(S150.tr (S158.tr (S161.tr S169))).wk R,(f159.stp (S161.tr S169) R R),hn160,f170,hn171⟩ (KM R)
 rintro _ w142 ⟨K143,rfl,S144,f145,hn146,f147,hn148⟩
 have h:=hK141
 refine Jz (Jp (Ja [2,2] R (Jc 2 R ?_)))
 have hw120:IntKind.wrap .i64 (v36+1)=v36+1:=wr1 hj120 (Jm2 hc120) hN120
 rw[hw120]
 have hc120:=Jm2 hc120
 cases h
 exact Jz1 fun a ha=>⟨k,_,Ja3 _,⟨K143,v36+1,((q4.1:(List Int)),(q4.2:(List Int))),R,(S132.tr S144).wk R,f145,hn146,f147,hn148,by omega,by omega,hk139⟩,(ha.mm R)⟩
 rintro _ w123 ⟨K124,s3,rfl,S125,f126,hn127,f128,hn129,rfl⟩
 have h:=hK121
 dsimp only[aft]at h
 refine Jp (Je [1,1,2] R (Jl tv R R R R (Jd2 (cs:=[.slice ai x25.Won.length ac,.slice aa x25.Plan.length ad]) I34 Z34 R R R (haE (f89.stp (S90.tr (S96.tr (S105.tr (S116.tr S125)))) R R).cells)) (Jj1 (κ:=K124) 5 (vc:=[.slice ai x25.Won.length ac,.slice aa x25.Plan.length ad]) R R R R R R R Z34 R R (f16.stp (S28.tr (S47.tr (S66.tr (S78.tr (S85.tr (S88.tr (S90.tr (S96.tr (S105.tr (S116.tr S125)))))))))) R R) R fun w175 S176 f177=>⟨tv,Jb 1 R (Ju (Ja2 (l:=[.cell 6 34,.tmp 7]) V12 (res_cellA R f177 I34 Z34 R (Jp2 R R)) R ?_))⟩)))
 cases h
 exact⟨(fun b=>ren [(15,2),(16,3)] (K124 b)),ai,ac,aa,ad,(by simp only[hn127,hn129]),((hE.stp (S3.tr (S7.tr (S11.tr (S15.tr (S28.tr (S47.tr (S66.tr (S78.tr (S85.tr (S88.tr (S90.tr (S96.tr (S105.tr (S116.tr (S125.tr S176))))))))))))))) R R).map (ren [(15,2),(16,3)]) R R),((f126.stp S176 R R).map (ren [(15,2),(16,3)]) R R),((f128.stp S176 R R).map (ren [(15,2),(16,3)]) R R)⟩
 refine JT fun h=>Jx R (Je [2,1,2] R (Jf R (rn_build (parts:=[]) (cells:=[.slice none 0 0,.slice none 0 0]) R R (by kernel_rfl)) (Jj1 (κ:=K46) 5 (vc:=[.slice none 0 0,.slice none 0 0]) R R R R R R R Z34 R R (f16.stp (S28.tr S47) R R) R fun w50 S51 f52=>⟨tv,Jb 1 R (Ju (Jw (Ja2 (l:=[.cell 6 34,.tmp 7]) V12 (res_cellA R f52 I34 Z34 R (Jp2 R R)) R ?_)))⟩)))
 cases h
 exact⟨K46,none,0,none,0,R,(hE.stp (S3.tr (S7.tr (S11.tr (S15.tr (S28.tr (S47.tr S51)))))) R R),Ow.nil,Ow.nil⟩
theorem i_TurnedBy_ok {w:World}{κ:Col}{ad ac ab ae af aa}{p0:Parity}{p1:Edit}(g0_0_0:Rd (Rp.int .i64) κ w 0 ad ac p0.Arena.Owner) (g0_0_1:Rd (Rp.sl (Rp.int .i64)) κ w 0 ab ae p0.Arena.Next) (g0_1:Rd (Rp.int .i64) κ w 0 af aa p0.Prio){r:(List Int)}(h:i_TurnedBy p0 p1=some r):Ret Tryz.prog 26 [.agg #[.slice ad p0.Arena.Owner.length ac,.slice ab p0.Arena.Next.length ae,.slice af p0.Prio.length aa],.agg #[vi p1.Kind,vi p1.V,vi p1.N]] w (fun v w'=>∃(κ':Col) (ra0:Option Addr) (ru0:Nat),v= .slice ra0 r.length ru0∧Ent κ w κ' w'∧Oc E6 2 κ' w' 2 ra0 ru0 r):=by
 unfold i_TurnedBy at h
 refine Ret.enter F26 R N26 R ?_
 dsimp only[envOf]
 have hE:=Ent.refl κ w
 refine Je [1,1,2] R (Jf1 (κ:=κ) 2 R R R R R R R fun b2 w1 K2 S3 f4=>⟨tv,Jf1 (κ:=K2) 3 R R R R R R R fun b3 w5 K6 S7 f8=>⟨tv,Jb 1 R (Jq (Je [1,1,2,2,1,1,1,2,2] R ?_))⟩⟩)
 have f9:=f4.stp S7 R R
 refine Jl tv R R R R (Jd2 (cs:=[.slice ad p0.Arena.Owner.length ac,.slice ab p0.Arena.Next.length ae,.slice af p0.Prio.length aa]) I39 Z39 R R R (haE f9.cells)) (Ob h fun x10 hx10 h=>?_)
 have f10:=g0_0_0.stp (S3.tr S7) R R
 have f11:=g0_0_1.stp (S3.tr S7) R R
 have f12:=g0_1.stp (S3.tr S7) R R
 refine Jh R R R C54 (i_ParityOk_ok (κ:=fun b=>mp [] 0 (K6 b)) (p0:=p0) (Jl2 f10 (mp [] 0) R R) (Jl2 f11 (mp [] 0) R R) (Jl2 f12 (mp [] 0) R R) hx10) ?_
 rintro _ w13 ⟨k14,rfl,e15⟩
 obtain⟨K16,S17,m18⟩:=Ji e15 4 R
 refine⟨tv,Jn 2 R (Ob h fun p17 h hK20=>Ju1 [(4,1),(5,1),(6,1),(7,2),(8,2)] [] (fun L w'=>L=[(2,.pointer (some ⟨b2,0,none⟩)),(3,.pointer (some ⟨b3,0,none⟩)),(17,.bool p17)]∧∃κ',Stp [] K16 w13 κ' w') tv ?_ ?_)⟩
 revert h
 cases ht21:(!x10)
 refine JF fun h=>Jl tv R R R R (Jd2 (cs:=[.slice ad p0.Arena.Owner.length ac,.slice ab p0.Arena.Next.length ae,.slice af p0.Prio.length aa]) I39 Z39 R R R (haE (f9.stp S17 R R).cells)) (Jl tv R R R R (Jd2 (cs:=[vi p1.Kind,vi p1.V,vi p1.N]) I42 Z42 R R R (haE (f8.stp S17 R R).cells)) (Ob h fun x15 hx15 h=>Jh R R R C42 (i_isEdit_ok (κ:=fun b=>mp [] 0 (K16 b)) (p0:=p0) (p1:=p1) (Jl2 (f10.stp S17 R R) (mp [] 0) R R) (Jl2 (f11.stp S17 R R) (mp [] 0) R R) (Jl2 (f12.stp S17 R R) (mp [] 0) R R) hx15) ?_))
 rintro _ w27 ⟨k28,rfl,e29⟩
 obtain⟨K30,S31,m32⟩:=Ji e29 6 R
 refine⟨tv,Jn 2 R ?_⟩
 cases h
 exact Jv1 _ tv ⟨R,_,S31.wk R⟩ (KM R)
 refine JT fun h=>Jd1 R R R R (Jd1 R R R R (Jd1 R R R R (Jn 2 R ?_)))
 cases h
 exact Jv1 _ tv ⟨R,_,(Jx2 _ _).wk R⟩ (KM R)
 rintro _ w34 _ ⟨rfl,K35,S36⟩
 have h:=hK20
 refine Jd ?_
 revert h
 cases ht37:p17
 refine JF fun h=>Jy R (Js (Jp (Jq (Js1 (κ:=K35) [2,3] none [(0,0),(2,0),(3,0),(1,1),(4,1),(5,1),(6,2),(7,2)] [] (by kernel_rfl) (by kernel_rfl) fun w40 S39=>?_))))
 have f41:=f9.stp (S17.tr (S36.tr S39)) R R
 refine Jg R (Jd2 (cs:=[.slice ad p0.Arena.Owner.length ac,.slice ab p0.Arena.Next.length ae,.slice af p0.Prio.length aa]) I39 Z39 R R R (haC f41.cells R)) (Jg R (Jd2 (cs:=[.slice ad p0.Arena.Owner.length ac,.slice ab p0.Arena.Next.length ae,.slice af p0.Prio.length aa]) I39 Z39 R R R (haC f41.cells R)) (Jg R (Jd2 (cs:=[vi p1.Kind,vi p1.V,vi p1.N]) I42 Z42 R R R (haC (f8.stp (S17.tr (S36.tr S39)) R R).cells R)) (Ob h fun x19 hx19 h=>?_)))
 have f43:=f10.stp (S17.tr (S36.tr S39)) R R
 have f44:=f11.stp (S17.tr (S36.tr S39)) R R
 have f45:=f12.stp (S17.tr (S36.tr S39)) R R
 refine Jh R R R C61 (i_winners_ok (κ:=fun b=>mp [] 0 (K35 b)) (p0:=p0) (Jl2 f43 (mp [] 0) R R) (Jl2 f44 (mp [] 0) R R) (Jl2 f45 (mp [] 0) R R) hx19) ?_
 rintro _ w46 ⟨k47,an,ao,rfl,e48,f49⟩
 obtain⟨K50,S51,m52⟩:=Ji e48 6 R
 refine⟨(S51.cl R),?_⟩
 have f54:=f49.mx (no_int _) m52 R (R:6+2=8)
 refine Ob h fun x22 hx22 h=>Jh R R R C44 (i_edited_ok (κ:=fun b=>mp [] 0 (K50 b)) (p0:=p0) (p1:=p1) (Jl2 (f43.stp S51 R R) (mp [] 0) R R) (Jl2 (f44.stp S51 R R) (mp [] 0) R R) (Jl2 (f45.stp S51 R R) (mp [] 0) R R) hx22) ?_
 rintro _ w58 ⟨k59,aC,az,ax,aA,aB,aE,rfl,e60,f61,f62,f63⟩
 obtain⟨K64,S65,m66⟩:=Ji e60 9 R
 refine⟨((S51.tr S65).cl R),Ob h fun x23 hx23 h=>Jh R R R C61 (i_winners_ok (κ:=fun b=>mp [] 0 (K64 b)) (p0:=x22) (Jl2 (f61.mx (no_int _) m66 R (R:9+2=11)).rdc (mp [] 0) R R) (Jl2 (f62.mx (no_own (no_int _) _) m66 R (R:9+3=12)).rdc (mp [] 0) R R) (Jl2 (f63.mx (no_int _) m66 R (R:9+4=13)).rdc (mp [] 0) R R) hx23) ?_⟩
 rintro _ w71 ⟨k72,aq,ap,rfl,e73,f74⟩
 obtain⟨K75,S76,m77⟩:=Ji e73 14 R
 refine⟨((S51.tr (S65.tr S76)).cl R),?_⟩
 have f79:=f74.mx (no_int _) m77 R (R:14+2=16)
 refine Jn 2 R (Jt1 (Jd (Je [1,2] R (Jo1 (κ:=K75) (E:=E6) 17 R R R R R Y22 Tryzinfo2 R fun ar aw w80 K81 S82 f83=>⟨tv,Jb 1 R (Jq (Je [2,2,2] R (Jn 1 R (Jf R (Je2 U22 R R) (Jb 1 R ?_)))))⟩))))
 have hN84:(x19.length:Int)≤9223372036854775807:=f54.len_le
 refine Ob h fun q2 hq86 hK85=>?_
 clear h
 refine Jx1 (fun L w'=>∃κ',∃s3:(List Int),∃am aj,L=[(7,.slice am s3.length aj)]∧Stp [17] K81 w80 κ' w'∧Oc E6 2 κ' w' 17 am aj s3∧q2=Sum.inr s3) ?_ ?_
 refine Jv (Jy1 (fun k L w'=>∃κ' v27,∃s1:(List Int),∃ai ah,L=[(5,.slice an x19.length ao),(6,.slice aq x23.length ap),(7,.slice ai s1.length ah),(26,vi (x19.length:Int)),(27,vi v27)]∧Stp [17] K81 w80 κ' w'∧Oc E6 2 κ' w' 17 ai ah s1∧0≤v27∧Int.toNat ((x19.length:Int)-v27)=k∧cntM (i_TurnedBy_b0 x19 x23) k v27 s1=some q2) ⟨_,_,⟨K81,0,(([]:List Int):(List Int)),ar,aw,R,(Jx2 _ _).wk R,f83,(by decide),(by simp),hq86⟩,(KM R)⟩ ?_)
 rintro k _ w91 ⟨K92,v27,s1,ai,ah,rfl,S93,f94,hj84,hJ84,h⟩
 rcases k with _ | k
 have hk95:=h;obtain⟨o84,h⟩:=ex_eq (Sum.inr (Sum.inl s1):(List Int)⊕(((List Int))⊕((List Int))))
 have hc84:decide (v27<(x19.length:Int))=false:=Jo2 (by omega)
 refine Je [2] R (Jb 1 R (Jq (Jw2 R hc84 (Jc1 (Jt (Jt ?_))))))
 cases h
 have h:=hk95
 refine Jb1 ?_
 cases h
 exact Jw1 _ ⟨K92,(s1:(List Int)),ai,ah,R,S93.wk R,f94,R⟩ (KM R)
 obtain⟨o84,h,hk95⟩:=BI h;unfold i_TurnedBy_b0 at h
 have hc84:decide (v27<(x19.length:Int))=true:=Jn2 (by omega)
 refine Je [2] R (Jb 1 R (Jq (Jv2 R hc84 (Js (Jp (Jq (Jv (Je [2,2] R (Jb 2 R (Jq (Js1 (κ:=K92) [0,8,16] none [(0,2),(1,2),(2,2),(4,2),(5,2),(6,2),(3,0),(7,0),(8,2)] [] (by kernel_rfl) (by kernel_rfl) fun w97 S96=>Jn 2 R (Ob h fun x32 hx32 h=>Jf R (Jf2 f54.rdc hx32 U22 Z2 R R R R) (Jn 2 R (Ob h fun x36 hx36 h=>Jf R (Jf2 f79.rdc hx36 U22 Z2 R R R R) (Jg R (Jc2 I2 R R (hvC ((f54.stp (S65.tr (S76.tr (S82.tr (S93.tr S96)))) R R).rdc.gInt hx32) R)) (Jg R (Jc2 I2 R R (hvC ((f79.stp (S82.tr (S93.tr S96)) R R).rdc.gInt hx36) R)) (Jn 1 R (Jt1 (Jd (Ob h fun q4 h hK100=>Jx1 (fun L w'=>∃κ' ak al,L=[(5,.slice an x19.length ao),(6,.slice aq x23.length ap),(7,.slice ak q4.length al),(26,vi (x19.length:Int)),(27,vi v27)]∧Stp [17] K92 w97 κ' w'∧Oc E6 2 κ' w' 17 ak al q4) ?_ ?_))))))))))))))))))))
 revert h
 cases ht105:(x32 !=x36)
 refine JF fun h=>Jy R (Js ?_)
 cases h
 exact Jw1 _ ⟨K92,ai,ah,R,(Jx2 _ _).wk R,(f94.stp S96 R R)⟩ (KM R)
 refine JT fun h=>Jx R (Ja [2,2,1,1,2] R (Jn 2 R (Jn1 (κ:=K92) (E:=E6) 18 [] (parts:=[(0,.tmp 40)]) (cells:=[vi v27]) (xs:=([v27]:List Int)) R R R R R R Y22 Tryzinfo2 R R R R R R R R R R ⟨[vi v27],[],Zl K92 w97 [],Zl K92 w97 [],R,Zl.sp (l1:=[]) (l2:=[]) R,Zl.sr (l1:=[]) (l2:=[]),R,R⟩ fun ay aD w106 K107 S108 f109=>⟨tv,Ob h fun x42 hx42 h=>Jm1 (κ:=K107) (E:=E6) 17 [] R R R R R R R R R Y22 Tryzinfo2 R R R R (f94.stp (S96.tr S108) R R) (Sl.srcP (pu_int _) f109.rdc) sy_false hx42 R fun au av w111 K112 S113 f114=>⟨tv,Jc 1 R ?_⟩⟩)))
 cases h
 exact Jw1 _ ⟨K112,au,av,R,(S108.tr S113).wk R,f114⟩ (KM R)
 rintro _ w101 ⟨K102,ak,al,rfl,S103,f104⟩
 have h:=hK100
 refine Jz (Jp (Ja [2,2] R (Jc 2 R ?_)))
 have hw84:IntKind.wrap .i64 (v27+1)=v27+1:=wr1 hj84 (Jm2 hc84) hN84
 rw[hw84]
 have hc84:=Jm2 hc84
 cases h
 exact Jz1 fun a ha=>⟨k,_,Ja3 _,⟨K102,v27+1,(q4:(List Int)),ak,al,R,(S93.tr (S96.tr S103)).wk R,f104,by omega,by omega,hk95⟩,(ha.mm R)⟩
 rintro _ w87 ⟨K88,s3,am,aj,rfl,S89,f90,rfl⟩
 have h:=hK85
 dsimp only[aft]at h
 refine Jp (Je [2,2] R (Jb 2 R (Ju (Ja2 (l:=[.tmp 4]) V26 (Jp2 R R) R ?_))))
 cases h
 exact⟨(fun b=>ren [(17,2)] (K88 b)),am,aj,R,((hE.stp (S3.tr (S7.tr (S17.tr (S36.tr (S39.tr (S51.tr (S65.tr (S76.tr (S82.tr S89))))))))) R R).map (ren [(17,2)]) R R),(f90.map (ren [(17,2)]) R R)⟩
 refine JT fun h=>Jx R (Je [2] R (Jb 1 R (Ju (Jw (Ja2 (l:=[.tmp 4]) V26 (Jp2 R R) R ?_)))))
 cases h
 exact⟨K35,none,0,R,(hE.stp (S3.tr (S7.tr (S17.tr S36))) R R),Ow.nil⟩
theorem s_BadLoops_ok {w:World}{κ:Col}{ak aj ai am aq ap}{p0:Parity}{p1:Int}{a2 u2}{p2:(List Int)}{a3 u3}{p3:(List Int)}(g0_0_0:Rd (Rp.int .i64) κ w 0 ak aj p0.Arena.Owner) (g0_0_1:Rd (Rp.sl (Rp.int .i64)) κ w 0 ai am p0.Arena.Next) (g0_1:Rd (Rp.int .i64) κ w 0 aq ap p0.Prio) (g2:Rd (Rp.int .i64) κ w 0 a2 u2 p2) (g3:Rd (Rp.int .i64) κ w 0 a3 u3 p3){r:(List Int)}(h:s_BadLoops p0 p1 p2 p3=some r):Ret Tryz.prog 134 [.agg #[.slice ak p0.Arena.Owner.length aj,.slice ai p0.Arena.Next.length am,.slice aq p0.Prio.length ap],vi p1,.slice a2 p2.length u2,.slice a3 p3.length u3] w (fun v w'=>∃(κ':Col) (ra0:Option Addr) (ru0:Nat),v= .slice ra0 r.length ru0∧Ent κ w κ' w'∧Oc E6 2 κ' w' 2 ra0 ru0 r):=by
 unfold s_BadLoops at h
 refine Ret.enter F134 R N134 R ?_
 dsimp only[envOf]
 have hE:=Ent.refl κ w
 refine Je [1,2] R (Jf1 (κ:=κ) 2 R R R R R R R fun b4 w1 K2 S3 f4=>⟨tv,Jb 1 R (Je [1,2] R (Jo1 (κ:=K2) (E:=E6) 3 R R R R R Y22 Tryzinfo2 R fun ar au w5 K6 S7 f8=>⟨tv,Jb 1 R (Jq (Je [1,2,2,2,1,2] R ?_))⟩))⟩)
 have f9:=f4.stp S7 R R
 refine Jl tv R R R R (Jd2 (cs:=[.slice ak p0.Arena.Owner.length aj,.slice ai p0.Arena.Next.length am,.slice aq p0.Prio.length ap]) I39 Z39 R R R (haE f9.cells)) (Jn 3 R (Ob h fun x20 hx20 h=>?_))
 have f10:=g0_0_0.stp (S3.tr S7) R R
 have f11:=g0_0_1.stp (S3.tr S7) R R
 have f12:=g0_1.stp (S3.tr S7) R R
 have f13:=g2.stp (S3.tr S7) R R
 have f14:=g3.stp (S3.tr S7) R R
 refine Jh R R R C133 (s_l6Right_ok (κ:=fun b=>mp [] 0 (K6 b)) (p0:=p0) (Jl2 f10 (mp [] 0) R R) (Jl2 f11 (mp [] 0) R R) (Jl2 f12 (mp [] 0) R R) (Jl2 f13 (mp [] 0) R R) (Jl2 f14 (mp [] 0) R R) hx20) ?_
 rintro _ w15 ⟨k16,rfl,e17⟩
 obtain⟨K18,S19,m20⟩:=Ji e17 4 R
 refine⟨tv,Jb 1 R ?_⟩
 revert h
 cases ht22:(!x20)
 refine JF fun h=>Jy R (Js (Jp (Je [2,1,2,1,2] R (Jf R (Jb2 U39 R Z37 R R) ?_))))
 have f25:=f9.stp S19 R R
 refine Jl tv R R R R (Jd2 (cs:=[.slice ak p0.Arena.Owner.length aj,.slice ai p0.Arena.Next.length am]) I37 Z37 R R R (haE (f25.lds 0 2 R))) (Jn 1 R (Ob h fun x26 hx26 h=>Jh R R R C156 (s_l6Edges_ok (κ:=fun b=>mp [] 1 (K18 b)) (p0:=p0.Arena) (Jl2 (f10.stp S19 R R) (mp [] 1) R R) (Jl2 (f11.stp S19 R R) (mp [] 1) R R) (Jl2 (f14.stp S19 R R) (mp [] 1) R R) hx26) ?_))
 rintro _ w29 ⟨k30,ah,an,rfl,e31,f32⟩
 obtain⟨K33,S34,m35,z36⟩:=Jj e31 6 R
 refine⟨tv,Jb 1 R (Jq (Je [2] R (Jb 1 R ?_)))⟩
 have hN38:(p2.length:Int)≤9223372036854775807:=f13.len_le
 refine Ob h fun q2 hq40 hK39=>?_
 clear h
 refine Jx1 (fun L w'=>∃κ',∃s3:(List Int),∃ao ad,L=[(9,.slice ao s3.length ad)]∧Stp [3,9] K33 w29 κ' w'∧Oc E6 2 κ' w' 3 ao ad s3∧q2=Sum.inr s3) ?_ ?_
 refine Jv (Jy1 (fun k L w'=>∃κ' v11,∃s1:(List Int),∃ab aa,L=[(1,vi p1),(2,.slice a2 p2.length u2),(4,.pointer (some ⟨b4,0,none⟩)),(9,.slice ab s1.length aa),(10,.slice ah x26.length an),(11,vi v11)]∧Stp [3,9] K33 w29 κ' w'∧Oc E6 2 κ' w' 3 ab aa s1∧0≤v11∧Int.toNat ((p2.length:Int)-v11)=k∧cntM (s_BadLoops_b0 p0 p1 p2 x26) k v11 s1=some q2) ⟨_,_,⟨K33,0,(([]:List Int):(List Int)),ar,au,R,(Jx2 _ _).wk R,(f8.stp (S19.tr S34) R R),(by decide),(by simp),hq40⟩,(KM R)⟩ ?_)
 rintro k _ w45 ⟨K46,v11,s1,ab,aa,rfl,S47,f48,hj38,hJ38,h⟩
 rcases k with _ | k
 have hk50:=h;obtain⟨o38,h⟩:=ex_eq (Sum.inr (Sum.inl s1):(List Int)⊕(((List Int))⊕((List Int))))
 have hc38:decide (v11<(p2.length:Int))=false:=Jo2 (by omega)
 refine Jq (Je [2,2,2,2] R (Jn 2 R (Jf R (Je2 U22 R R) (Jb 1 R (Jw2 R hc38 (Jc1 (Jt (Jt ?_))))))))
 cases h
 have h:=hk50
 refine Jb1 ?_
 cases h
 exact Jw1 _ ⟨K46,(s1:(List Int)),ab,aa,R,S47.wk R,f48,R⟩ (KM R)
 obtain⟨o38,h,hk50⟩:=BI h;unfold s_BadLoops_b0 at h
 have hc38:decide (v11<(p2.length:Int))=true:=Jn2 (by omega)
 refine Jq (Je [2,2,2,2] R (Jn 2 R (Jf R (Je2 U22 R R) (Jb 1 R (Jv2 R hc38 (Js (Jp (Jq (Jv (Je [2,2,2,1,2] R (Jn 2 R (Ob h fun x35 hx35 h=>Jf R (Jf2 f13 hx35 U22 Z2 R R R R) ?_))))))))))))
 have f51:=f13.stp (S19.tr (S34.tr S47)) R R
 refine Jl tv R R R R (Jc2 I2 R R (hvE (f51.gInt hx35))) (Jb 1 R (Jq (Je [2,1,2,2,1,2,2,2] R (Jf R (Jb2 U39 R Z22 R R) ?_))))
 have f52:=f25.stp (S34.tr S47) R R
 refine Jl tv R R R R (Jc2 I22 R R (hvE (f52.ld 2 R R))) (Jn 1 R (Ob h fun x40 hx40 h=>Jf R (Jf2 f12 hx40 U22 Z2 R R R R) ?_))
 have f53:=f12.stp (S19.tr (S34.tr S47)) R R
 refine Jl tv R R R R (Jc2 I2 R R (hvE (f53.gInt hx40))) (Jf R (rn_rem R R R (by decide)) (Jb 2 R ?_))
 revert h
 cases ht54:((Int.tmod x40 2)==p1)
 refine JF fun h=>Jy R (Js (Jp (Je [2,1,2,1,2] R (Jf R (Jb2 U39 R Z22 R R) (Jl tv R R R R (Jc2 I22 R R (hvE (f52.ld 2 R R))) (Jf R (Je2 U22 R R) (Ob h fun x48 hx48 h=>Jl1 (κ:=K46) (E:=Ep.bool) (z:=(false:Bool)) 9 R R R R R R R Y70 Tryzinfo4 R R R R R (fun _ _ _=>R) (Ju2 hx48) fun af ae w55 K56 S57 f58=>⟨tv,Jb 1 R (Jq (Je [2] R (Jb 1 R ?_)))⟩)))))))
 have hN59:(p2.length:Int)≤9223372036854775807:=f51.len_le
 refine Ob h fun q5 hq61 hK60=>?_
 clear h
 refine Jx1 (fun L w'=>∃κ',∃s6:(List Bool),L=[(1,vi p1),(2,.slice a2 p2.length u2),(4,.pointer (some ⟨b4,0,none⟩)),(9,.slice ab s1.length aa),(10,.slice ah x26.length an),(11,vi v11),(12,vi x35),(13,.slice af x48.length ae)]∧Stp [9] K56 w55 κ' w'∧Oc Ep.bool 4 κ' w' 9 af ae s6∧x48.length=s6.length∧q5=Sum.inr s6) ?_ ?_
 refine Jv (Jy1 (fun k L w'=>∃κ' v14,∃s4:(List Bool),L=[(1,vi p1),(2,.slice a2 p2.length u2),(4,.pointer (some ⟨b4,0,none⟩)),(9,.slice ab s1.length aa),(10,.slice ah x26.length an),(11,vi v11),(12,vi x35),(13,.slice af x48.length ae),(14,vi v14)]∧Stp [9] K56 w55 κ' w'∧Oc Ep.bool 4 κ' w' 9 af ae s4∧x48.length=s4.length∧0≤v14∧Int.toNat ((p2.length:Int)-v14)=k∧cntM (s_BadLoops_b2 p0 p2 x35) k v14 s4=some q5) ⟨_,_,⟨K56,0,(x48:(List Bool)),R,(Jx2 _ _).wk R,f58,R,(by decide),(by simp),hq61⟩,(KM R)⟩ ?_)
 rintro k _ w67 ⟨K68,v14,s4,rfl,S69,f70,hn71,hj59,hJ59,h⟩
 rcases k with _ | k
 have hk72:=h;obtain⟨o59,h⟩:=ex_eq (Sum.inr (Sum.inl s4):(List Int)⊕(((List Bool))⊕((List Bool))))
 have hc59:decide (v14<(p2.length:Int))=false:=Jo2 (by omega)
 refine Jq (Je [2,2,2,2] R (Jn 2 R (Jf R (Je2 U22 R R) (Jb 1 R (Jw2 R hc59 (Jc1 (Jt (Jt ?_))))))))
 cases h
 have h:=hk72
 refine Jb1 ?_
 cases h
 exact Jw1 _ ⟨K68,(s4:(List Bool)),R,S69.wk R,f70,hn71,R⟩ (KM R)
 obtain⟨o59,h,hk72⟩:=BI h;unfold s_BadLoops_b2 at h
 have hc59:decide (v14<(p2.length:Int))=true:=Jn2 (by omega)
 refine Jq (Je [2,2,2,2] R (Jn 2 R (Jf R (Je2 U22 R R) (Jb 1 R (Jv2 R hc59 (Js (Jp (Jq (Jv (Js1 (κ:=K68) [0,2] none [(0,2),(1,2),(2,2),(3,2),(5,2),(7,2),(8,2),(9,2),(13,2),(15,2),(4,0),(6,0),(10,0),(11,2),(12,0),(14,0),(16,2),(17,0),(18,2),(19,2),(20,1)] [] (by kernel_rfl) (by kernel_rfl) fun w74 S73=>Jn 3 R (Ob h fun x58 hx58 h=>Jf R (Jf2 f51 hx58 U22 Z2 R R R R) (Jf R (Jb2 U39 R Z22 R R) (Jn 2 R (Ob h fun x64 hx64 h=>Jf R (Jf2 f51 hx64 U22 Z2 R R R R) (Jf R (Jb2 U39 R Z22 R R) (Jn 1 R ?_))))))))))))))))
 have f75:=f51.stp (S57.tr (S69.tr S73)) R R
 refine Jg R (Jc2 I2 R R (hvC (f75.gInt hx58) R)) ?_
 have f76:=f52.stp (S57.tr (S69.tr S73)) R R
 refine Jg R (Jc2 I22 R R (hvC (f76.ld 2 R R) R)) (Jg R (Jc2 I2 R R (hvC (f75.gInt hx64) R)) (Ob h fun x66 hx66 h=>Jf R (Jf2 f53 hx66 U22 Z2 R R R R) ?_))
 have f77:=f53.stp (S57.tr (S69.tr S73)) R R
 refine Jg R (Jc2 I2 R R (hvC (f77.gInt hx66) R)) (Jg R (Jc2 I22 R R (hvC (f76.ld 2 R R) R)) (Ob h fun x71 hx71 h=>Jf R (Jf2 f77 hx71 U22 Z2 R R R R) (Jg R (Jc2 I2 R R (hvC (f77.gInt hx71) R)) (Jn 1 R (Ob h fun x74 hx74 h=>Jf R (Jf2 f70.rdc hx74 U70 Z4 R R hn71 R) (Ob h fun y386 hy386 h=>Jk1 (κ:=K68) (E:=Ep.bool) 9 [] R R R R R R R R Z4 R R R R (f70.stp S73 R R) hy386 fun w79 K80 S81 f82=>⟨(S81.cl R),?_⟩))))))
 have hn83:x48.length=y386.length:=hn71.trans (Jt2 hy386).2.2.2.symm
 refine Jt1 (Jo (Jz (Jp (Ja [2,2,2] R (Jc 3 R ?_)))))
 have hw59:IntKind.wrap .i64 (v14+1)=v14+1:=wr1 hj59 (Jm2 hc59) hN59
 rw[hw59]
 have hc59:=Jm2 hc59
 cases h
 exact Jz1 fun a ha=>⟨k,_,Ja3 _,⟨K80,v14+1,(y386:(List Bool)),R,(S69.tr (S73.tr S81)).wk R,f82,hn83,by omega,by omega,hk72⟩,(ha.mm R)⟩
 rintro _ w62 ⟨K63,s6,rfl,S64,f65,hn66,rfl⟩
 have h:=hK60
 dsimp only[aft]at h
 refine Jp (Je [2,2,2,1,1,2,2,1] R (Jn 3 R (Jn1 (κ:=K63) (E:=E6) 10 [] (parts:=[(0,.tmp 77)]) (cells:=[vi x35]) (xs:=([x35]:List Int)) R R R R R R Y22 Tryzinfo2 R R R R R R R R R R ⟨[vi x35],[],Zl K63 w62 [],Zl K63 w62 [],R,Zl.sp (l1:=[]) (l2:=[]) R,Zl.sr (l1:=[]) (l2:=[]),R,R⟩ fun ay aA w84 K85 S86 f87=>⟨tv,Ob h fun x79 hx79 h=>Jh R R R C157 (Ret.cast (by simp only[hn66,List.cons_append,List.nil_append]) (s_l1Beyond_ok (κ:=fun b=>mp [] 0 (K85 b)) (Jl2 ((f32.mxz z36 m35 R (R:6+2=8)).stp (S47.tr (S57.tr (S64.tr S86))) R R).rdc (mp [] 0) R R) (Jl2 (f65.stp S86 R R).rdc (mp [] 0) R R) (Jl2 f87.rdc (mp [] 0) R R) hx79)) ?_⟩)))
 rintro _ w90 ⟨k91,aC,az,rfl,e92,f93⟩
 obtain⟨K94,S95,m96⟩:=Ji e92 11 R
 refine⟨tv,?_⟩
 have f98:=f93.mx no_bool m96 R (R:11+2=13)
 refine Jn 1 R (Ob h fun x81 hx81 h=>Jf R (Jf2 f98.rdc hx81 U70 Z4 R R R R) (Jl tv R R R R (Jc2 I4 R R (hvE (f98.rdc.gBool hx81))) (Jd (Ob h fun q7 h hK99=>Jx1 (fun L w'=>∃κ' al ac,L=[(1,vi p1),(2,.slice a2 p2.length u2),(4,.pointer (some ⟨b4,0,none⟩)),(9,.slice al q7.length ac),(10,.slice ah x26.length an),(11,vi v11)]∧Stp [3] K94 w90 κ' w'∧Oc E6 2 κ' w' 3 al ac q7) ?_ ?_))))
 revert h
 cases ht104:x81
 refine JF fun h=>Jy R (Js ?_)
 cases h
 exact Jw1 _ ⟨K94,ab,aa,R,(Jx2 _ _).wk R,(f48.stp (S57.tr (S64.tr (S86.tr S95))) R R)⟩ (KM R)
 refine JT fun h=>Jx R (Ja [2,2,1,1,2] R (Jn 2 R (Jn1 (κ:=K94) (E:=E6) 14 [] (parts:=[(0,.tmp 84)]) (cells:=[vi x35]) (xs:=([x35]:List Int)) R R R R R R Y22 Tryzinfo2 R R R R R R R R R R ⟨[vi x35],[],Zl K94 w90 [],Zl K94 w90 [],R,Zl.sp (l1:=[]) (l2:=[]) R,Zl.sr (l1:=[]) (l2:=[]),R,R⟩ fun aB ax w105 K106 S107 f108=>⟨tv,Ob h fun x86 hx86 h=>Jm1 (κ:=K106) (E:=E6) 3 [] R R R R R R R R R Y22 Tryzinfo2 R R R R (f48.stp (S57.tr (S64.tr (S86.tr (S95.tr S107)))) R R) (Sl.srcP (pu_int _) f108.rdc) sy_false hx86 R fun av aw w110 K111 S112 f113=>⟨tv,Jc 1 R ?_⟩⟩)))
 cases h
 exact Jw1 _ ⟨K111,av,aw,R,(S107.tr S112).wk R,f113⟩ (KM R)
 rintro _ w100 ⟨K101,al,ac,rfl,S102,f103⟩
 have h:=hK99
 refine Jz (Jp (Ja [2,2,2] R (Jc 3 R ?_)))
 have hw38:IntKind.wrap .i64 (v11+1)=v11+1:=wr1 hj38 (Jm2 hc38) hN38
 rw[hw38]
 have hc38:=Jm2 hc38
 cases h
 exact Jz1 fun a ha=>⟨k,_,Ja3 _,⟨K101,v11+1,(q7:(List Int)),al,ac,R,(S47.tr (S57.tr (S64.tr (S86.tr (S95.tr S102))))).wk R,f103,by omega,by omega,hk50⟩,(ha.mm R)⟩
 refine JT fun h=>Jx R (Jc1 (Jt (Jb1 (Jp (Ja [2,2,2] R (Jc 3 R ?_))))))
 have hw38:IntKind.wrap .i64 (v11+1)=v11+1:=wr1 hj38 (Jm2 hc38) hN38
 rw[hw38]
 have hc38:=Jm2 hc38
 cases h
 exact Jz1 fun a ha=>⟨k,_,Ja3 _,⟨K46,v11+1,(s1:(List Int)),ab,aa,R,S47.wk R,f48,by omega,by omega,hk50⟩,(ha.mm R)⟩
 rintro _ w41 ⟨K42,s3,ao,ad,rfl,S43,f44,rfl⟩
 have h:=hK39
 dsimp only[aft]at h
 refine Jp (Je [2,2] R (Jb 2 R (Ju (Ja2 (l:=[.tmp 8]) V134 (Jp2 R R) R ?_))))
 cases h
 exact⟨(fun b=>ren [(3,2)] (K42 b)),ao,ad,R,((hE.stp (S3.tr (S7.tr (S19.tr (S34.tr S43)))) R R).map (ren [(3,2)]) R R),(f44.map (ren [(3,2)]) R R)⟩
 refine JT fun h=>Jx R (Je [2,2] R (Jb 2 R (Ju (Jw (Ja2 (l:=[.tmp 8]) V134 (Jp2 R R) R ?_)))))
 cases h
 exact⟨(fun b=>ren [(3,2)] (K18 b)),ar,au,R,((hE.stp (S3.tr (S7.tr S19)) R R).map (ren [(3,2)]) R R),((f8.stp S19 R R).map (ren [(3,2)]) R R)⟩
theorem s_PartIn_ok {w:World}{κ:Col}{a0 u0}{p0:(List Int)}{a1 u1}{p1:(List Int)}(g0:Rd (Rp.int .i64) κ w 0 a0 u0 p0) (g1:Rd (Rp.int .i64) κ w 0 a1 u1 p1){r:Bool}(h:s_PartIn p0 p1=some r):Ret Tryz.prog 29 [.slice a0 p0.length u0,.slice a1 p1.length u1] w (fun v w'=>∃(κ':Col),v= .bool r∧Ent κ w κ' w'):=by
 unfold s_PartIn at h
 refine Ret.enter F29 R N29 R ?_
 dsimp only[envOf]
 have hE:=Ent.refl κ w
 refine Je [2] R (Jb 1 R (Je [2,2,1,2,2,2,1,2,2,2,2] R (Jn 2 R (Ob h fun x7 hx7 h=>Jh R R R C66 (s_l2Both_ok (κ:=fun b=>mp [] 0 (κ b)) (Jl2 g0 (mp [] 0) R R) (Jl2 g1 (mp [] 0) R R) hx7) ?_))))
 rintro _ w1 ⟨k2,rfl,e3⟩
 obtain⟨K4,S5,m6⟩:=Ji e3 2 R
 refine⟨tv,Jn 1 R (Ob h fun p14 h hK8=>Ju1 [(4,2),(5,2),(6,1),(7,2),(8,2),(9,2)] [(10,2)] (fun L w'=>L=[(4,.bool false),(14,.bool p14)]∧∃κ',Stp [] K4 w1 κ' w') tv ?_ ?_)⟩
 revert h
 cases ht9:x7
 refine JF fun h=>Jn 2 R (Jd1 R R R R (Jn 3 R ?_))
 cases h
 exact Jv1 _ tv ⟨R,_,(Jx2 _ _).wk R⟩ (KM R)
 refine JT fun h=>Jn 2 R (Ob h fun x11 hx11 h=>Jh R R R C67 (s_LessOf_ok (κ:=fun b=>mp [] 0 (K4 b)) (Jl2 (g0.stp S5 R R) (mp [] 0) R R) (Jl2 (g1.stp S5 R R) (mp [] 0) R R) hx11) ?_)
 rintro _ w12 ⟨k13,ab,aa,rfl,e14,f15⟩
 obtain⟨K16,S17,m18⟩:=Ji e14 4 R
 refine⟨tv,Jf R (Je2 U22 R R) (Jn 2 R ?_)⟩
 cases h
 exact Jv1 _ tv ⟨R,_,S17.wk R⟩ (KM R)
 rintro _ w21 _ ⟨rfl,K22,S23⟩
 have h:=hK8
 refine Jb 1 R (Ju (Ja2 (l:=[.tmp 4]) V29 (Jp2 R R) R ?_))
 cases h
 exact⟨K22,R,(hE.stp (S5.tr S23) R R)⟩
end Go.Proofs.YtmiilifclnanlaaGreat
