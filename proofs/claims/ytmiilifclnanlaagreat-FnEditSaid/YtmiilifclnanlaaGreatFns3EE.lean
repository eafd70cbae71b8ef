/- The walks, part 3. By program. -/
import Derived.Test.YtmiilifclnanlaaGreatFns0EE
import Derived.Test.YtmiilifclnanlaaGreatFns1EE
import Derived.Test.YtmiilifclnanlaaGreatFns2EE
set_option linter.unusedVariables false
set_option linter.unusedSimpArgs false
namespace Go.Proofs.YtmiilifclnanlaaGreat
open Go Go.Wk Go.Proofs
set_option maxRecDepth 100000
set_option maxHeartbeats 1000000
theorem s_l1Into_ok {w:World}{κ:Col}{a0 u0}{p0:(List Int)}{p1:Int}(g0:Rd (Rp.int .i64) κ w 0 a0 u0 p0){r:(List Int)}(h:s_l1Into p0 p1=some r):Ret Tryz.prog 78 [.slice a0 p0.length u0,vi p1] w (fun v w'=>∃(κ':Col) (ra0:Option Addr) (ru0:Nat),v= .slice ra0 r.length ru0∧Ent κ w κ' w'∧Rd (Rp.int .i64) κ' w' 0 ra0 ru0 r):=by
 unfold s_l1Into at h
 refine Ret.enter F78 R N78 R ?_
 dsimp only[envOf]
 have hE:=Ent.refl κ w
 refine Je [2] R (Jb 1 R (Je [2] R (Jb 1 R (Jq (Ob h fun q2 hq3 hK2=>?_)))))
 clear h
 refine Jx1 (fun L w'=>∃κ' s3,L=[(0,.slice a0 p0.length u0),(1,vi p1),(5,vi s3)]∧Stp [] κ w κ' w'∧q2=Sum.inr s3) ?_ ?_
 refine Jv (Jy1 (fun k L w'=>∃κ' s1,L=[(0,.slice a0 p0.length u0),(1,vi p1),(5,vi s1)]∧Stp [] κ w κ' w'∧whileM (s_l1Into_b0 p0 p1) k s1=some q2) ⟨_,_,⟨κ,(0:Int),R,(Jx2 _ _).wk R,hq3⟩,(KM R)⟩ ?_)
 rintro k _ w7 ⟨K8,s1,rfl,S9,h⟩
 rcases k with _ | k
 cases h
 obtain⟨o1,h,hk10⟩:=BI h;unfold s_l1Into_b0 at h
 refine Jq (Je [2,2,2,2,2,2,2,2,1,2,2,2] R (Jn 2 R (Jf R (Je2 U22 R R) (Jn 2 R (Ob h fun p18 h hK11=>Ju1 [(5,2),(6,2),(7,2),(8,1),(9,2),(10,2),(11,2)] [] (fun L w'=>L=[(0,.slice a0 p0.length u0),(1,vi p1),(5,vi s1),(18,.bool p18)]∧∃κ',Stp [] K8 w7 κ' w') tv ?_ ?_)))))
 revert h
 cases ht12:decide (s1<(p0.length:Int))
 refine JF fun h=>Jn 3 R (Jd1 R R R R (Jn 3 R ?_))
 cases h
 exact Jv1 _ tv ⟨R,_,(Jx2 _ _).wk R⟩ (KM R)
 refine JT fun h=>Jn 2 R (Ob h fun x14 hx14 h=>Jf R (Jf2 g0 hx14 U22 Z2 R R R R) (Jl tv R R R R (Jc2 I2 R R (hvE ((g0.stp S9 R R).gInt hx14))) (Jn 3 R ?_)))
 cases h
 exact Jv1 _ tv ⟨R,_,(Jx2 _ _).wk R⟩ (KM R)
 rintro _ w14 _ ⟨rfl,K15,S16⟩
 have h:=hK11
 refine Jd ?_
 revert h
 cases ht17:p18
 refine JF fun h=>Jy R (Jc1 (Jt (Jt ?_)))
 cases h
 have h:=hk10
 refine Jb1 ?_
 cases h
 exact Jw1 _ ⟨K15,(s1:Int),R,(S9.tr S16).wk R,R⟩ (KM R)
 refine JT fun h=>Jx R (Js (Jp (Jv (Ja [2,2,2] R (Jc 3 R (Jz ?_))))))
 cases h
 exact Jz1 fun a ha=>⟨k,_,Ja3 _,⟨K15,((IntKind.i64.wrap (s1+1)):Int),R,(S9.tr S16).wk R,hk10⟩,(ha.mm R)⟩
 rintro _ w4 ⟨K5,s3,rfl,S6,rfl⟩
 have h:=hK2
 dsimp only[aft]at h
 refine Jp (Jq (Je [2,2,2,2,2,2,2,2,1,2,2,2] R (Jn 2 R (Jf R (Je2 U22 R R) (Jn 2 R (Ob h fun p32 h hK18=>Ju1 [(5,2),(6,2),(7,2),(8,1),(9,2),(10,2),(11,2)] [] (fun L w'=>L=[(0,.slice a0 p0.length u0),(1,vi p1),(5,vi s3),(32,.bool p32)]∧∃κ',Stp [] K5 w4 κ' w') tv ?_ ?_))))))
 revert h
 cases ht19:decide (s3<(p0.length:Int))
 refine JF fun h=>Jn 3 R (Jd1 R R R R (Jn 3 R ?_))
 cases h
 exact Jv1 _ tv ⟨R,_,(Jx2 _ _).wk R⟩ (KM R)
 refine JT fun h=>Jn 2 R (Ob h fun x28 hx28 h=>Jf R (Jf2 g0 hx28 U22 Z2 R R R R) (Jl tv R R R R (Jc2 I2 R R (hvE ((g0.stp S6 R R).gInt hx28))) (Jn 3 R ?_)))
 cases h
 exact Jv1 _ tv ⟨R,_,(Jx2 _ _).wk R⟩ (KM R)
 rintro _ w21 _ ⟨rfl,K22,S23⟩
 have h:=hK18
 refine Jd ?_
 revert h
 cases ht24:p32
 refine JF fun h=>Jy R (Js (Jp (Je [2,2,2,1,2,1,1,2] R (Jn 2 R (Ob h fun x36 hx36 h=>Jf R (rn_slice (k1:= .i64) (k2:= .i64) U22 Z2 (.inl ⟨R,R⟩) (.inr ⟨_,R,R⟩) hx36 g0.1 R R R) ?_)))))
 have f28:=g0.stp (S6.tr S23) R R
 refine Ob h fun x37 hx37 h=>Jh R R R C114 (s_l1Copy_ok (κ:=fun b=>mp [] 0 (K22 b)) (Jl2 (f28.sub hx36) (mp [] 0) R R) hx37) ?_
 rintro _ w29 ⟨k30,ad,ai,rfl,e31,f32⟩
 obtain⟨K33,S34,m35⟩:=Ji e31 2 R
 refine⟨tv,Jn 1 R (Jn1 (κ:=K33) (E:=E6) 5 [] (parts:=[(0,.tmp 38)]) (cells:=[vi p1]) (xs:=([p1]:List Int)) R R R R R R Y22 Tryzinfo2 R R R R R R R R R R ⟨[vi p1],[],Zl K33 w29 [],Zl K33 w29 [],R,Zl.sp (l1:=[]) (l2:=[]) R,Zl.sr (l1:=[]) (l2:=[]),R,R⟩ fun ac af w38 K39 S40 f41=>⟨tv,Ob h fun x40 hx40 h=>Jm1 (κ:=K39) (E:=E6) 4 [] R R R R R R R R R Y22 Tryzinfo2 R R R R ((f32.mx (no_int _) m35 R (R:2+2=4)).stp S40 R R) (Sl.srcP (pu_int _) f41.rdc) sy_false hx40 R fun ah ae w43 K44 S45 f46=>⟨tv,Jb 1 R (Je [2,2,2,2,1,2] R (Jn 3 R (Ob h fun x44 hx44 h=>Jf R (rn_slice (k1:= .i64) (k2:= .i64) U22 Z2 (.inr ⟨_,R,R⟩) (.inl ⟨R,R⟩) hx44 f28.1 R R R) (Ob h fun x45 hx45 h=>Jm1 (κ:=K44) (E:=E6) 4 [] R R R R R R R R R Y22 Tryzinfo2 R R R R f46 (Sl.srcP (pu_int _) ((f28.stp (S34.tr (S40.tr S45)) R R).sub hx44)) sy_false hx45 R fun aa ab w49 K50 S51 f52=>⟨tv,Jb 1 R (Ju ?_)⟩))))⟩⟩)⟩
 obtain⟨K53,S54,z55⟩:=fz_ex K50 w49 4
 refine Ja2 (l:=[.tmp 4]) V78 (Jp2 R R) R ?_
 cases h
 exact⟨K53,aa,ab,R,(hE.stp (S6.tr (S23.tr (S34.tr (S40.tr (S45.tr (S51.tr S54)))))) R R),(Sl.st z55 f52.rdc)⟩
 refine JT fun h=>Jx R (Je [2,2] R (Jb 2 R (Ju (Jw (Ja2 (l:=[.tmp 4]) V78 (Jp2 R R) R ?_)))))
 cases h
 exact⟨K22,a0,u0,R,(hE.stp (S6.tr S23) R R),(g0.stp (S6.tr S23) R R)⟩
theorem s_l1Into__own0_ok {w:World}{κ:Col}{a0 u0}{p0:(List Int)}{p1:Int}(g0:Oc E6 2 κ w 2 a0 u0 p0){r:(List Int)}(h:s_l1Into__own0 p0 p1=some r):Ret Tryz.prog 78 [.slice a0 p0.length u0,vi p1] w (fun v w'=>∃(κ':Col) (ra0:Option Addr) (ru0:Nat),v= .slice ra0 r.length ru0∧Ent κ w κ' w'∧Oc E6 2 κ' w' 3 ra0 ru0 r):=by
 unfold s_l1Into__own0 at h
 refine Ret.enter F78 R N78 R ?_
 dsimp only[envOf]
 have hE:=Ent.refl κ w
 refine Je [2] R (Jb 1 R (Je [2] R (Jb 1 R (Jq (Ob h fun q2 hq3 hK2=>?_)))))
 clear h
 refine Jx1 (fun L w'=>∃κ' s3,L=[(0,.slice a0 p0.length u0),(1,vi p1),(5,vi s3)]∧Stp [] κ w κ' w'∧q2=Sum.inr s3) ?_ ?_
 refine Jv (Jy1 (fun k L w'=>∃κ' s1,L=[(0,.slice a0 p0.length u0),(1,vi p1),(5,vi s1)]∧Stp [] κ w κ' w'∧whileM (s_l1Into__own0_b0 p0 p1) k s1=some q2) ⟨_,_,⟨κ,(0:Int),R,(Jx2 _ _).wk R,hq3⟩,(KM R)⟩ ?_)
 rintro k _ w7 ⟨K8,s1,rfl,S9,h⟩
 rcases k with _ | k
 cases h
 obtain⟨o1,h,hk10⟩:=BI h;unfold s_l1Into__own0_b0 at h
 refine Jq (Je [2,2,2,2,2,2,2,2,1,2,2,2] R (Jn 2 R (Jf R (Je2 U22 R R) (Jn 2 R (Ob h fun p18 h hK11=>Ju1 [(5,2),(6,2),(7,2),(8,1),(9,2),(10,2),(11,2)] [] (fun L w'=>L=[(0,.slice a0 p0.length u0),(1,vi p1),(5,vi s1),(18,.bool p18)]∧∃κ',Stp [] K8 w7 κ' w') tv ?_ ?_)))))
 revert h
 cases ht12:decide (s1<(p0.length:Int))
 refine JF fun h=>Jn 3 R (Jd1 R R R R (Jn 3 R ?_))
 cases h
 exact Jv1 _ tv ⟨R,_,(Jx2 _ _).wk R⟩ (KM R)
 refine JT fun h=>Jn 2 R (Ob h fun x14 hx14 h=>Jf R (Jf2 g0.rdc hx14 U22 Z2 R R R R) (Jl tv R R R R (Jc2 I2 R R (hvE ((g0.stp S9 R R).rdc.gInt hx14))) (Jn 3 R ?_)))
 cases h
 exact Jv1 _ tv ⟨R,_,(Jx2 _ _).wk R⟩ (KM R)
 rintro _ w14 _ ⟨rfl,K15,S16⟩
 have h:=hK11
 refine Jd ?_
 revert h
 cases ht17:p18
 refine JF fun h=>Jy R (Jc1 (Jt (Jt ?_)))
 cases h
 have h:=hk10
 refine Jb1 ?_
 cases h
 exact Jw1 _ ⟨K15,(s1:Int),R,(S9.tr S16).wk R,R⟩ (KM R)
 refine JT fun h=>Jx R (Js (Jp (Jv (Ja [2,2,2] R (Jc 3 R (Jz ?_))))))
 cases h
 exact Jz1 fun a ha=>⟨k,_,Ja3 _,⟨K15,((IntKind.i64.wrap (s1+1)):Int),R,(S9.tr S16).wk R,hk10⟩,(ha.mm R)⟩
 rintro _ w4 ⟨K5,s3,rfl,S6,rfl⟩
 have h:=hK2
 dsimp only[aft]at h
 refine Jp (Jq (Je [2,2,2,2,2,2,2,2,1,2,2,2] R (Jn 2 R (Jf R (Je2 U22 R R) (Jn 2 R (Ob h fun p32 h hK18=>Ju1 [(5,2),(6,2),(7,2),(8,1),(9,2),(10,2),(11,2)] [] (fun L w'=>L=[(0,.slice a0 p0.length u0),(1,vi p1),(5,vi s3),(32,.bool p32)]∧∃κ',Stp [] K5 w4 κ' w') tv ?_ ?_))))))
 revert h
 cases ht19:decide (s3<(p0.length:Int))
 refine JF fun h=>Jn 3 R (Jd1 R R R R (Jn 3 R ?_))
 cases h
 exact Jv1 _ tv ⟨R,_,(Jx2 _ _).wk R⟩ (KM R)
 refine JT fun h=>Jn 2 R (Ob h fun x28 hx28 h=>Jf R (Jf2 g0.rdc hx28 U22 Z2 R R R R) (Jl tv R R R R (Jc2 I2 R R (hvE ((g0.stp S6 R R).rdc.gInt hx28))) (Jn 3 R ?_)))
 cases h
 exact Jv1 _ tv ⟨R,_,(Jx2 _ _).wk R⟩ (KM R)
 rintro _ w21 _ ⟨rfl,K22,S23⟩
 have h:=hK18
 refine Jd ?_
 revert h
 cases ht24:p32
 refine JF fun h=>Jy R (Js (Jp (Je [2,2,2,1,2,1,1,2] R (Jn 2 R (Ob h fun x36 hx36 h=>Jf R (rn_slice (k1:= .i64) (k2:= .i64) U22 Z2 (.inl ⟨R,R⟩) (.inr ⟨_,R,R⟩) hx36 g0.rdc.1 R R R) ?_)))))
 have f28:=g0.stp (S6.tr S23) R R
 refine Ob h fun x37 hx37 h=>Jh R R R C114 (s_l1Copy_ok (κ:=fun b=>mp [] 0 (K22 b)) (Jl2 (f28.rdc.sub hx36) (mp [] 0) R R) hx37) ?_
 rintro _ w29 ⟨k30,ad,ai,rfl,e31,f32⟩
 obtain⟨K33,S34,m35⟩:=Ji e31 3 R
 refine⟨tv,Jn 1 R (Jn1 (κ:=K33) (E:=E6) 6 [] (parts:=[(0,.tmp 38)]) (cells:=[vi p1]) (xs:=([p1]:List Int)) R R R R R R Y22 Tryzinfo2 R R R R R R R R R R ⟨[vi p1],[],Zl K33 w29 [],Zl K33 w29 [],R,Zl.sp (l1:=[]) (l2:=[]) R,Zl.sr (l1:=[]) (l2:=[]),R,R⟩ fun ac af w38 K39 S40 f41=>⟨tv,Ob h fun x40 hx40 h=>Jm1 (κ:=K39) (E:=E6) 5 [] R R R R R R R R R Y22 Tryzinfo2 R R R R ((f32.mx (no_int _) m35 R (R:3+2=5)).stp S40 R R) (Sl.srcP (pu_int _) f41.rdc) sy_false hx40 R fun ah ae w43 K44 S45 f46=>⟨tv,Jb 1 R (Je [2,2,2,2,1,2] R (Jn 3 R (Ob h fun x44 hx44 h=>Jf R (rn_slice (k1:= .i64) (k2:= .i64) U22 Z2 (.inr ⟨_,R,R⟩) (.inl ⟨R,R⟩) hx44 f28.rdc.1 R R R) (Ob h fun x45 hx45 h=>Jm1 (κ:=K44) (E:=E6) 5 [] R R R R R R R R R Y22 Tryzinfo2 R R R R f46 (Sl.srcP (pu_int _) ((f28.stp (S34.tr (S40.tr S45)) R R).rdc.sub hx44)) sy_false hx45 R fun aa ab w49 K50 S51 f52=>⟨tv,Jb 1 R (Ju (Ja2 (l:=[.tmp 4]) V78 (Jp2 R R) R ?_))⟩))))⟩⟩)⟩
 cases h
 exact⟨(fun b=>ren [(5,3)] (K50 b)),aa,ab,R,((hE.stp (S6.tr (S23.tr (S34.tr (S40.tr (S45.tr S51))))) R R).map (ren [(5,3)]) R R),(f52.map (ren [(5,3)]) R R)⟩
 refine JT fun h=>Jx R (Je [2,2] R (Jb 2 R (Ju (Jw (Ja2 (l:=[.tmp 4]) V78 (Jp2 R R) R ?_)))))
 cases h
 exact⟨(fun b=>ren [(2,3)] (K22 b)),a0,u0,R,((hE.stp (S6.tr S23) R R).map (ren [(2,3)]) R R),((g0.stp (S6.tr S23) R R).map (ren [(2,3)]) R R)⟩
theorem i_copyArena_ok {w:World}{κ:Col}{af ac ad ae}{p0:Arena}(g0_0:Rd (Rp.int .i64) κ w 0 af ac p0.Owner) (g0_1:Rd (Rp.sl (Rp.int .i64)) κ w 0 ad ae p0.Next){r:Arena}(h:i_copyArena p0=some r):Ret Tryz.prog 112 [.agg #[.slice af p0.Owner.length ac,.slice ad p0.Next.length ae]] w (fun v w'=>∃(κ':Col) (ra0:Option Addr) (ru0:Nat) (ra1:Option Addr) (ru1:Nat),v= .agg #[.slice ra0 r.Owner.length ru0,.slice ra1 r.Next.length ru1]∧Ent κ w κ' w'∧Oc E6 2 κ' w' 2 ra0 ru0 r.Owner∧Oc (Ep.own E6 2) 22 κ' w' 3 ra1 ru1 r.Next):=by
 unfold i_copyArena at h
 refine Ret.enter F112 R N112 R ?_
 dsimp only[envOf]
 have hE:=Ent.refl κ w
 refine Je [1,1] R (Jf1 (κ:=κ) 2 R R R R R R R fun b1 w1 K2 S3 f4=>⟨tv,Jg1 (κ:=K2) 3 R R R R R X37 R fun b2 w5 K6 S7 f8=>⟨tv,Jd (Jq (Js1 (κ:=K6) [2] none [(1,2),(4,2),(2,0),(5,0),(0,1),(3,1),(6,1),(7,2),(8,1)] [] (by kernel_rfl) (by kernel_rfl) fun w10 S9=>Jf R (Jb2 U37 R Z22 R R) (Jf R (Jb2 U37 R Z23 R R) ?_)))⟩⟩)
 have f11:=f4.stp (S7.tr S9) R R
 refine Jg R (Jc2 I22 R R (hvC (f11.ld 0 R R) R)) (Jg R (Jc2 I23 R R (hvC (f11.ld 1 R R) R)) (Jo1 (κ:=K6) (E:=E6) 4 R R R R R Y22 Tryzinfo2 R fun a3 u3 w12 K13 S14 f15=>⟨(S14.cl R),Ob h fun x6 hx6 h=>Jm1 (κ:=K13) (E:=E6) 4 [] R R R R R R R R R Y22 Tryzinfo2 R R R R f15 (Sl.srcP (pu_int _) (g0_0.stp (S3.tr (S7.tr (S9.tr S14))) R R)) sy_false hx6 R fun a6 u6 w17 K18 S19 f20=>⟨((S14.tr S19).cl R),Ob h fun x9 hx9 h=>Jh R R R C140 (i_copyLists_ok (κ:=fun b=>mp [] 0 (K18 b)) (Jl2 (g0_1.stp (S3.tr (S7.tr (S9.tr (S14.tr S19)))) R R) (mp [] 0) R R) hx9) ?_⟩⟩))
 rintro _ w22 ⟨k23,ab,aa,rfl,e24,f25⟩
 obtain⟨K26,S27,m28⟩:=Ji e24 5 R
 refine⟨((S14.tr (S19.tr S27)).cl R),Jf R (rn_build (parts:=[(0,.tmp 6),(1,.tmp 9)]) (cells:=[.slice a6 x6.length u6,.slice ab x9.length aa]) R R (by kernel_rfl)) (Jj1 (κ:=K26) 3 (vc:=[.slice a6 x6.length u6,.slice ab x9.length aa]) R R R R R R R Z37 R R (f8.stp (S9.tr (S14.tr (S19.tr S27))) R R) R fun w32 S33 f34=>⟨((S14.tr (S19.tr (S27.tr S33))).cl R),Jt1 (Jd (Ju (Ja2 (l:=[.cell 2 37]) V112 (res_cellA R f34 I37 Z37 R R) R ?_)))⟩)⟩
 cases h
 exact⟨(fun b=>ren [(4,2),(7,3)] (K26 b)),a6,u6,ab,aa,R,((hE.stp (S3.tr (S7.tr (S9.tr (S14.tr (S19.tr (S27.tr S33)))))) R R).map (ren [(4,2),(7,3)]) R R),((f20.stp (S27.tr S33) R R).map (ren [(4,2),(7,3)]) R R),(((f25.mx (no_own (no_int _) _) m28 R (R:5+2=7)).stp S33 R R).map (ren [(4,2),(7,3)]) R R)⟩
theorem cmp_Less_int64_ok {w:World}{κ:Col}{p0:Int}{p1:Int}  {r:Bool}(h:cmp_Less_int64 p0 p1=some r):Ret Tryz.prog 145 [vi p0,vi p1] w (fun v w'=>∃(κ':Col),v= .bool r∧Ent κ w κ' w'):=by
 unfold cmp_Less_int64 at h
 refine Ret.enter F145 R N145 R ?_
 dsimp only[envOf]
 have hE:=Ent.refl κ w
 refine Je [2] R (Jb 1 R (Je [2,1,2,2,1,2,2,2,2,2,2,2,2] R (Jn 1 R (Ob h fun x6 hx6 h=>Jh R R R C169 (cmp_isNaN_int64_ok (κ:=fun b=>mp [] 0 (κ b)) hx6) ?_))))
 rintro _ w1 ⟨k2,rfl,e3⟩
 obtain⟨K4,S5,m6⟩:=Ji e3 2 R
 refine⟨tv,Jn 1 R (Ob h fun p11 h hK8=>Ju1 [(3,2),(4,1),(5,2),(6,2)] [(7,2),(8,2),(9,2),(10,2),(11,2),(12,2)] (fun L w'=>L=[(0,vi p0),(1,vi p1),(4,.bool false),(11,.bool p11)]∧∃κ',Stp [] K4 w1 κ' w') tv ?_ ?_)⟩
 revert h
 cases ht9:x6
 refine JF fun h=>Jn 1 R (Jd1 R R R R (Jn 2 R ?_))
 cases h
 exact Jv1 _ tv ⟨R,_,(Jx2 _ _).wk R⟩ (KM R)
 refine JT fun h=>Jn 1 R (Ob h fun x9 hx9 h=>Jh R R R C169 (cmp_isNaN_int64_ok (κ:=fun b=>mp [] 0 (K4 b)) hx9) ?_)
 rintro _ w10 ⟨k11,rfl,e12⟩
 obtain⟨K13,S14,m15⟩:=Ji e12 4 R
 refine⟨tv,Jn 2 R ?_⟩
 cases h
 exact Jv1 _ tv ⟨R,_,S14.wk R⟩ (KM R)
 rintro _ w17 _ ⟨rfl,K18,S19⟩
 have h:=hK8
 refine Jn 1 R (Ob h fun p16 h hK20=>Ju1 [(8,2),(9,2),(10,2),(11,2)] [(12,2)] (fun L w'=>L=[(4,.bool false),(16,.bool p16)]∧∃κ',Stp [] K18 w17 κ' w') tv ?_ ?_)
 revert h
 cases ht21:p11
 refine JF fun h=>Jn 4 R ?_
 cases h
 exact Jv1 _ tv ⟨R,_,(Jx2 _ _).wk R⟩ (KM R)
 refine JT fun h=>Jn 4 R ?_
 cases h
 exact Jv1 _ tv ⟨R,_,(Jx2 _ _).wk R⟩ (KM R)
 rintro _ w22 _ ⟨rfl,K23,S24⟩
 have h:=hK20
 refine Jb 1 R (Ju (Ja2 (l:=[.tmp 4]) V145 (Jp2 R R) R ?_))
 cases h
 exact⟨K23,R,(hE.stp (S5.tr (S19.tr S24)) R R)⟩
theorem i_solver_pull_ok {w:World}{κ:Col}{ay au ap ar aq av aw ao}{p0:solver}{p1:Int}{a2 u2}{p2:(List Bool)}{a3 u3}{p3:(List Bool)}{b0}(g0_0_0_0:Rd (Rp.int .i64) κ w 0 ay au p0.game.Arena.Owner) (g0_0_0_1:Rd (Rp.sl (Rp.int .i64)) κ w 0 ap ar p0.game.Arena.Next) (g0_0_1:Rd (Rp.int .i64) κ w 0 aq av p0.game.Prio) (g0_1:Rd (Rp.sl (Rp.int .i64)) κ w 0 aw ao p0.preds) (g2:Rd Rp.bool κ w 0 a2 u2 p2) (g3:Rd Rp.bool κ w 0 a3 u3 p3) (gb0:Bc κ w 0 b0 136 [.slice ay p0.game.Arena.Owner.length au,.slice ap p0.game.Arena.Next.length ar,.slice aq p0.game.Prio.length av,.slice aw p0.preds.length ao]){r:(List Bool)}(h:i_solver_pull p0 p1 p2 p3=some r):Ret Tryz.prog 153 [.pointer (some ⟨b0,0,none⟩),vi p1,.slice a2 p2.length u2,.slice a3 p3.length u3] w (fun v w'=>∃(κ':Col) (ra0:Option Addr) (ru0:Nat),v= .slice ra0 r.length ru0∧Ent κ w κ' w'∧Oc Ep.bool 4 κ' w' 2 ra0 ru0 r):=by
 unfold i_solver_pull at h
 refine Ret.enter F153 R N153 R ?_
 dsimp only[envOf]
 have hE:=Ent.refl κ w
 refine Je [2] R (Jb 1 R (Je [1,2,1,2] R (Jo1 (κ:=κ) (E:=Ep.bool) 2 R R R R R Y70 Tryzinfo4 R fun aE aD w1 K2 S3 f4=>⟨tv,Jn 1 R (Ob h fun x19 hx19 h=>?_)⟩)))
 have f5:=g3.stp S3 R R
 refine Jm1 (κ:=K2) (E:=Ep.bool) 2 [] R R R R R R R R R Y70 Tryzinfo4 R R R R f4 (Sl.srcP pu_bool f5) sy_false hx19 R fun ad ac w6 K7 S8 f9=>⟨tv,Jb 1 R (Je [2,2,1,2] R (Jn 1 R (Jf R (Je2 U70 R R) (Ob h fun x22 hx22 h=>Jl1 (κ:=K7) (E:=E6) (z:=(0:Int)) 3 R R R R R R R Y168 Tryzinfo3 R R R R R (fun _ _ _=>R) (Ju2 hx22) fun ab aa w10 K11 S12 f13=>⟨tv,Jb 1 R (Je [2,1,2] R (Jn 1 R (Ob h fun x24 hx24 h=>Jh R R R C60 (i_listOf_ok (κ:=fun b=>mp [] 0 (K11 b)) (Jl2 (f5.stp (S8.tr S12) R R) (mp [] 0) R R) hx24) ?_)))⟩))))⟩
 rintro _ w15 ⟨k16,aC,aB,rfl,e17,f18⟩
 obtain⟨K19,S20,m21⟩:=Ji e17 4 R
 refine⟨tv,Jb 1 R (Jq (Ob h fun q2 hq26 hK25=>?_))⟩
 clear h
 refine Jx1 (fun L w'=>∃κ',∃s3:(List Int)×(List Bool)×(List Int),∃ax an,L=[(0,.pointer (some ⟨b0,0,none⟩)),(9,.slice ad x19.length ac)]∧Stp [2,3,6] K19 w15 κ' w'∧Oc E6 2 κ' w' 6 ax an s3.1∧Oc Ep.bool 4 κ' w' 2 ad ac s3.2.1∧x19.length=s3.2.1.length∧Oc E6 3 κ' w' 3 ab aa s3.2.2∧x22.length=s3.2.2.length∧q2=Sum.inr s3) ?_ ?_
 refine Jv (Jy1 (fun k L w'=>∃κ',∃s1:(List Int)×(List Bool)×(List Int),∃ai ah,L=[(0,.pointer (some ⟨b0,0,none⟩)),(1,vi p1),(2,.slice a2 p2.length u2),(9,.slice ad x19.length ac),(10,.slice ab x22.length aa),(11,.slice ai s1.1.length ah)]∧Stp [2,3,6] K19 w15 κ' w'∧Oc E6 2 κ' w' 6 ai ah s1.1∧Oc Ep.bool 4 κ' w' 2 ad ac s1.2.1∧x19.length=s1.2.1.length∧Oc E6 3 κ' w' 3 ab aa s1.2.2∧x22.length=s1.2.2.length∧whileM (i_solver_pull_b0 p0 p1 p2) k s1=some q2) ⟨_,_,⟨K19,((x24:(List Int)),(x19:(List Bool)),(x22:(List Int))),aC,aB,R,(Jx2 _ _).wk R,(f18.mx (no_int _) m21 R (R:4+2=6)),(f9.stp (S12.tr S20) R R),R,(f13.stp S20 R R),R,hq26⟩,(KM R)⟩ ?_)
 rintro k _ w35 ⟨K36,s1,ai,ah,rfl,S37,f38,f39,hn40,f41,hn42,h⟩
 rcases k with _ | k
 cases h
 obtain⟨o24,h,hk45⟩:=BI h;unfold i_solver_pull_b0 at h
 refine Jq (Je [2,2,2] R (Jn 1 R (Jf R (Je2 U22 R R) (Jb 1 R ?_))))
 revert h
 cases ht46:decide (0<(s1.1.length:Int))
 refine JF fun h=>Jy R (Jc1 (Jt (Jt ?_)))
 cases h
 have h:=hk45
 refine Jb1 ?_
 cases h
 exact Jw1 _ ⟨K36,((s1.1:(List Int)),(s1.2.1:(List Bool)),(s1.2.2:(List Int))),ai,ah,R,S37.wk R,f38,f39,hn40,f41,hn42,R⟩ (KM R)
 refine JT fun h=>Jx R (Js (Jp (Jv (Je [2,2,1,2] R (Jn 1 R (Ob h fun x29 hx29 h=>Jf R (Jf2 f38.rdc hx29 U22 Z2 R R R R) (Jl tv R R R R (Jc2 I2 R R (hvE (f38.rdc.gInt hx29))) (Jb 1 R (Je [2,2,2] R (Jn 1 R (Ob h fun x32 hx32 h=>Jf R (rn_slice (k1:= .i64) (k2:= .i64) U22 Z2 (.inr ⟨_,R,R⟩) (.inl ⟨R,R⟩) hx32 f38.rdc.1 R R R) (Jb 1 R (Je [2,2,2,1,2,2,1,2,2] R (Jn 1 R (Jf R (rn_nilCheck R R) (Jf R (Jb2 U136 R Z23 R R) ?_))))))))))))))))
 have f48:=gb0.stp (S3.tr (S8.tr (S12.tr (S20.tr S37)))) R R
 refine Jl tv R R R R (Jc2 I23 R R (hvE (f48.ld 3 R R))) (Jn 1 R (Ob h fun x38 hx38 h=>Jf R (Jf2 g0_1 hx38 U23 Z22 R R R R) ?_))
 obtain⟨ax38,ux38,f50,hl51⟩:=(g0_1.stp (S3.tr (S8.tr (S12.tr (S20.tr S37)))) R R).gSl hx38
 refine Jl tv R R R R (Jc2 I22 R R (hvE hl51)) (Jf R (Je2 U22 R R) (Jb 1 R ?_))
 have hN52:(x38.length:Int)≤9223372036854775807:=f50.len_le
 refine Ob h fun q5 hq54 hK53=>?_
 clear h
 refine Jx1 (fun L w'=>∃κ',∃s6:(List Int)×(List Bool)×(List Int),∃aj ak,L=[(0,.pointer (some ⟨b0,0,none⟩)),(1,vi p1),(2,.slice a2 p2.length u2),(9,.slice ad x19.length ac),(10,.slice ab x22.length aa),(11,.slice aj s6.1.length ak)]∧Stp [2,3,6] K36 w35 κ' w'∧Oc E6 2 κ' w' 6 aj ak s6.1∧Oc Ep.bool 4 κ' w' 2 ad ac s6.2.1∧x19.length=s6.2.1.length∧Oc E6 3 κ' w' 3 ab aa s6.2.2∧x22.length=s6.2.2.length∧q5=Sum.inr s6) ?_ ?_
 refine Jv (Jy1 (fun k L w'=>∃κ' v41,∃s4:(List Int)×(List Bool)×(List Int),∃af ae,L=[(0,.pointer (some ⟨b0,0,none⟩)),(1,vi p1),(2,.slice a2 p2.length u2),(9,.slice ad x19.length ac),(10,.slice ab x22.length aa),(11,.slice af s4.1.length ae),(39,.slice ax38 x38.length ux38),(40,vi (x38.length:Int)),(41,vi v41)]∧Stp [2,3,6] K36 w35 κ' w'∧Oc E6 2 κ' w' 6 af ae s4.1∧Oc Ep.bool 4 κ' w' 2 ad ac s4.2.1∧x19.length=s4.2.1.length∧Oc E6 3 κ' w' 3 ab aa s4.2.2∧x22.length=s4.2.2.length∧0≤v41∧Int.toNat ((x38.length:Int)-v41)=k∧cntM (i_solver_pull_b2 p0 p1 p2 x38) k v41 s4=some q5) ⟨_,_,⟨K36,0,((x32:(List Int)),(s1.2.1:(List Bool)),(s1.2.2:(List Int))),(subA ai ah (1:Int).toNat 1),(ah-(1:Int).toNat),R,(Jx2 _ _).wk R,(f38.sub hx32),f39,hn40,f41,hn42,(by decide),(by simp),hq54⟩,(KM R)⟩ ?_)
 rintro k _ w63 ⟨K64,v41,s4,af,ae,rfl,S65,f66,f67,hn68,f69,hn70,hj52,hJ52,h⟩
 rcases k with _ | k
 have hk71:=h;obtain⟨o52,h⟩:=ex_eq (Sum.inr (Sum.inl s4):(List Bool)⊕(((List Int)×(List Bool)×(List Int))⊕((List Int)×(List Bool)×(List Int))))
 have hc52:decide (v41<(x38.length:Int))=false:=Jo2 (by omega)
 refine Je [2] R (Jb 1 R (Jq (Jw2 R hc52 (Jc1 (Jt (Jt ?_))))))
 cases h
 have h:=hk71
 refine Jb1 ?_
 cases h
 exact Jw1 _ ⟨K64,((s4.1:(List Int)),(s4.2.1:(List Bool)),(s4.2.2:(List Int))),af,ae,R,S65.wk R,f66,f67,hn68,f69,hn70,R⟩ (KM R)
 obtain⟨o52,h,hk71⟩:=BI h;unfold i_solver_pull_b2 at h
 have hc52:decide (v41<(x38.length:Int))=true:=Jn2 (by omega)
 refine Je [2] R (Jb 1 R (Jq (Jv2 R hc52 (Js (Jp (Jq (Jv (Je [2,1,2] R (Ob h fun x43 hx43 h=>Jf R (Jf2 f50 hx43 U22 Z2 R R R R) (Jl tv R R R R (Jc2 I2 R R (hvE ((f50.stp S65 R R).gInt hx43))) (Jb 1 R (Jq (Je [2,2,2,1,2,2,2,2,1,2,2] R (Jn 2 R (Ob h fun x47 hx47 h=>Jf R (Jf2 f67.rdc hx47 U70 Z4 R R hn68 R) (Jl tv R R R R (Jc2 I4 R R (hvE (f67.rdc.gBool hx47))) (Jn 1 R (Ob h fun p55 h hK73=>Ju1 [(5,2),(6,2),(7,2),(8,1),(9,2),(10,2)] [] (fun L w'=>L=[(0,.pointer (some ⟨b0,0,none⟩)),(1,vi p1),(2,.slice a2 p2.length u2),(9,.slice ad x19.length ac),(10,.slice ab x22.length aa),(11,.slice af s4.1.length ae),(14,vi x43),(39,.slice ax38 x38.length ux38),(40,vi (x38.length:Int)),(41,vi v41),(55,.bool p55)]∧∃κ',Stp [] K64 w63 κ' w') tv ?_ ?_))))))))))))))))))
 revert h
 cases ht74:x47
 refine JF fun h=>Jn 2 R (Ob h fun x52 hx52 h=>Jf R (Jf2 g2 hx52 U70 Z4 R R R R) (Jl tv R R R R (Jc2 I4 R R (hvE ((g2.stp (S3.tr (S8.tr (S12.tr (S20.tr (S37.tr S65))))) R R).gBool hx52))) (Jn 2 R ?_)))
 cases h
 exact Jv1 _ tv ⟨R,_,(Jx2 _ _).wk R⟩ (KM R)
 refine JT fun h=>Jn 3 R (Jd1 R R R R (Jn 2 R ?_))
 cases h
 exact Jv1 _ tv ⟨R,_,(Jx2 _ _).wk R⟩ (KM R)
 rintro _ w76 _ ⟨rfl,K77,S78⟩
 have h:=hK73
 refine Jd ?_
 revert h
 cases ht79:p55
 refine JF fun h=>Jy R (Js (Jp (Jq (Je [2,2,2,2,2,1,2,2,1,2,2] R (Jn 1 R (Jf R (rn_nilCheck R R) (Jf R (Jb2 U136 R Z39 R R) (Jf R (Jb2 U39 R Z37 R R) (Jf R (Jb2 U37 R Z22 R R) ?_)))))))))
 have f83:=f48.stp (S65.tr S78) R R
 refine Jl tv R R R R (Jc2 I22 R R (hvE (f83.ld 0 R R))) (Jn 1 R (Ob h fun x63 hx63 h=>Jf R (Jf2 g0_0_0_0 hx63 U22 Z2 R R R R) (Jl tv R R R R (Jc2 I2 R R (hvE ((g0_0_0_0.stp (S3.tr (S8.tr (S12.tr (S20.tr (S37.tr (S65.tr S78)))))) R R).gInt hx63))) (Jb 2 R ?_))))
 revert h
 cases ht85:(x63 !=p1)
 refine JF fun h=>Jy R (Js (Jp (Je [2,2,2,1] R (Jn 2 R (Ob h fun x110 hx110 h=>Jf R (Jf2 f67.rdc hx110 U70 Z4 R R hn68 R) (Ob h fun y299 hy299 h=>Jk1 (κ:=K77) (E:=Ep.bool) 2 [] R R R R R R R R Z4 R R R R (f67.stp S78 R R) hy299 fun w151 K152 S153 f154=>⟨tv,?_⟩))))))
 have hn155:x19.length=y299.length:=hn68.trans (Jt2 hy299).2.2.2.symm
 refine Jd (Ja [2,2,1,1,2] R (Jn 2 R (Jn1 (κ:=K152) (E:=E6) 7 [] (parts:=[(0,.tmp 112)]) (cells:=[vi x43]) (xs:=([x43]:List Int)) R R R R R R Y22 Tryzinfo2 R R R R R R R R R R ⟨[vi x43],[],Zl K152 w151 [],Zl K152 w151 [],R,Zl.sp (l1:=[]) (l2:=[]) R,Zl.sr (l1:=[]) (l2:=[]),R,R⟩ fun aA az w156 K157 S158 f159=>⟨tv,Ob h fun x114 hx114 h=>Jm1 (κ:=K157) (E:=E6) 6 [] R R R R R R R R R Y22 Tryzinfo2 R R R R (f66.stp (S78.tr (S153.tr S158)) R R) (Sl.srcP (pu_int _) f159.rdc) sy_false hx114 R fun al am w161 K162 S163 f164=>⟨tv,Jc 1 R (Jz (Jp (Ja [2,2] R (Jc 2 R ?_))))⟩⟩)))
 have hw52:IntKind.wrap .i64 (v41+1)=v41+1:=wr1 hj52 (Jm2 hc52) hN52
 rw[hw52]
 have hc52:=Jm2 hc52
 cases h
 exact Jz1 fun a ha=>⟨k,_,Ja3 _,⟨K162,v41+1,((x114:(List Int)),(y299:(List Bool)),(s4.2.2:(List Int))),al,am,R,(S65.tr (S78.tr (S153.tr (S158.tr S163)))).wk R,f164,(f154.stp (S158.tr S163) R R),hn155,(f69.stp (S78.tr (S153.tr (S158.tr S163))) R R),hn70,by omega,by omega,hk71⟩,(ha.mm R)⟩
 refine JT fun h=>Jx R (Jq (Je [2,2,2,1,2] R (Jn 2 R (Ob h fun x69 hx69 h=>Jf R (Jf2 f69.rdc hx69 U168 Z3 R R hn70 R) ?_))))
 have f86:=f69.stp S78 R R
 refine Jl tv R R R R (Jc2 I3 R R (hvE (f86.rdc.gInt hx69))) (Jb 1 R (Ob h fun q7 h hK87=>Jx1 (fun L w'=>∃κ',L=[(0,.pointer (some ⟨b0,0,none⟩)),(1,vi p1),(2,.slice a2 p2.length u2),(9,.slice ad x19.length ac),(10,.slice ab x22.length aa),(11,.slice af s4.1.length ae),(14,vi x43),(39,.slice ax38 x38.length ux38),(40,vi (x38.length:Int)),(41,vi v41)]∧Stp [3] K77 w76 κ' w'∧Oc E6 3 κ' w' 3 ab aa q7∧x22.length=q7.length) ?_ ?_))
 revert h
 cases ht93:(x69==0)
 refine JF fun h=>Jy R (Js ?_)
 cases h
 exact Jw1 _ ⟨K77,R,(Jx2 _ _).wk R,f86,hn70⟩ (KM R)
 refine JT fun h=>Jx R (Je [2,2,2,2,2,1,2,2,1,2,2] R (Jn 1 R (Jf R (rn_nilCheck R R) (Jf R (Jb2 U136 R Z39 R R) (Jf R (Jb2 U39 R Z37 R R) (Jf R (Jb2 U37 R Z23 R R) (Jl tv R R R R (Jc2 I23 R R (hvE (f83.ld 1 R R))) (Jn 1 R (Ob h fun x79 hx79 h=>Jf R (Jf2 g0_0_0_1 hx79 U23 Z22 R R R R) ?_)))))))))
 obtain⟨ax79,ux79,f95,hl96⟩:=(g0_0_0_1.stp (S3.tr (S8.tr (S12.tr (S20.tr (S37.tr (S65.tr S78)))))) R R).gSl hx79
 refine Jl tv R R R R (Jc2 I22 R R (hvE hl96)) (Jf R (Je2 U22 R R) (Jb 1 R ?_))
 have hN97:(x79.length:Int)≤9223372036854775807:=f95.len_le
 refine Ob h fun q9 hq99 hK98=>?_
 clear h
 refine Jx1 (fun L w'=>∃κ',∃s10:(List Int),L=[(0,.pointer (some ⟨b0,0,none⟩)),(1,vi p1),(2,.slice a2 p2.length u2),(9,.slice ad x19.length ac),(10,.slice ab x22.length aa),(11,.slice af s4.1.length ae),(14,vi x43),(39,.slice ax38 x38.length ux38),(40,vi (x38.length:Int)),(41,vi v41)]∧Stp [3] K77 w76 κ' w'∧Oc E6 3 κ' w' 3 ab aa s10∧x22.length=s10.length∧q9=Sum.inr s10) ?_ ?_
 refine Jv (Jy1 (fun k L w'=>∃κ' v82,∃s8:(List Int),L=[(0,.pointer (some ⟨b0,0,none⟩)),(1,vi p1),(2,.slice a2 p2.length u2),(9,.slice ad x19.length ac),(10,.slice ab x22.length aa),(11,.slice af s4.1.length ae),(14,vi x43),(39,.slice ax38 x38.length ux38),(40,vi (x38.length:Int)),(41,vi v41),(80,.slice ax79 x79.length ux79),(81,vi (x79.length:Int)),(82,vi v82)]∧Stp [3] K77 w76 κ' w'∧Oc E6 3 κ' w' 3 ab aa s8∧x22.length=s8.length∧0≤v82∧Int.toNat ((x79.length:Int)-v82)=k∧cntM (i_solver_pull_b4 p2 x43 x79) k v82 s8=some q9) ⟨_,_,⟨K77,0,(s4.2.2:(List Int)),R,(Jx2 _ _).wk R,f86,hn70,(by decide),(by simp),hq99⟩,(KM R)⟩ ?_)
 rintro k _ w105 ⟨K106,v82,s8,rfl,S107,f108,hn109,hj97,hJ97,h⟩
 rcases k with _ | k
 have hk110:=h;obtain⟨o97,h⟩:=ex_eq (Sum.inr (Sum.inl s8):(List Bool)⊕(((List Int))⊕((List Int))))
 have hc97:decide (v82<(x79.length:Int))=false:=Jo2 (by omega)
 refine Je [2] R (Jb 1 R (Jq (Jw2 R hc97 (Jc1 (Jt (Jt ?_))))))
 cases h
 have h:=hk110
 refine Jb1 ?_
 cases h
 exact Jw1 _ ⟨K106,(s8:(List Int)),R,S107.wk R,f108,hn109,R⟩ (KM R)
 obtain⟨o97,h,hk110⟩:=BI h;unfold i_solver_pull_b4 at h
 have hc97:decide (v82<(x79.length:Int))=true:=Jn2 (by omega)
 refine Je [2] R (Jb 1 R (Jq (Jv2 R hc97 (Js (Jp (Jq (Jv (Je [2,1,2] R (Ob h fun x84 hx84 h=>Jf R (Jf2 f95 hx84 U22 Z2 R R R R) (Jl tv R R R R (Jc2 I2 R R (hvE ((f95.stp S107 R R).gInt hx84))) (Jb 1 R (Je [2,2,2,1] R (Jn 2 R (Ob h fun x88 hx88 h=>Jf R (Jf2 g2 hx88 U70 Z4 R R R R) (Jl tv R R R R (Jc2 I4 R R (hvE ((g2.stp (S3.tr (S8.tr (S12.tr (S20.tr (S37.tr (S65.tr (S78.tr S107))))))) R R).gBool hx88))) (Jd (Ob h fun q11 h hK113=>Jx1 (fun L w'=>∃κ',L=[(0,.pointer (some ⟨b0,0,none⟩)),(1,vi p1),(2,.slice a2 p2.length u2),(9,.slice ad x19.length ac),(10,.slice ab x22.length aa),(11,.slice af s4.1.length ae),(14,vi x43),(39,.slice ax38 x38.length ux38),(40,vi (x38.length:Int)),(41,vi v41),(80,.slice ax79 x79.length ux79),(81,vi (x79.length:Int)),(82,vi v82)]∧Stp [3] K106 w105 κ' w'∧Oc E6 3 κ' w' 3 ab aa q11∧x22.length=q11.length) ?_ ?_)))))))))))))))))
 revert h
 cases ht119:x88
 refine JF fun h=>Jy R (Js ?_)
 cases h
 exact Jw1 _ ⟨K106,R,(Jx2 _ _).wk R,f108,hn109⟩ (KM R)
 refine JT fun h=>Jx R (Ja [2,2,2,1,2,2,1] R (Jn 2 R (Ob h fun x92 hx92 h=>Jf R (Jf2 f108.rdc hx92 U168 Z3 R R hn109 R) (Jl tv R R R R (Jc2 I3 R R (hvE (f108.rdc.gInt hx92))) (Jn 1 R (Ob h fun x95 hx95 h=>Jf R (Jf2 f108.rdc hx95 U168 Z3 R R hn109 R) (Ob h fun y297 hy297 h=>Jk1 (κ:=K106) (E:=E6) 3 [] R R R R R R R R Z3 R R R R f108 hy297 fun w120 K121 S122 f123=>⟨tv,?_⟩)))))))
 have hn124:x22.length=y297.length:=hn109.trans (Jt2 hy297).2.2.2.symm
 refine Jo ?_
 cases h
 exact Jw1 _ ⟨K121,R,S122.wk R,f123,hn124⟩ (KM R)
 rintro _ w114 ⟨K115,rfl,S116,f117,hn118⟩
 have h:=hK113
 refine Jz (Jp (Ja [2,2] R (Jc 2 R ?_)))
 have hw97:IntKind.wrap .i64 (v82+1)=v82+1:=wr1 hj97 (Jm2 hc97) hN97
 rw[hw97]
 have hc97:=Jm2 hc97
 cases h
 exact Jz1 fun a ha=>⟨k,_,Ja3 _,⟨K115,v82+1,(q11:(List Int)),R,(S107.tr S116).wk R,f117,hn118,by omega,by omega,hk110⟩,(ha.mm R)⟩
 rintro _ w100 ⟨K101,s10,rfl,S102,f103,hn104,rfl⟩
 have h:=hK98
 dsimp only[aft]at h
 cases h
 exact Jw1 _ ⟨K101,R,S102.wk R,f103,hn104⟩ (KM R)
 rintro _ w88 ⟨K89,rfl,S90,f91,hn92⟩
 have h:=hK87
 refine Jp (Je [2,2,2,1,2,2,1] R (Jn 2 R (Ob h fun x99 hx99 h=>Jf R (Jf2 f91.rdc hx99 U168 Z3 R R hn92 R) (Jl tv R R R R (Jc2 I3 R R (hvE (f91.rdc.gInt hx99))) (Jn 1 R (Ob h fun x102 hx102 h=>Jf R (Jf2 f91.rdc hx102 U168 Z3 R R hn92 R) (Ob h fun y298 hy298 h=>Jk1 (κ:=K89) (E:=E6) 3 [] R R R R R R R R Z3 R R R R f91 hy298 fun w125 K126 S127 f128=>⟨tv,?_⟩)))))))
 have hn129:x22.length=y298.length:=hn92.trans (Jt2 hy298).2.2.2.symm
 refine Jd (Je [2,2,2,1,2] R (Jn 2 R (Ob h fun x105 hx105 h=>Jf R (Jf2 f128.rdc hx105 U168 Z3 R R hn129 R) (Jl tv R R R R (Jc2 I3 R R (hvE (f128.rdc.gInt hx105))) (Jb 1 R ?_)))))
 revert h
 cases ht130:decide (0<x105)
 refine JF fun h=>Jy R (Js (Jp (Je [2,2,2,1] R (Jn 2 R (Ob h fun x110 hx110 h=>Jf R (Jf2 f67.rdc hx110 U70 Z4 R R hn68 R) (Ob h fun y299 hy299 h=>Jk1 (κ:=K126) (E:=Ep.bool) 2 [] R R R R R R R R Z4 R R R R (f67.stp (S78.tr (S90.tr S127)) R R) hy299 fun w134 K135 S136 f137=>⟨tv,?_⟩))))))
 have hn138:x19.length=y299.length:=hn68.trans (Jt2 hy299).2.2.2.symm
 refine Jd (Ja [2,2,1,1,2] R (Jn 2 R (Jn1 (κ:=K135) (E:=E6) 7 [] (parts:=[(0,.tmp 112)]) (cells:=[vi x43]) (xs:=([x43]:List Int)) R R R R R R Y22 Tryzinfo2 R R R R R R R R R R ⟨[vi x43],[],Zl K135 w134 [],Zl K135 w134 [],R,Zl.sp (l1:=[]) (l2:=[]) R,Zl.sr (l1:=[]) (l2:=[]),R,R⟩ fun aA az w139 K140 S141 f142=>⟨tv,Ob h fun x114 hx114 h=>Jm1 (κ:=K140) (E:=E6) 6 [] R R R R R R R R R Y22 Tryzinfo2 R R R R (f66.stp (S78.tr (S90.tr (S127.tr (S136.tr S141)))) R R) (Sl.srcP (pu_int _) f142.rdc) sy_false hx114 R fun al am w144 K145 S146 f147=>⟨tv,Jc 1 R (Jz (Jp (Ja [2,2] R (Jc 2 R ?_))))⟩⟩)))
 have hw52:IntKind.wrap .i64 (v41+1)=v41+1:=wr1 hj52 (Jm2 hc52) hN52
 rw[hw52]
 have hc52:=Jm2 hc52
 cases h
 exact Jz1 fun a ha=>⟨k,_,Ja3 _,⟨K145,v41+1,((x114:(List Int)),(y299:(List Bool)),(y298:(List Int))),al,am,R,(S65.tr (S78.tr (S90.tr (S127.tr (S136.tr (S141.tr S146)))))).wk R,f147,(f137.stp (S141.tr S146) R R),hn138,(f128.stp (S136.tr (S141.tr S146)) R R),hn129,by omega,by omega,hk71⟩,(ha.mm R)⟩
 refine JT fun h=>Jx R (Jc1 (Jt (Jb1 (Jp (Ja [2,2] R (Jc 2 R ?_))))))
 have hw52:IntKind.wrap .i64 (v41+1)=v41+1:=wr1 hj52 (Jm2 hc52) hN52
 rw[hw52]
 have hc52:=Jm2 hc52
 cases h
 exact Jz1 fun a ha=>⟨k,_,Ja3 _,⟨K126,v41+1,((s4.1:(List Int)),(s4.2.1:(List Bool)),(y298:(List Int))),af,ae,R,(S65.tr (S78.tr (S90.tr S127))).wk R,(f66.stp (S78.tr (S90.tr S127)) R R),(f67.stp (S78.tr (S90.tr S127)) R R),hn68,f128,hn129,by omega,by omega,hk71⟩,(ha.mm R)⟩
 refine JT fun h=>Jx R (Jc1 (Jt (Jb1 (Jp (Ja [2,2] R (Jc 2 R ?_))))))
 have hw52:IntKind.wrap .i64 (v41+1)=v41+1:=wr1 hj52 (Jm2 hc52) hN52
 rw[hw52]
 have hc52:=Jm2 hc52
 cases h
 exact Jz1 fun a ha=>⟨k,_,Ja3 _,⟨K77,v41+1,((s4.1:(List Int)),(s4.2.1:(List Bool)),(s4.2.2:(List Int))),af,ae,R,(S65.tr S78).wk R,(f66.stp S78 R R),(f67.stp S78 R R),hn68,(f69.stp S78 R R),hn70,by omega,by omega,hk71⟩,(ha.mm R)⟩
 rintro _ w55 ⟨K56,s6,aj,ak,rfl,S57,f58,f59,hn60,f61,hn62,rfl⟩
 have h:=hK53
 dsimp only[aft]at h
 refine Jz ?_
 cases h
 exact Jz1 fun a ha=>⟨k,_,Ja3 _,⟨K56,((s6.1:(List Int)),(s6.2.1:(List Bool)),(s6.2.2:(List Int))),aj,ak,R,(S37.tr S57).wk R,f58,f59,hn60,f61,hn62,hk45⟩,(ha.mm R)⟩
 rintro _ w27 ⟨K28,s3,ax,an,rfl,S29,f30,f31,hn32,f33,hn34,rfl⟩
 have h:=hK25
 dsimp only[aft]at h
 refine Jp (Je [2,2] R (Jb 2 R (Ju (Ja2 (l:=[.tmp 8]) V153 (Jp2 R R) R ?_))))
 cases h
 exact⟨K28,ad,ac,(by simp only[hn32]),(hE.stp (S3.tr (S8.tr (S12.tr (S20.tr S29)))) R R),f31⟩
theorem slices_Contains_bool_bool_ok {w:World}{κ:Col}{a0 u0}{p0:(List Bool)}{p1:Bool}(g0:Rd Rp.bool κ w 0 a0 u0 p0){r:Bool}(h:slices_Contains_bool_bool p0 p1=some r):Ret Tryz.prog 154 [.slice a0 p0.length u0,.bool p1] w (fun v w'=>∃(κ':Col),v= .bool r∧Ent κ w κ' w'):=by
 unfold slices_Contains_bool_bool at h
 refine Ret.enter F154 R N154 R ?_
 dsimp only[envOf]
 have hE:=Ent.refl κ w
 refine Je [2] R (Jb 1 R (Je [2,2,1,2,2] R (Jn 2 R (Ob h fun x7 hx7 h=>Jh R R R C174 (slices_Index_bool_bool_ok (κ:=fun b=>mp [] 0 (κ b)) (Jl2 g0 (mp [] 0) R R) hx7) ?_))))
 rintro _ w1 ⟨k2,rfl,e3⟩
 obtain⟨K4,S5,m6⟩:=Ji e3 2 R
 refine⟨tv,Jb 2 R (Ju (Ja2 (l:=[.tmp 4]) V154 (Jp2 R R) R ?_))⟩
 cases h
 exact⟨K4,R,(hE.stp S5 R R)⟩
theorem s_l5Plan_ok {w:World}{κ:Col}{aa ab ac ad}{p0:Arena}{p1:Int}{a2 u2}{p2:(List Int)}(g0_0:Rd (Rp.int .i64) κ w 0 aa ab p0.Owner) (g0_1:Rd (Rp.sl (Rp.int .i64)) κ w 0 ac ad p0.Next) (g2:Rd (Rp.int .i64) κ w 0 a2 u2 p2){r:Bool}(h:s_l5Plan p0 p1 p2=some r):Ret Tryz.prog 158 [.agg #[.slice aa p0.Owner.length ab,.slice ac p0.Next.length ad],vi p1,.slice a2 p2.length u2] w (fun v w'=>∃(κ':Col),v= .bool r∧Ent κ w κ' w'):=by
 unfold s_l5Plan at h
 refine Ret.enter F158 R N158 R ?_
 dsimp only[envOf]
 have hE:=Ent.refl κ w
 refine Je [1,2] R (Jf1 (κ:=κ) 2 R R R R R R R fun b3 w1 K2 S3 f4=>⟨tv,Jb 1 R (Jq (Je [2,2,2,1,2,2] R (Jn 1 R (Jf R (Je2 U22 R R) (Jf R (Jb2 U37 R Z22 R R) (Jl tv R R R R (Jc2 I22 R R (hvE (f4.ld 0 R R))) (Jf R (Je2 U22 R R) (Jb 1 R ?_))))))))⟩)
 revert h
 cases ht5:((p2.length:Int) !=(p0.Owner.length:Int))
 refine JF fun h=>Jy R (Js (Jp (Jq (Je [2] R (Jb 1 R ?_)))))
 have hN7:(p2.length:Int)≤9223372036854775807:=g2.len_le
 refine Ob h fun q2 hq9 hK8=>?_
 clear h
 refine Jx1 (fun L w'=>∃κ',L=[]∧Stp [] K2 w1 κ' w'∧q2=Sum.inr ()) ?_ ?_
 refine Jv (Jy1 (fun k L w'=>∃κ' v7,L=[(1,vi p1),(2,.slice a2 p2.length u2),(3,.pointer (some ⟨b3,0,none⟩)),(7,vi v7)]∧Stp [] K2 w1 κ' w'∧0≤v7∧Int.toNat ((p2.length:Int)-v7)=k∧cntM (s_l5Plan_b0 p0 p1 p2) k v7 ()=some q2) ⟨_,_,⟨K2,0,R,(Jx2 _ _).wk R,(by decide),(by simp),hq9⟩,(KM R)⟩ ?_)
 rintro k _ w13 ⟨K14,v7,rfl,S15,hj7,hJ7,h⟩
 rcases k with _ | k
 have hk16:=h;obtain⟨o7,h⟩:=ex_eq (Sum.inr (Sum.inl ()):Bool⊕((Unit)⊕(Unit)))
 have hc7:decide (v7<(p2.length:Int))=false:=Jo2 (by omega)
 refine Jq (Je [2,2,2,2] R (Jn 2 R (Jf R (Je2 U22 R R) (Jb 1 R (Jw2 R hc7 (Jc1 (Jt (Jt ?_))))))))
 cases h
 have h:=hk16
 refine Jb1 ?_
 cases h
 exact Jw1 _ ⟨K14,R,S15.wk R,R⟩ KN
 obtain⟨o7,h,hk16⟩:=BI h;unfold s_l5Plan_b0 at h
 have hc7:decide (v7<(p2.length:Int))=true:=Jn2 (by omega)
 refine Jq (Je [2,2,2,2] R (Jn 2 R (Jf R (Je2 U22 R R) (Jb 1 R (Jv2 R hc7 (Js (Jp (Jq (Jv (Jq (Js1 (κ:=K14) [0,2] none [(0,2),(1,2),(2,2),(3,0),(4,2),(5,2),(6,2),(8,2),(11,2),(7,0),(9,2),(10,0),(12,2),(13,2),(14,2),(16,2),(19,2),(20,2),(21,2),(15,0),(17,2),(18,0),(22,0),(23,1),(24,2),(25,2),(26,2)] [] (by kernel_rfl) (by kernel_rfl) fun w18 S17=>Jn 2 R (Ob h fun x22 hx22 h=>Jf R (Jf2 g2 hx22 U22 Z2 R R R R) ?_))))))))))))
 have f19:=g2.stp (S3.tr (S15.tr S17)) R R
 refine Jg R (Jc2 I2 R R (hvC (f19.gInt hx22) R)) (Jn 2 R (Ob h fun p46 h hK20=>Ju1 [(6,2),(8,2),(11,2),(7,0),(9,2),(10,0),(12,2),(13,2),(14,2),(16,2),(19,2),(20,2),(21,2),(15,0),(17,2),(18,0),(22,0),(23,1),(24,2),(25,2),(26,2)] [] (fun L w'=>L=[(1,vi p1),(2,.slice a2 p2.length u2),(3,.pointer (some ⟨b3,0,none⟩)),(7,vi v7),(46,.bool p46)]∧∃κ',Stp [] K14 w18 κ' w') (Cl.refl _ _ _) ?_ ?_))
 revert h
 cases ht21:(x22 !=(-1))
 refine JF fun h=>Jn 3 R (Je1 R R R R (Jn 1 R (Je1 R R R R (Jn 7 R (Je1 R R R R (Jn 1 R (Je1 R R R R (Je1 R R R R (Jd1 R R R R (Jn 3 R ?_))))))))))
 cases h
 exact Jv1 _ (Cl.refl _ _ _) ⟨R,_,(Jx2 _ _).wk R⟩ (KM R)
 refine JT fun h=>Jf R (Jb2 U37 R Z22 R R) (Jn 2 R ?_)
 have f22:=f4.stp (S15.tr S17) R R
 refine Jg R (Jc2 I22 R R (hvC (f22.ld 0 R R) R)) (Ob h fun x29 hx29 h=>Jf R (Jf2 g0_0 hx29 U22 Z2 R R R R) (Jg R (Jc2 I2 R R (hvC ((g0_0.stp (S3.tr (S15.tr S17)) R R).gInt hx29) R)) (Jn 2 R (Ob h fun p45 h hK24=>Ju1 [(14,2),(16,2),(19,2),(20,2),(21,2),(15,0),(17,2),(18,0),(22,0),(23,1),(24,2),(25,2)] [(26,2)] (fun L w'=>L=[(1,vi p1),(2,.slice a2 p2.length u2),(3,.pointer (some ⟨b3,0,none⟩)),(7,vi v7),(25,.bool true),(26,.pointer (some ((⟨b3,0,none⟩:Addr).add 0))),(27,.slice aa p0.Owner.length ab),(28,vi v7),(29,.pointer (some (aAt aa (v7.toNat * 1)))),(30,vi x29),(31,vi p1),(32,.bool (x29 !=p1)),(33,.bool (x29 !=p1)),(45,.bool p45)]∧∃κ',Stp [] K14 w18 κ' w') (Cl.refl _ _ _) ?_ ?_))))
 revert h
 cases ht25:(x29 !=p1)
 refine JF fun h=>Jf R (Jb2 U37 R Z23 R R) (Jn 3 R (Ob h fun x41 hx41 h=>Jf R (Jf2 f19 hx41 U22 Z2 R R R R) (Jg R (Jc2 I23 R R (hvC (f22.ld 1 R R) R)) (Ob h fun x37 hx37 h=>Jf R (Jf2 g0_1 hx37 U23 Z22 R R R R) ?_))))
 obtain⟨ax37,ux37,f27,hl28⟩:=(g0_1.stp (S3.tr (S15.tr S17)) R R).gSl hx37
 refine Jg R (Jc2 I22 R R (hvC hl28 R)) (Jg R (Jc2 I2 R R (hvC (f19.gInt hx41) R)) (Ob h fun x43 hx43 h=>Jh R R R C103 (s_l1Has_ok (κ:=fun b=>mp [] 0 (K14 b)) (Jl2 f27 (mp [] 0) R R) hx43) ?_))
 rintro _ w29 ⟨k30,rfl,e31⟩
 obtain⟨K32,S33,m34⟩:=Ji e31 3 R
 refine⟨(S33.cl R),Jn 2 R ?_⟩
 cases h
 exact Jv1 _ (S33.cl R) ⟨R,_,S33.wk R⟩ (KM R)
 refine JT fun h=>Jn 5 R (Je1 R R R R (Jn 1 R (Je1 R R R R (Je1 R R R R (Jd1 R R R R (Jn 2 R ?_))))))
 cases h
 exact Jv1 _ (Cl.refl _ _ _) ⟨R,_,(Jx2 _ _).wk R⟩ (KM R)
 rintro _ w36 _ ⟨rfl,K37,S38⟩
 have h:=hK24
 refine Jn 1 R ?_
 cases h
 exact Jv1 _ (S38.cl R) ⟨R,_,S38.wk R⟩ (KM R)
 rintro _ w39 _ ⟨rfl,K40,S41⟩
 have h:=hK20
 refine Jt1 (Jd ?_)
 revert h
 cases ht42:p46
 refine JF fun h=>Jy R (Js (Jz (Jp (Ja [2,2,2] R (Jc 3 R ?_)))))
 have hw7:IntKind.wrap .i64 (v7+1)=v7+1:=wr1 hj7 (Jm2 hc7) hN7
 rw[hw7]
 have hc7:=Jm2 hc7
 cases h
 exact Jz1 fun a ha=>⟨k,_,Ja3 _,⟨K40,v7+1,R,(S15.tr (S17.tr S41)).wk R,by omega,by omega,hk16⟩,(ha.mm R)⟩
 refine JT fun h=>Jx R (Je [2] R (Jb 1 R (Ju (Ja1 (Jw (Jw ?_))))))
 cases h
 obtain rfl:=Option.some.inj hk16
 have h:=hK8
 dsimp only[aft]at h
 refine Ja1 (Jq2 (Jw (Ja2 (l:=[.tmp 6]) V158 (Jp2 R R) R ?_)))
 cases h
 exact⟨K40,R,(hE.stp (S3.tr (S15.tr (S17.tr S41))) R R)⟩
 rintro _ w10 ⟨K11,rfl,S12,rfl⟩
 have h:=hK8
 dsimp only[aft]at h
 refine Jp (Je [2] R (Jb 1 R (Ju (Ja2 (l:=[.tmp 6]) V158 (Jp2 R R) R ?_))))
 cases h
 exact⟨K11,R,(hE.stp (S3.tr S12) R R)⟩
 refine JT fun h=>Jx R (Je [2] R (Jb 1 R (Ju (Jw (Ja2 (l:=[.tmp 6]) V158 (Jp2 R R) R ?_)))))
 cases h
 exact⟨K2,R,(hE.stp S3 R R)⟩
end Go.Proofs.YtmiilifclnanlaaGreat
