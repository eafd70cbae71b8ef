/- The walks, part 6. By program. -/
import Derived.Test.YtpcjbkgbnoocaaaGreatFns0EI
import Derived.Test.YtpcjbkgbnoocaaaGreatFns1EI
import Derived.Test.YtpcjbkgbnoocaaaGreatFns2EI
import Derived.Test.YtpcjbkgbnoocaaaGreatFns3EI
set_option linter.unusedVariables false
set_option linter.unusedSimpArgs false
open Go.IntKind renaming wrap → t5
open Sum renaming inr → t9
namespace Go.Proofs.YtpcjbkgbnoocaaaGreat
open Go Go.Wk Go.Proofs
set_option maxRecDepth 100000
set_option maxHeartbeats 1000000
theorem oX {w:World}{κ:Col}{aa ac ad ab}{p0:Clause}{p1:Int}(g0_1:Rd (Rp.int .i64) κ w 0 aa ac p0.A) (g0_2:Rd (Rp.int .i64) κ w 0 ad ab p0.B){r:Int}(h:jq p0 p1=some r):Ret Tryz.prog 67 [.agg #[vi p0.Kind,.slice aa p0.A.length ac,.slice ad p0.B.length ab],vi p1] w (λv w'=>∃(κ':Col),v=vi r/\Ent κ w κ' w'):=by
 unfold jq at h
 refine Ret.enter F67 R N67 R ?_
 dsimp only[envOf]
 have hE:=Ent.refl κ w
 refine Je [1,2] R (Jf1 (κ:=κ) 2 R R R R R R R λb2 w1 K2 S3 f4=>⟨tv,Jb 1 R (Je [2,1,2,1,2] R (Jd3 R U97 R Z29 (Jb3 R I29 (f4.ld 1 R R) (Jn 1 R (Ob h λx8 hx8 h=>Jh R R R C113 (l9 (κ:=Mk K2) (Ji3 (g0_1.stp S3 R R)) hx8) ?_)))))⟩)
 rintro _ w6 ⟨k7,rfl,e8⟩
 obtain⟨K9,S10,m11⟩:=Ji e8 3 R
 refine⟨tv,Jb 1 R (Jq (Je3 R ?_))⟩
 revert h
 cases ht13:decide (x8<0)
 refine JF λh=>Jy R (Js (Jp (Je [2,1,2,1,2] R (Jd3 R U97 R Z29 (Jb3 R I29 ((f4.stp S10 R R).ld 2 R R) (Jn 1 R (Ob h λx14 hx14 h=>Jh R R R C113 (l9 (κ:=Mk K9) (Ji3 (g0_2.stp (S3.tr S10) R R)) hx14) ?_)))))))
 rintro _ w17 ⟨k18,rfl,e19⟩
 obtain⟨K20,S21,m22⟩:=Ji e19 5 R
 refine⟨tv,Jb 1 R (Jq (Je3 R ?_))⟩
 revert h
 cases ht24:decide (x14<0)
 refine JF λh=>Jy R (Js (Jp (Je3 R (Ju (Ja2 (l:=[.tmp 4]) V67 (Jp2 R R) R ?_)))))
 cases h
 exact⟨K20,R,(hE.stp (S3.tr (S10.tr S21)) R R)⟩
 refine JT λh=>Jx R (Je3 R (Ju (Jw (Ja2 (l:=[.tmp 4]) V67 (Jp2 R R) R ?_))))
 cases h
 exact⟨K20,R,(hE.stp (S3.tr (S10.tr S21)) R R)⟩
 refine JT λh=>Jx R (Je3 R (Ju (Jw (Ja2 (l:=[.tmp 4]) V67 (Jp2 R R) R ?_))))
 cases h
 exact⟨K9,R,(hE.stp (S3.tr S10) R R)⟩
theorem oT {w:World}{κ:Col}{ae ah ai af}{p0:Clause}(g0_1:Rd (Rp.int .i64) κ w 0 ae ah p0.A) (g0_2:Rd (Rp.int .i64) κ w 0 ai af p0.B){r:Clause}(h:jo p0=some r):Ret Tryz.prog 76 [.agg #[vi p0.Kind,.slice ae p0.A.length ah,.slice ai p0.B.length af]] w (λv w'=>∃(κ':Col) (ra0:Option Addr) (ru0:Nat) (ra1:Option Addr) (ru1:Nat),v= .agg #[vi r.Kind,.slice ra0 r.A.length ru0,.slice ra1 r.B.length ru1]/\Ent κ w κ' w'/\Oc E6 2 κ' w' 2 ra0 ru0 r.A/\Oc E6 2 κ' w' 3 ra1 ru1 r.B):=by
 unfold jo at h
 refine Ret.enter F76 R N76 R ?_
 dsimp only[envOf]
 have hE:=Ent.refl κ w
 refine Je [1,1] R (Jf1 (κ:=κ) 2 R R R R R R R λb1 w1 K2 S3 f4=>⟨tv,Jg1 (κ:=K2) 3 R R R R R X119 R λb2 w5 K6 S7 f8=>⟨tv,Jd (Je [1] R (Jg1 (κ:=K6) 4 R R R R R X119 R λb3 w9 K10 S11 f12=>⟨tv,Jd (Je [2,1,2,1] R (Jd3 R U97 R Z2 ?_))⟩))⟩⟩)
 have f13:=f4.stp (S7.tr S11) R R
 refine Jb3 R I2 (f13.ld 0 R R) (Jd3 R U119 R Z2 (Ji1 (κ:=K10) 4 (off:=0) (vc:=[vi p0.Kind]) (cs':=[vi p0.Kind,.slice none 0 0,.slice none 0 0]) R R R R R R R Z2 R R f12 R R λw14 S15 f16=>⟨tv,Jd (Je [2,1,1,2,1] R (Jd3 R U97 R Z29 ?_))⟩))
 have f17:=f13.stp S15 R R
 refine Jb3 R I29 (f17.ld 1 R R) (Ob h λx9 hx9 h=>Jh R R R C128 (lW (κ:=Mk K10) (Ji3 (g0_1.stp (S3.tr (S7.tr (S11.tr S15))) R R)) hx9) ?_)
 rintro _ w19 ⟨k20,aa,ab,rfl,e21,f22⟩
 obtain⟨K23,S24,m25⟩:=Ji e21 5 R
 refine⟨tv,Jd3 R U119 R Z29 (Ji1 (κ:=K23) 4 (off:=1) (vc:=[.slice aa x9.length ab]) (cs':=[vi p0.Kind,.slice aa x9.length ab,.slice none 0 0]) R R R R R R R Z29 R R (f16.stp S24 R R) R R λw29 S30 f31=>⟨tv,Jd (Je [2,1,1,2,1] R (Jd3 R U97 R Z29 (Jb3 R I29 ((f17.stp (S24.tr S30) R R).ld 2 R R) (Ob h λx13 hx13 h=>Jh R R R C128 (lW (κ:=Mk K23) (Ji3 (g0_2.stp (S3.tr (S7.tr (S11.tr (S15.tr (S24.tr S30))))) R R)) hx13) ?_))))⟩)⟩
 rintro _ w34 ⟨k35,ac,ad,rfl,e36,f37⟩
 obtain⟨K38,S39,m40⟩:=Ji e36 8 R
 refine⟨tv,Jd3 R U119 R Z29 (Ji1 (κ:=K38) 4 (off:=2) (vc:=[.slice ac x13.length ad]) (cs':=[vi p0.Kind,.slice aa x9.length ab,.slice ac x13.length ad]) R R R R R R R Z29 R R (f31.stp S39 R R) R R λw44 S45 f46=>⟨tv,Jd (Je [1,1] R (Jl tv R R R R (Jd2 (cs:=[vi p0.Kind,.slice aa x9.length ab,.slice ac x13.length ad]) I119 Z119 R R R (haE f46.cells)) (Jj1 (κ:=K38) 3 (vc:=[vi p0.Kind,.slice aa x9.length ab,.slice ac x13.length ad]) R R R R R R R Z119 R R (f8.stp (S11.tr (S15.tr (S24.tr (S30.tr (S39.tr S45))))) R R) R λw48 S49 f50=>⟨tv,Jd (Ju (Ja2 (l:=[.cell 2 119]) V76 (bL R f50 I119 Z119 R R) R ?_))⟩)))⟩)⟩
 cases h
 exact⟨(λb=>ren [(7,2),(10,3)] (K38 b)),aa,ab,ac,ad,R,((hE.stp (S3.tr (S7.tr (S11.tr (S15.tr (S24.tr (S30.tr (S39.tr (S45.tr S49)))))))) R R).map (ren [(7,2),(10,3)]) R R),(((f22.mx (bH _) m25 R (R:5+2=7)).stp (S30.tr (S39.tr (S45.tr S49))) R R).map (ren [(7,2),(10,3)]) R R),(((f37.mx (bH _) m40 R (R:8+2=10)).stp (S45.tr S49) R R).map (ren [(7,2),(10,3)]) R R)⟩
theorem jf {w:World}{κ:Col}{p0:Sig}  {r:Bool}(h:iH p0=some r):Ret Tryz.prog 102 [.agg #[vi p0.In,vi p0.Out]] w (λv w'=>∃(κ':Col),v= .bool r/\Ent κ w κ' w'):=by
 unfold iH at h
 refine Ret.enter F102 R N102 R ?_
 dsimp only[envOf]
 have hE:=Ent.refl κ w
 refine Je [1,2] R (Jf1 (κ:=κ) 2 R R R R R R R λb1 w1 K2 S3 f4=>⟨tv,Jb 1 R (Je [2,1,1,2,2,1,1,2,2] R (Jd3 R U25 R Z2 (Jb3 R I2 (f4.ld 0 R R) (Ob h λx5 hx5 h=>Jh R R R C57 (cO (κ:=Mk K2) hx5) ?_))))⟩)
 rintro _ w5 ⟨k6,rfl,e7⟩
 obtain⟨K8,S9,m10⟩:=Ji e7 3 R
 refine⟨tv,Jn 1 R (Ob h λp10 h hK12=>Ju1 [(4,2),(5,1),(6,1),(7,2)] [(8,2)] (λL w'=>L=[(2,.bool false),(10,.bool p10)]/\∃κ',Stp [] K8 w5 κ' w') tv ?_ ?_)⟩
 revert h
 cases ht13:x5
 refine JF λh=>Jn 1 R (Jd1 R R R R (Jd1 R R R R (Jn 1 R ?_)))
 cases h
 exact Jv1 _ tv ⟨R,_,Jj3⟩ (KM R)
 refine JT λh=>Jd3 R U25 R Z2 (Jb3 R I2 ((f4.stp S9 R R).ld 1 R R) (Ob h λx9 hx9 h=>Jh R R R C57 (cO (κ:=Mk K8) hx9) ?_))
 rintro _ w15 ⟨k16,rfl,e17⟩
 obtain⟨K18,S19,m20⟩:=Ji e17 5 R
 refine⟨tv,Jn 1 R ?_⟩
 cases h
 exact Jv1 _ tv ⟨R,_,S19.wk R⟩ (KM R)
 rintro _ w22 _ ⟨rfl,K23,S24⟩
 have h:=hK12
 refine Jb 1 R (Ju (Ja2 (l:=[.tmp 2]) V102 (Jp2 R R) R ?_))
 cases h
 exact⟨K23,R,(hE.stp (S3.tr (S9.tr S24)) R R)⟩
theorem qk {w:World}{κ:Col}{aa ac ad ab}{p0:Clause}{p1:Int}{p2:Int}(g0_1:Rd (Rp.int .i64) κ w 0 aa ac p0.A) (g0_2:Rd (Rp.int .i64) κ w 0 ad ab p0.B){r:Int}(h:jW p0 p1 p2=some r):Ret Tryz.prog 167 [.agg #[vi p0.Kind,.slice aa p0.A.length ac,.slice ad p0.B.length ab],vi p1,vi p2] w (λv w'=>∃(κ':Col),v=vi r/\Ent κ w κ' w'):=by
 unfold jW at h
 refine Ret.enter F167 R N167 R ?_
 dsimp only[envOf]
 have hE:=Ent.refl κ w
 refine Je [1,2] R (Jf1 (κ:=κ) 2 R R R R R R R λb3 w1 K2 S3 f4=>⟨tv,Jb 1 R (Je [2,1,2,1,1,2] R (Jd3 R U119 R Z29 (Jb3 R I29 (f4.ld 1 R R) (Jn 1 R (Ob h λx12 hx12 h=>Jh R R R C201 (jh (κ:=Mk K2) (Ji3 (g0_1.stp S3 R R)) hx12) ?_)))))⟩)
 rintro _ w6 ⟨k7,rfl,e8⟩
 obtain⟨K9,S10,m11⟩:=Ji e8 3 R
 refine⟨tv,Ob h λx13 hx13 h=>Jh R R R C200 (jK (κ:=Mk K9) hx13) ?_⟩
 rintro _ w13 ⟨k14,rfl,e15⟩
 obtain⟨K16,S17,m18⟩:=Ji e15 5 R
 refine⟨tv,Jb 1 R (Je [2,1,2,1,1,2] R (Jd3 R U119 R Z29 ?_))⟩
 have f20:=f4.stp (S10.tr S17) R R
 refine Jb3 R I29 (f20.ld 2 R R) (Jn 1 R (Ob h λx17 hx17 h=>Jh R R R C201 (jh (κ:=Mk K16) (Ji3 (g0_2.stp (S3.tr (S10.tr S17)) R R)) hx17) ?_))
 rintro _ w22 ⟨k23,rfl,e24⟩
 obtain⟨K25,S26,m27⟩:=Ji e24 7 R
 refine⟨tv,Ob h λx18 hx18 h=>Jh R R R C200 (jK (κ:=Mk K25) hx18) ?_⟩
 rintro _ w29 ⟨k30,rfl,e31⟩
 obtain⟨K32,S33,m34⟩:=Ji e31 9 R
 refine⟨tv,Jb 1 R (Jq (Je [2,1] R (Jd3 R U119 R Z2 (Jb3 R I2 ((f20.stp (S26.tr S33) R R).ld 0 R R) (Jd (Jv (Je3 R ?_)))))))⟩
 revert h
 cases ht37:(p0.Kind==1)
 refine JF λh=>Jy R (Je3 R ?_)
 revert h
 cases ht46:(p0.Kind==2)
 refine JF λh=>Jy R (Je3 R ?_)
 revert h
 cases ht60:(p0.Kind==3)
 refine JF λh=>Jy R (Je3 R ?_)
 revert h
 cases ht71:(p0.Kind==4)
 refine JF λh=>Jy R (Je3 R ?_)
 revert h
 cases ht73:(p0.Kind==5)
 refine JF λh=>Jy R (Je3 R ?_)
 revert h
 cases ht75:(p0.Kind==6)
 refine JF λh=>Jy R (Js (Jz (Jp (Je3 R (Ju (Ja2 (l:=[.tmp 6]) V167 (Jp2 R R) R ?_))))))
 cases h
 exact⟨K32,R,(hE.stp (S3.tr (S10.tr (S17.tr (S26.tr S33)))) R R)⟩
 refine JT λh=>Jx R (Jg3 [2,2,1,2] 2 R (Ob h λx58 hx58 h=>Jh R R R C159 (km (κ:=Mk K32) hx58) ?_))
 rintro _ w76 ⟨k77,rfl,e78⟩
 obtain⟨K79,S80,m81⟩:=Ji e78 11 R
 refine⟨tv,Jb 1 R (Ju (Ja1 (Jw (Ja2 (l:=[.tmp 6]) V167 (Jp2 R R) R ?_))))⟩
 cases h
 exact⟨K79,R,(hE.stp (S3.tr (S10.tr (S17.tr (S26.tr (S33.tr S80))))) R R)⟩
 refine JT λh=>Jx R (Je3 R (Ju (Ja1 (Jw (Ja2 (l:=[.tmp 6]) V167 (Jp2 R R) R ?_)))))
 cases h
 exact⟨K32,R,(hE.stp (S3.tr (S10.tr (S17.tr (S26.tr S33)))) R R)⟩
 refine JT λh=>Jx R (Je3 R (Ju (Ja1 (Jw (Ja2 (l:=[.tmp 6]) V167 (Jp2 R R) R ?_)))))
 cases h
 exact⟨K32,R,(hE.stp (S3.tr (S10.tr (S17.tr (S26.tr S33)))) R R)⟩
 refine JT λh=>Jx R (Jq (Je3 R ?_))
 revert h
 cases ht61:(x18==1)
 refine JF λh=>Jy R (Js (Jp (Jg3 [2,2,1,2] 2 R (Ob h λx46 hx46 h=>Jh R R R C159 (km (κ:=Mk K32) hx46) ?_))))
 rintro _ w63 ⟨k64,rfl,e65⟩
 obtain⟨K66,S67,m68⟩:=Ji e65 11 R
 refine⟨tv,Jb 1 R (Ju (Ja1 (Jw (Ja2 (l:=[.tmp 6]) V167 (Jp2 R R) R ?_))))⟩
 cases h
 exact⟨K66,R,(hE.stp (S3.tr (S10.tr (S17.tr (S26.tr (S33.tr S67))))) R R)⟩
 refine JT λh=>Jx R (Je3 R (Ju (Jw (Ja1 (Jw (Ja2 (l:=[.tmp 6]) V167 (Jp2 R R) R ?_))))))
 cases h
 exact⟨K32,R,(hE.stp (S3.tr (S10.tr (S17.tr (S26.tr S33)))) R R)⟩
 refine JT λh=>Jx R (Jq (Jg3 [2,2,2,2,2,2,2,2,2,2] 3 R (Ob h λp38 h hK47=>Ju1 [(3,2),(4,2),(5,2),(6,2),(7,2),(8,2),(9,2)] [] (λL w'=>L=[(7,vi x13),(38,.bool p38)]/\∃κ',Stp [] K32 w29 κ' w') tv ?_ ?_)))
 revert h
 cases ht48:(p1==2)
 refine JF λh=>Jn 3 R (Ob h λp37 h hK49=>Ju1 [(6,2),(7,2),(8,2)] [(9,2)] (λL w'=>L=[(7,vi x13),(31,.bool false),(37,.bool p37)]/\∃κ',Stp [] K32 w29 κ' w') tv ?_ ?_)
 revert h
 cases ht50:(p1==1)
 refine JF λh=>Jn 3 R ?_
 cases h
 exact Jv1 _ tv ⟨R,_,Jj3⟩ (KM R)
 refine JT λh=>Jn 3 R ?_
 cases h
 exact Jv1 _ tv ⟨R,_,Jj3⟩ (KM R)
 rintro _ w51 _ ⟨rfl,K52,S53⟩
 have h:=hK49
 refine Jn 1 R ?_
 cases h
 exact Jv1 _ tv ⟨R,_,S53.wk R⟩ (KM R)
 refine JT λh=>Jn 7 R ?_
 cases h
 exact Jv1 _ tv ⟨R,_,Jj3⟩ (KM R)
 rintro _ w54 _ ⟨rfl,K55,S56⟩
 have h:=hK47
 refine Jd ?_
 revert h
 cases ht57:p38
 refine JF λh=>Jy R (Js (Jp (Je3 R (Ju (Ja1 (Jw (Ja2 (l:=[.tmp 6]) V167 (Jp2 R R) R ?_)))))))
 cases h
 exact⟨K55,R,(hE.stp (S3.tr (S10.tr (S17.tr (S26.tr (S33.tr S56))))) R R)⟩
 refine JT λh=>Jx R (Je3 R (Ju (Jw (Ja1 (Jw (Ja2 (l:=[.tmp 6]) V167 (Jp2 R R) R ?_))))))
 cases h
 exact⟨K55,R,(hE.stp (S3.tr (S10.tr (S17.tr (S26.tr (S33.tr S56))))) R R)⟩
 refine JT λh=>Jx R (Jg3 [2,2,2,1,2] 3 R (Ob h λx26 hx26 h=>Jh R R R C159 (km (κ:=Mk K32) hx26) ?_))
 rintro _ w38 ⟨k39,rfl,e40⟩
 obtain⟨K41,S42,m43⟩:=Ji e40 11 R
 refine⟨tv,Jb 1 R (Ju (Ja1 (Jw (Ja2 (l:=[.tmp 6]) V167 (Jp2 R R) R ?_))))⟩
 cases h
 exact⟨K41,R,(hE.stp (S3.tr (S10.tr (S17.tr (S26.tr (S33.tr S42))))) R R)⟩
theorem mf {w:World}{κ:Col}{a0 u0}{p0:(List Pair)}{a1 u1}{p1:(List (List Int))}{p2:Int}(g0:Rd Pair.rp κ w 0 a0 u0 p0) (g1:Rd (Rp.sl (Rp.int .i64)) κ w 0 a1 u1 p1){r:(List Pair)}(h:gD p0 p1 p2=some r):Ret Tryz.prog 209 [.slice a0 p0.length u0,.slice a1 p1.length u1,vi p2] w (λv w'=>∃(κ':Col) (ra0:Option Addr) (ru0:Nat),v= .slice ra0 r.length ru0/\Ent κ w κ' w'/\Oc Pair.ep154 154 κ' w' 2 ra0 ru0 r):=by
 unfold gD at h
 refine Ret.enter F209 R N209 R ?_
 dsimp only[envOf]
 have hE:=Ent.refl κ w
 refine Je3 R (Je [1,2] R (Jo1 (κ:=κ) (E:=Pair.ep154) 2 R R R R R Y98 Tryzinfo154 R λaA az w1 K2 S3 f4=>⟨tv,Jb 1 R (Jq (Je3 R ?_))⟩))
 have hN5:(p0.length:Int)<=9223372036854775807:=g0.len_le
 refine Ob h λq2 hq7 hK6=>?_
 clear h
 refine Jx1 (λL w'=>∃κ',∃s3:(List Pair),∃ap ao,L=[(7,.slice ap s3.length ao)]/\Stp [2,3,4,5,6] K2 w1 κ' w'/\Oc Pair.ep154 154 κ' w' 2 ap ao s3/\q2=t9 s3) ?_ ?_
 refine Jv (Jy1 (λk L w'=>∃κ' v8,∃s1:(List Pair),∃ab aa,L=[(0,.slice a0 p0.length u0),(1,.slice a1 p1.length u1),(2,vi p2),(7,.slice ab s1.length aa),(8,vi v8)]/\Stp [2,3,4,5,6] K2 w1 κ' w'/\Oc Pair.ep154 154 κ' w' 2 ab aa s1/\0<=v8/\Int.toNat ((p0.length:Int)-v8)=k/\cntM (fx p0 p1 p2) k v8 s1=some q2) ⟨_,_,⟨K2,0,(([]:List Pair):(List Pair)),aA,az,R,Jj3,f4,(by decide),(by simp),hq7⟩,(KM R)⟩ ?_)
 rintro k _ w12 ⟨K13,v8,s1,ab,aa,rfl,S14,f15,hj5,hJ5,h⟩
 rcases k with _ | k
 have hk16:=h;obtain⟨o5,h⟩:=bO (t9 (Sum.inl s1):(List Pair)⊕(((List Pair))⊕((List Pair))))
 have hc5:decide (v8<(p0.length:Int))=false:=Jo2 (by omega)
 refine Jq (Jg3 [2,2,2,2] 2 R (Jf R (Je2 U98 R R) (Jb 1 R (Jw2 R hc5 (Jc1 (Jt (Jt ?_)))))))
 cases h
 have h:=hk16
 refine Jb1 ?_
 cases h
 exact Jw1 _ ⟨K13,(s1:(List Pair)),ab,aa,R,S14.wk R,f15,R⟩ (KM R)
 obtain⟨o5,h,hk16⟩:=BI h;unfold fx at h
 have hc5:decide (v8<(p0.length:Int))=true:=Jn2 (by omega)
 refine Jq (Jg3 [2,2,2,2] 2 R (Jf R (Je2 U98 R R) (Jb 1 R (Jv2 R hc5 (Js (Jp (Jq (Jv (Je [2,1,1] R (Jf R (bI (parts:=[]) (cells:=[.slice none 0 0,.slice none 0 0]) R R (by kernel_rfl)) (Jg1 (κ:=K13) 3 R R R R R X154 R λb9 w17 K18 S19 f20=>⟨tv,Jj1 (κ:=K18) 3 (vc:=[.slice none 0 0,.slice none 0 0]) R R R R R R R Z154 R R f20 R λw21 S22 f23=>⟨tv,Jd (Jq (Je3 R ?_))⟩⟩)))))))))))
 have hN24:(p1.length:Int)<=9223372036854775807:=g1.len_le
 refine Ob h λq5 hq26 hK25=>?_
 clear h
 refine Jx1 (λL w'=>∃κ',∃s6:(List Int)×(List Int),∃ai ae ad ah,L=[(0,.slice a0 p0.length u0),(1,.slice a1 p1.length u1),(2,vi p2),(7,.slice ab s1.length aa),(8,vi v8),(9,.pointer (some ⟨b9,0,none⟩))]/\Stp [3,4,5] K18 w21 κ' w'/\Oc E6 2 κ' w' 4 ai ae s6.1/\Oc E6 2 κ' w' 5 ad ah s6.2/\Bc κ' w' 3 b9 154 [.slice ai s6.1.length ae,.slice ad s6.2.length ah]/\q5=t9 s6) ?_ ?_
 refine Jv (Jy1 (λk L w'=>∃κ' v10,∃s4:(List Int)×(List Int),∃am al ac af,L=[(0,.slice a0 p0.length u0),(1,.slice a1 p1.length u1),(2,vi p2),(7,.slice ab s1.length aa),(8,vi v8),(9,.pointer (some ⟨b9,0,none⟩)),(10,vi v10)]/\Stp [3,4,5] K18 w21 κ' w'/\Oc E6 2 κ' w' 4 am al s4.1/\Oc E6 2 κ' w' 5 ac af s4.2/\Bc κ' w' 3 b9 154 [.slice am s4.1.length al,.slice ac s4.2.length af]/\0<=v10/\Int.toNat ((p1.length:Int)-v10)=k/\cntM (fk p0 p1 p2 v8) k v10 s4=some q5) ⟨_,_,⟨K18,0,((([]:List Int):(List Int)),(([]:List Int):(List Int))),none,0,none,0,R,Jj3,Ow.nil,Ow.nil,f23,(by decide),(by simp),hq26⟩,(KM R)⟩ ?_)
 rintro k _ w33 ⟨K34,v10,s4,am,al,ac,af,rfl,S35,f36,f37,f38,hj24,hJ24,h⟩
 rcases k with _ | k
 have hk39:=h;obtain⟨o24,h⟩:=bO (t9 (Sum.inl s4):(List Pair)⊕(((List Int)×(List Int))⊕((List Int)×(List Int))))
 have hc24:decide (v10<(p1.length:Int))=false:=Jo2 (by omega)
 refine Jq (Jg3 [2,2,2,2] 2 R (Jf R (Je2 U26 R R) (Jb 1 R (Jw2 R hc24 (Jc1 (Jt (Jt ?_)))))))
 cases h
 have h:=hk39
 refine Jb1 ?_
 cases h
 exact Jw1 _ ⟨K34,((s4.1:(List Int)),(s4.2:(List Int))),am,al,ac,af,R,S35.wk R,f36,f37,f38,R⟩ (KM R)
 obtain⟨o24,h,hk39⟩:=BI h;unfold fk at h
 have hc24:decide (v10<(p1.length:Int))=true:=Jn2 (by omega)
 refine Jq (Jg3 [2,2,2,2] 2 R (Jf R (Je2 U26 R R) (Jb 1 R (Jv2 R hc24 (Js (Jp (Jq (Jv (Jq (Jq (Js1 (κ:=K34) [0] none [(0,2),(1,2),(2,2),(3,2),(5,2),(6,2),(7,2),(9,2),(4,0),(8,0),(10,2),(11,0),(12,1)] [] (by kernel_rfl) (by kernel_rfl) λw41 S40=>Jn 2 R (Ob h λx27 hx27 h=>Jc3 R g0 hx27 U98 Z154 (Jd3 R U154 R Z29 (Jn 2 R (Ob h λx32 hx32 h=>Jc3 R g1 hx32 U26 Z29 (Jn 1 R ?_))))))))))))))))
 have f42:=g0.stp (S3.tr (S14.tr (S19.tr (S22.tr (S35.tr S40))))) R R
 obtain⟨cse43,hre43,hle43⟩:=(f42).gSt hx27
 obtain⟨ae43_0,ue43_0,ae43_1,ue43_1,rfl,fe43_0,fe43_1⟩:=Pair.un hre43
 refine Jg R (Jc2 I29 R R (hvC (λw' hw'=>hle43 w' hw' 0 _ R) R)) ?_
 have f44:=g1.stp (S3.tr (S14.tr (S19.tr (S22.tr (S35.tr S40))))) R R
 obtain⟨ax32,ux32,f45,hl46⟩:=f44.gSl hx32
 refine Jg R (Jc2 I29 R R (hvC hl46 R)) (Ob h λx35 hx35 h=>Jc3 R f45 hx35 U29 Z2 (Jg R (Jc2 I2 R R (hvC (f45.gInt hx35) R)) (Ob h λx37 hx37 h=>Jh R R R C201 (jh (κ:=Mk K34) (Ji3 fe43_0) hx37) ?_)))
 rintro _ w47 ⟨k48,rfl,e49⟩
 obtain⟨K50,S51,m52⟩:=Ji e49 6 R
 refine⟨(S51.cl R),Jt1 (Jd (Ob h λq7 h hK54=>Jx1 (λL w'=>∃κ' ak aj,L=[(0,.slice a0 p0.length u0),(1,.slice a1 p1.length u1),(2,vi p2),(7,.slice ab s1.length aa),(8,vi v8),(9,.pointer (some ⟨b9,0,none⟩)),(10,vi v10)]/\Stp [3,4] K50 w47 κ' w'/\Oc E6 2 κ' w' 4 ak aj q7/\Bc κ' w' 3 b9 154 [.slice ak q7.length aj,.slice ac s4.2.length af]) ?_ ?_))⟩
 revert h
 cases ht60:x37
 refine JF λh=>Jy R (Js ?_)
 cases h
 exact Jw1 _ ⟨K50,am,al,R,Jj3,(f36.stp (S40.tr S51) R R),(f38.stp (S40.tr S51) R R)⟩ (KM R)
 refine JT λh=>Jx R (Ja [2,1,2,1,1,2,1] R (Jd3 R U154 R Z29 ?_))
 have f61:=f38.stp (S40.tr S51) R R
 refine Jb3 R I29 (f61.ld 0 R R) (Jn 1 R (Jn1 (κ:=K50) (E:=E6) 8 [] (parts:=[(0,.tmp 40)]) (cells:=[vi v10]) (xs:=([v10]:List Int)) R R R R R R Y29 Tryzinfo2 R R R R R R R R R R ⟨[vi v10],[],Zl K50 w47 [],Zl K50 w47 [],R,Zl.sp (l1:=[]) (l2:=[]) R,Zl.sr (l1:=[]) (l2:=[]),R,R⟩ λaF aB w62 K63 S64 f65=>⟨tv,Ob h λx42 hx42 h=>Jm1 (κ:=K63) (E:=E6) 4 [] R R R R R R R R R Y29 Tryzinfo2 R R R R (f36.stp (S40.tr (S51.tr S64)) R R) (Sl.srcP (bR _) f65.rdc) bJ hx42 R λav aw w67 K68 S69 f70=>⟨tv,Jd3 R U154 R Z29 (Ji1 (κ:=K68) 3 (off:=0) (vc:=[.slice av x42.length aw]) (cs':=[.slice av x42.length aw,.slice ac s4.2.length af]) R R R R R R R Z29 R R (f61.stp (S64.tr S69) R R) R R λw72 S73 f74=>⟨tv,Jo ?_⟩)⟩⟩))
 cases h
 exact Jw1 _ ⟨K68,av,aw,R,(S64.tr (S69.tr S73)).wk R,(f70.stp S73 R R),f74⟩ (KM R)
 rintro _ w55 ⟨K56,ak,aj,rfl,S57,f58,f59⟩
 have h:=hK54
 refine Jp (Jq (Js1 (κ:=K56) [0] none [(0,2),(1,2),(2,2),(3,2),(5,2),(6,2),(7,2),(9,2),(4,0),(8,0),(10,2),(11,0),(12,1)] [] (by kernel_rfl) (by kernel_rfl) λw79 S78=>Jn 2 R (Ob h λx46 hx46 h=>Jc3 R f42 hx46 U98 Z154 (Jd3 R U154 R Z29 (Jn 2 R (Ob h λx51 hx51 h=>Jc3 R f44 hx51 U26 Z29 (Jn 1 R ?_)))))))
 obtain⟨cse81,hre81,hle81⟩:=((f42.stp (S51.tr (S57.tr S78)) R R)).gSt hx46
 obtain⟨ae81_0,ue81_0,ae81_1,ue81_1,rfl,fe81_0,fe81_1⟩:=Pair.un hre81
 refine Jg R (Jc2 I29 R R (hvC (λw' hw'=>hle81 w' hw' 1 _ R) R)) ?_
 obtain⟨ax51,ux51,f83,hl84⟩:=(f44.stp (S51.tr (S57.tr S78)) R R).gSl hx51
 refine Jg R (Jc2 I29 R R (hvC hl84 R)) (Ob h λx54 hx54 h=>Jc3 R f83 hx54 U29 Z2 (Jg R (Jc2 I2 R R (hvC (f83.gInt hx54) R)) (Ob h λx56 hx56 h=>Jh R R R C201 (jh (κ:=Mk K56) (Ji3 fe81_1) hx56) ?_)))
 rintro _ w85 ⟨k86,rfl,e87⟩
 obtain⟨K88,S89,m90⟩:=Ji e87 8 R
 refine⟨(S89.cl R),Jt1 (Jd (Ob h λq8 h hK92=>Jx1 (λL w'=>∃κ' an aq,L=[(0,.slice a0 p0.length u0),(1,.slice a1 p1.length u1),(2,vi p2),(7,.slice ab s1.length aa),(8,vi v8),(9,.pointer (some ⟨b9,0,none⟩)),(10,vi v10)]/\Stp [3,5] K88 w85 κ' w'/\Oc E6 2 κ' w' 5 an aq q8/\Bc κ' w' 3 b9 154 [.slice ak q7.length aj,.slice an q8.length aq]) ?_ ?_))⟩
 revert h
 cases ht98:x56
 refine JF λh=>Jy R (Js ?_)
 cases h
 exact Jw1 _ ⟨K88,ac,af,R,Jj3,(f37.stp (S40.tr (S51.tr (S57.tr (S78.tr S89)))) R R),(f59.stp (S78.tr S89) R R)⟩ (KM R)
 refine JT λh=>Jx R (Ja [2,1,2,1,1,2,1] R (Jd3 R U154 R Z29 ?_))
 have f99:=f59.stp (S78.tr S89) R R
 refine Jb3 R I29 (f99.ld 1 R R) (Jn 1 R (Jn1 (κ:=K88) (E:=E6) 10 [] (parts:=[(0,.tmp 59)]) (cells:=[vi v10]) (xs:=([v10]:List Int)) R R R R R R Y29 Tryzinfo2 R R R R R R R R R R ⟨[vi v10],[],Zl K88 w85 [],Zl K88 w85 [],R,Zl.sp (l1:=[]) (l2:=[]) R,Zl.sr (l1:=[]) (l2:=[]),R,R⟩ λaD aG w100 K101 S102 f103=>⟨tv,Ob h λx61 hx61 h=>Jm1 (κ:=K101) (E:=E6) 5 [] R R R R R R R R R Y29 Tryzinfo2 R R R R (f37.stp (S40.tr (S51.tr (S57.tr (S78.tr (S89.tr S102))))) R R) (Sl.srcP (bR _) f103.rdc) bJ hx61 R λau ar w105 K106 S107 f108=>⟨tv,Jd3 R U154 R Z29 (Ji1 (κ:=K106) 3 (off:=1) (vc:=[.slice au x61.length ar]) (cs':=[.slice ak q7.length aj,.slice au x61.length ar]) R R R R R R R Z29 R R (f99.stp (S102.tr S107) R R) R R λw110 S111 f112=>⟨tv,Jo ?_⟩)⟩⟩))
 cases h
 exact Jw1 _ ⟨K106,au,ar,R,(S102.tr (S107.tr S111)).wk R,(f108.stp S111 R R),f112⟩ (KM R)
 rintro _ w93 ⟨K94,an,aq,rfl,S95,f96,f97⟩
 have h:=hK92
 refine Jz (Jp (Jf3 R ?_))
 have hw24:t5 .i64 (v10+1)=v10+1:=wr1 hj24 (Jm2 hc24) hN24
 rw[hw24]
 have hc24:=Jm2 hc24
 cases h
 exact Jz1 λa ha=>⟨k,_,Ja3 _,⟨K94,v10+1,((q7:(List Int)),(q8:(List Int))),ak,aj,an,aq,R,(S35.tr (S40.tr (S51.tr (S57.tr (S78.tr (S89.tr S95)))))).wk R,(f58.stp (S78.tr (S89.tr S95)) R R),f96,f97,by omega,by omega,hk39⟩,(ha.mm R)⟩
 rintro _ w27 ⟨K28,s6,ai,ae,ad,ah,rfl,S29,f30,f31,f32,rfl⟩
 have h:=hK25
 dsimp only[aft]at h
 refine Jp (Jh3 [2,1,1,1,2] 1 R (Jl tv R R R R (Jd2 (cs:=[.slice ai s6.1.length ae,.slice ad s6.2.length ah]) I154 Z154 R R R (haE f32.cells)) (Jn1 (κ:=K28) (E:=Pair.ep154) 6 [4,5] (parts:=[(0,.tmp 64)]) (cells:=[.slice ai s6.1.length ae,.slice ad s6.2.length ah]) (xs:=([(⟨s6.1,s6.2⟩:Pair)]:List Pair)) R R R R R R Y98 Tryzinfo154 R R R R R R R R R R ⟨[.slice ai s6.1.length ae,.slice ad s6.2.length ah],[],Zl K28 w27 [4,5],Zl K28 w27 [],R,Zl.sp (l1:=[4,5]) (l2:=[]) R,Zl.sr (l1:=[4,5]) (l2:=[]),⟨[.slice ai s6.1.length ae],[.slice ad s6.2.length ah],Zl K28 w27 [4],Zl K28 w27 [5],R,Zl.sp (l1:=[4]) (l2:=[5]) R,Zl.sr (l1:=[4]) (l2:=[5]),⟨_,_,R,f30⟩,⟨_,_,R,f31⟩⟩,R⟩ λaE aC w117 K118 S119 f120=>⟨tv,Ob h λx66 hx66 h=>Jm1 (κ:=K118) (E:=Pair.ep154) 2 [6] R R R R R R R R R Y98 Tryzinfo154 R R R R (f15.stp (S19.tr (S22.tr (S29.tr S119))) R R) f120.src (dc R) hx66 R λax ay w122 K123 S124 f125=>⟨tv,Jc 1 R (Jz (Jp (Jf3 R ?_)))⟩⟩)))
 have hw5:t5 .i64 (v8+1)=v8+1:=wr1 hj5 (Jm2 hc5) hN5
 rw[hw5]
 have hc5:=Jm2 hc5
 cases h
 exact Jz1 λa ha=>⟨k,_,Ja3 _,⟨K123,v8+1,(x66:(List Pair)),ax,ay,R,(S14.tr (S19.tr (S22.tr (S29.tr (S119.tr S124))))).wk R,f125,by omega,by omega,hk16⟩,(ha.mm R)⟩
 rintro _ w8 ⟨K9,s3,ap,ao,rfl,S10,f11,rfl⟩
 have h:=hK6
 dsimp only[aft]at h
 refine Jp (Je3 R (Ju (Ja2 (l:=[.tmp 6]) V209 (Jp2 R R) R ?_)))
 cases h
 exact⟨K9,ap,ao,R,(hE.stp (S3.tr S10) R R),f11⟩
theorem kX {w:World}{κ:Col}{p0:Sig}  {r:Int}(h:eD p0=some r):Ret Tryz.prog 72 [.agg #[vi p0.In,vi p0.Out]] w (λv w'=>∃(κ':Col),v=vi r/\Ent κ w κ' w'):=by
 unfold eD at h
 refine Ret.enter F72 R N72 R ?_
 dsimp only[envOf]
 have hE:=Ent.refl κ w
 refine Je [1,2] R (Jf1 (κ:=κ) 2 R R R R R R R λb1 w1 K2 S3 f4=>⟨tv,Jb 1 R (Je [2,1,1,2] R (Jd3 R U25 R Z2 (Jb3 R I2 (f4.ld 0 R R) (Ob h λx5 hx5 h=>Jh R R R C59 (dt (κ:=Mk K2) hx5) ?_))))⟩)
 rintro _ w5 ⟨k6,rfl,e7⟩
 obtain⟨K8,S9,m10⟩:=Ji e7 3 R
 refine⟨tv,Jb 1 R (Ju (Ja2 (l:=[.tmp 2]) V72 (Jp2 R R) R ?_))⟩
 cases h
 exact⟨K8,R,(hE.stp (S3.tr S9) R R)⟩
theorem qu {w:World}{κ:Col}{a0 u0}{p0:(List Place)}{p1:Int}{a2 u2}{p2:(List Int)}(g0:Rd Place.rp κ w 0 a0 u0 p0) (g2:Rd (Rp.int .i64) κ w 0 a2 u2 p2){r:Int}(h:kl p0 p1 p2=some r):Ret Tryz.prog 122 [.slice a0 p0.length u0,vi p1,.slice a2 p2.length u2] w (λv w'=>∃(κ':Col),v=vi r/\Ent κ w κ' w'):=by
 unfold kl at h
 refine Ret.enter F122 R N122 R ?_
 dsimp only[envOf]
 have hE:=Ent.refl κ w
 refine Je3 R (Jq (Je3 R ?_))
 have hN1:(p0.length:Int)<=9223372036854775807:=g0.len_le
 refine Ob h λq2 hq3 hK2=>?_
 clear h
 refine Jx1 (λL w'=>∃κ',L=[]/\Stp [] κ w κ' w'/\q2=t9 ()) ?_ ?_
 refine Jv (Jy1 (λk L w'=>∃κ' v7,L=[(0,.slice a0 p0.length u0),(1,vi p1),(2,.slice a2 p2.length u2),(7,vi v7)]/\Stp [] κ w κ' w'/\0<=v7/\Int.toNat ((p0.length:Int)-v7)=k/\cntM (gp p0 p1 p2) k v7 ()=some q2) ⟨_,_,⟨κ,0,R,Jj3,(by decide),(by simp),hq3⟩,(KM R)⟩ ?_)
 rintro k _ w7 ⟨K8,v7,rfl,S9,hj1,hJ1,h⟩
 rcases k with _ | k
 have hk10:=h;obtain⟨o1,h⟩:=bO (t9 (Sum.inl ()):Int⊕((Unit)⊕(Unit)))
 have hc1:decide (v7<(p0.length:Int))=false:=Jo2 (by omega)
 refine Jq (Jg3 [2,2,2,2] 2 R (Jf R (Je2 U109 R R) (Jb 1 R (Jw2 R hc1 (Jc1 (Jt (Jt ?_)))))))
 cases h
 have h:=hk10
 refine Jb1 ?_
 cases h
 exact Jw1 _ ⟨K8,R,S9.wk R,R⟩ KN
 obtain⟨o1,h,hk10⟩:=BI h;unfold gp at h
 have hc1:decide (v7<(p0.length:Int))=true:=Jn2 (by omega)
 refine Jq (Jg3 [2,2,2,2] 2 R (Jf R (Je2 U109 R R) (Jb 1 R (Jv2 R hc1 (Js (Jp (Jq (Jv (Jg3 [2,2,2,2,1,2,2,2,2,2,2,2,1,2,1,2] 2 R (Ob h λx16 hx16 h=>Jc3 R g0 hx16 U109 Z116 (Jd3 R U116 R Z2 ?_)))))))))))
 have f11:=g0.stp S9 R R
 obtain⟨cse12,hre12,hle12⟩:=(f11).gSt hx16
 obtain⟨ae12_0,ue12_0,rfl,fe12_0⟩:=Place.un hre12
 refine Jb3 R I2 (λw' hw'=>hle12 w' hw' 0 _ R) (Jn 3 R (Ob h λp29 h hK13=>Ju1 [(8,2),(9,2),(10,2),(11,2),(12,1),(13,2),(14,1),(15,2)] [] (λL w'=>L=[(0,.slice a0 p0.length u0),(1,vi p1),(2,.slice a2 p2.length u2),(7,vi v7),(29,.bool p29)]/\∃κ',Stp [] K8 w7 κ' w') tv ?_ ?_))
 revert h
 cases ht14:(x16.At==p1)
 refine JF λh=>Jn 4 R (Jd1 R R R R (Jn 1 R (Jd1 R R R R (Jn 1 R ?_))))
 cases h
 exact Jv1 _ tv ⟨R,_,Jj3⟩ (KM R)
 refine JT λh=>Jn 2 R (Ob h λx24 hx24 h=>Jc3 R f11 hx24 U109 Z116 (Jd3 R U116 R Z29 ?_))
 obtain⟨cse15,hre15,hle15⟩:=(f11).gSt hx24
 obtain⟨ae15_0,ue15_0,rfl,fe15_0⟩:=Place.un hre15
 refine Jb3 R I29 (λw' hw'=>hle15 w' hw' 1 _ R) (Jn 1 R (Ob h λx28 hx28 h=>Jh R R R C172 (np (κ:=Mk K8) (Ji3 fe15_0) (Ji3 (g2.stp S9 R R)) hx28) ?_))
 rintro _ w17 ⟨k18,rfl,e19⟩
 obtain⟨K20,S21,m22⟩:=Ji e19 2 R
 refine⟨tv,Jn 1 R ?_⟩
 cases h
 exact Jv1 _ tv ⟨R,_,S21.wk R⟩ (KM R)
 rintro _ w24 _ ⟨rfl,K25,S26⟩
 have h:=hK13
 refine Jd ?_
 revert h
 cases ht27:p29
 refine JF λh=>Jy R (Js (Jz (Jp (Jf3 R ?_))))
 have hw1:t5 .i64 (v7+1)=v7+1:=wr1 hj1 (Jm2 hc1) hN1
 rw[hw1]
 have hc1:=Jm2 hc1
 cases h
 exact Jz1 λa ha=>⟨k,_,Ja3 _,⟨K25,v7+1,R,(S9.tr S26).wk R,by omega,by omega,hk10⟩,(ha.mm R)⟩
 refine JT λh=>Jx R (Je3 R (Ju (Ja1 (Jw (Jw ?_)))))
 cases h
 obtain rfl:=Option.some.inj hk10
 have h:=hK2
 dsimp only[aft]at h
 refine Ja1 (Jq2 (Jw (Ja2 (l:=[.tmp 6]) V122 (Jp2 R R) R ?_)))
 cases h
 exact⟨K25,R,(hE.stp (S9.tr S26) R R)⟩
 rintro _ w4 ⟨K5,rfl,S6,rfl⟩
 have h:=hK2
 dsimp only[aft]at h
 refine Jp (Je3 R (Ju (Ja2 (l:=[.tmp 6]) V122 (Jp2 R R) R ?_)))
 cases h
 exact⟨K5,R,(hE.stp S6 R R)⟩
theorem me {w:World}{κ:Col}{aa ak ad af ai ae ac ab aj ah}{p0:l7Game}{a1 u1}{p1:(List Bool)}{p2:Int}(g0_0:Rd (Rp.int .i64) κ w 0 aa ak p0.owner) (g0_1:Rd (Rp.int .i64) κ w 0 ad af p0.prio) (g0_2:Rd (Rp.sl (Rp.int .i64)) κ w 0 ai ae p0.next) (g0_3:Rd (Rp.sl (Rp.int .i64)) κ w 0 ac ab p0.prev) (g0_4:Rd (Rp.int .i64) κ w 0 aj ah p0.pick) (g1:Rd Rp.bool κ w 0 a1 u1 p1){r:Int}(h:fJ p0 p1 p2=some r):Ret Tryz.prog 237 [.agg #[.slice aa p0.owner.length ak,.slice ad p0.prio.length af,.slice ai p0.next.length ae,.slice ac p0.prev.length ab,.slice aj p0.pick.length ah],.slice a1 p1.length u1,vi p2] w (λv w'=>∃(κ':Col),v=vi r/\Ent κ w κ' w'):=by
 unfold fJ at h
 refine Ret.enter F237 R N237 R ?_
 dsimp only[envOf]
 have hE:=Ent.refl κ w
 refine Je [1,2] R (Jf1 (κ:=κ) 2 R R R R R R R λb3 w1 K2 S3 f4=>⟨tv,Jb 1 R (Je3 R (Jq (Je3 R (Ob h λq2 hq7 hK6=>?_))))⟩)
 clear h
 refine Jx1 (λL w'=>∃κ',∃s3:Int×Int,L=[(7,vi s3.1)]/\Stp [] K2 w1 κ' w'/\q2=t9 s3) ?_ ?_
 refine Jv (Jy1 (λk L w'=>∃κ',∃s1:Int×Int,L=[(1,.slice a1 p1.length u1),(2,vi p2),(3,.pointer (some ⟨b3,0,none⟩)),(7,vi s1.1),(8,vi s1.2)]/\Stp [] K2 w1 κ' w'/\whileM (fo p0 p1 p2) k s1=some q2) ⟨_,_,⟨K2,((0:Int),(0:Int)),R,Jj3,hq7⟩,(KM R)⟩ ?_)
 rintro k _ w11 ⟨K12,s1,rfl,S13,h⟩
 rcases k with _ | k
 cases h
 obtain⟨o5,h,hk14⟩:=BI h;unfold fo at h
 refine Jq (Jg3 [2,2,1,2,2,1,2,2] 1 R (Jd3 R U191 R Z26 ?_))
 have f15:=f4.stp S13 R R
 refine Jb3 R I26 (f15.ld 2 R R) (Jn 1 R (Ob h λx14 hx14 h=>Jc3 R g0_2 hx14 U26 Z29 ?_))
 have f16:=g0_2.stp (S3.tr S13) R R
 obtain⟨ax14,ux14,f17,hl18⟩:=f16.gSl hx14
 refine Jb3 R I29 hl18 (Jf R (Je2 U29 R R) (Jb 1 R ?_))
 revert h
 cases ht19:decide (s1.2<(x14.length:Int))
 refine JF λh=>Jy R (Jc1 (Jt (Jt ?_)))
 cases h
 have h:=hk14
 refine Jb1 ?_
 cases h
 exact Jw1 _ ⟨K12,((s1.1:Int),(s1.2:Int)),R,S13.wk R,R⟩ (KM R)
 refine JT λh=>Jx R (Js (Jp (Jq (Jv (Je [2,1,2,2,1,2,2,1,2] R (Jd3 R U191 R Z26 (Jb3 R I26 (f15.ld 2 R R) (Jn 1 R (Ob h λx23 hx23 h=>Jc3 R f16 hx23 U26 Z29 ?_)))))))))
 obtain⟨ax23,ux23,f20,hl21⟩:=f16.gSl hx23
 refine Jb3 R I29 hl21 (Jn 1 R (Ob h λx26 hx26 h=>Jc3 R f20 hx26 U29 Z2 (Jb3 R I2 (f20.gInt hx26) (Jb 1 R (Jg3 [2,2,2,1,2,1,2,2,1,2] 2 R (Ob h λx30 hx30 h=>Jc3 R g1 hx30 U193 Z4 (Jb3 R I4 ((g1.stp (S3.tr S13) R R).gBool hx30) (Jn 1 R (Ob h λp37 h hK23=>Ju1 [(5,1),(6,2),(7,2),(8,1),(9,2)] [] (λL w'=>L=[(1,.slice a1 p1.length u1),(2,vi p2),(3,.pointer (some ⟨b3,0,none⟩)),(7,vi s1.1),(8,vi s1.2),(37,.bool p37)]/\∃κ',Stp [] K12 w11 κ' w') tv ?_ ?_)))))))))
 revert h
 cases ht24:x30
 refine JF λh=>Jd1 R R R R (Jn 2 R (Jd1 R R R R (Jn 1 R ?_)))
 cases h
 exact Jv1 _ tv ⟨R,_,Jj3⟩ (KM R)
 have S001:=(S3.tr S13)
 refine JT λh=>Jl tv R R R R (Jd2 (cs:=[.slice aa p0.owner.length ak,.slice ad p0.prio.length af,.slice ai p0.next.length ae,.slice ac p0.prev.length ab,.slice aj p0.pick.length ah]) I191 Z191 R R R (haE f15.cells)) (Jn 2 R (Ob h λx36 hx36 h=>Jh R R R C251 (nv (κ:=Mk K12) (p0:=p0) (Ji3 (g0_0.stp S001 R R)) (Ji3 (g0_1.stp S001 R R)) (Ji3 f16) (Ji3 (g0_3.stp S001 R R)) (Ji3 (g0_4.stp S001 R R)) hx36) ?_))
 rintro _ w29 ⟨k30,rfl,e31⟩
 obtain⟨K32,S33,m34⟩:=Ji e31 3 R
 refine⟨tv,Jn 1 R ?_⟩
 cases h
 exact Jv1 _ tv ⟨R,_,S33.wk R⟩ (KM R)
 rintro _ w36 _ ⟨rfl,K37,S38⟩
 have h:=hK23
 refine Jd (Ob h λq4 h hK39=>Jx1 (λL w'=>∃κ',L=[(1,.slice a1 p1.length u1),(2,vi p2),(3,.pointer (some ⟨b3,0,none⟩)),(7,vi q4),(8,vi s1.2)]/\Stp [] K37 w36 κ' w') ?_ ?_)
 revert h
 cases ht43:p37
 refine JF λh=>Jy R (Js ?_)
 cases h
 exact Jw1 _ ⟨K37,R,Jj3⟩ (KM R)
 refine JT λh=>Jx R (Jf3 R ?_)
 cases h
 exact Jw1 _ ⟨K37,R,Jj3⟩ (KM R)
 rintro _ w40 ⟨K41,rfl,S42⟩
 have h:=hK39
 refine Jz (Jp (Jf3 R ?_))
 cases h
 exact Jz1 λa ha=>⟨k,_,Ja3 _,⟨K41,((q4:Int),((IntKind.i64.wrap (s1.2+1)):Int)),R,(S13.tr (S38.tr S42)).wk R,hk14⟩,(ha.mm R)⟩
 rintro _ w8 ⟨K9,s3,rfl,S10,rfl⟩
 have h:=hK6
 dsimp only[aft]at h
 refine Jp (Je3 R (Ju (Ja2 (l:=[.tmp 6]) V237 (Jp2 R R) R ?_)))
 cases h
 exact⟨K9,R,(hE.stp (S3.tr S10) R R)⟩
theorem oZ {w:World}{κ:Col}{p0:Sig}{aa ab ad ac}{p1:Clause}(g1_1:Rd (Rp.int .i64) κ w 0 aa ab p1.A) (g1_2:Rd (Rp.int .i64) κ w 0 ad ac p1.B){r:Bool}(h:i7 p0 p1=some r):Ret Tryz.prog 180 [.agg #[vi p0.In,vi p0.Out],.agg #[vi p1.Kind,.slice aa p1.A.length ab,.slice ad p1.B.length ac]] w (λv w'=>∃(κ':Col),v= .bool r/\Ent κ w κ' w'):=by
 unfold i7 at h
 refine Ret.enter F180 R N180 R ?_
 dsimp only[envOf]
 have hE:=Ent.refl κ w
 refine Je [1,1,2] R (Jf1 (κ:=κ) 2 R R R R R R R λb2 w1 K2 S3 f4=>⟨tv,Jf1 (κ:=K2) 3 R R R R R R R λb3 w5 K6 S7 f8=>⟨tv,Jb 1 R (Jq (Jq (Js1 (κ:=K6) [2,3] none [(0,2),(1,0),(2,2),(3,2),(4,2),(5,0),(6,2),(7,2),(8,2),(9,2),(10,0),(11,0),(12,1),(13,1),(14,2),(15,2),(16,2),(17,2),(18,0),(19,0),(20,1),(21,1),(22,2),(23,2)] [] (by kernel_rfl) (by kernel_rfl) λw10 S9=>Jd3 R U119 R Z2 ?_)))⟩⟩)
 have f11:=f8.stp S9 R R
 refine Jg R (Jc2 I2 R R (hvC (f11.ld 0 R R) R)) (Jn 2 R (Ob h λp12 h hK12=>Ju1 [(4,2),(5,0),(6,2),(7,2)] [(8,2),(9,2),(10,0),(11,0),(12,1),(13,1),(14,2),(15,2),(16,2),(17,2),(18,0),(19,0),(20,1),(21,1),(22,2),(23,2)] (λL w'=>L=[(2,.pointer (some ⟨b2,0,none⟩)),(3,.pointer (some ⟨b3,0,none⟩)),(12,.bool p12)]/\∃κ',Stp [] K6 w10 κ' w') (Cl.refl _ _ _) ?_ ?_))
 revert h
 cases ht13:decide (p1.Kind<1)
 refine JF λh=>Jd3 R U119 R Z2 (Jg R (Jc2 I2 R R (hvC (f11.ld 0 R R) R)) (Jn 2 R ?_))
 cases h
 exact Jv1 _ (Cl.refl _ _ _) ⟨R,_,Jj3⟩ (KM R)
 refine JT λh=>Jn 1 R (Je1 R R R R (Jn 2 R ?_))
 cases h
 exact Jv1 _ (Cl.refl _ _ _) ⟨R,_,Jj3⟩ (KM R)
 rintro _ w14 _ ⟨rfl,K15,S16⟩
 have h:=hK12
 refine Jn 1 R (Ob h λp20 h hK17=>Ju1 [(9,2),(10,0),(11,0),(12,1),(13,1),(14,2),(15,2)] [(16,2),(17,2),(18,0),(19,0),(20,1),(21,1),(22,2),(23,2)] (λL w'=>L=[(2,.pointer (some ⟨b2,0,none⟩)),(3,.pointer (some ⟨b3,0,none⟩)),(20,.bool p20)]/\∃κ',Stp [] K15 w14 κ' w') (S16.cl R) ?_ ?_)
 revert h
 cases ht18:p12
 refine JF λh=>Jd3 R U119 R Z29 (Jg R (Jc2 I29 R R (hvC (f11.ld 1 R R) R)) (Jg R (Jd2 (cs:=[vi p0.In,vi p0.Out]) I25 Z25 R R R (haC (f4.stp (S7.tr S9) R R).cells R)) (Ob h λx17 hx17 h=>Jh R R R C130 (eU (κ:=Mk K15) (p0:=p0) hx17) ?_)))
 rintro _ w20 ⟨k21,rfl,e22⟩
 obtain⟨K23,S24,m25⟩:=Ji e22 4 R
 refine⟨((S16.tr S24).cl R),Ob h λx18 hx18 h=>Jh R R R C217 (iY (κ:=Mk K23) (Ji3 (g1_1.stp (S3.tr (S7.tr (S9.tr (S16.tr S24)))) R R)) hx18) ?_⟩
 rintro _ w28 ⟨k29,rfl,e30⟩
 obtain⟨K31,S32,m33⟩:=Ji e30 6 R
 refine⟨((S16.tr (S24.tr S32)).cl R),Jn 2 R ?_⟩
 cases h
 exact Jv1 _ ((S16.tr (S24.tr S32)).cl R) ⟨R,_,(S24.tr S32).wk R⟩ (KM R)
 refine JT λh=>Jn 1 R (Je1 R R R R (Je1 R R R R (Jd1 R R R R (Jd1 R R R R (Jn 2 R ?_)))))
 cases h
 exact Jv1 _ (S16.cl R) ⟨R,_,Jj3⟩ (KM R)
 rintro _ w35 _ ⟨rfl,K36,S37⟩
 have h:=hK17
 refine Jn 1 R (Ob h λp28 h hK38=>Ju1 [(17,2),(18,0),(19,0),(20,1),(21,1),(22,2),(23,2)] [] (λL w'=>L=[(3,.pointer (some ⟨b3,0,none⟩)),(28,.bool p28)]/\∃κ',Stp [] K36 w35 κ' w') ((S16.tr S37).cl R) ?_ ?_)
 revert h
 cases ht39:p20
 refine JF λh=>Jd3 R U119 R Z29 (Jg R (Jc2 I29 R R (hvC (f11.ld 2 R R) R)) (Jg R (Jd2 (cs:=[vi p0.In,vi p0.Out]) I25 Z25 R R R (haC (f4.stp (S7.tr S9) R R).cells R)) (Ob h λx25 hx25 h=>Jh R R R C130 (eU (κ:=Mk K36) (p0:=p0) hx25) ?_)))
 rintro _ w41 ⟨k42,rfl,e43⟩
 obtain⟨K44,S45,m46⟩:=Ji e43 4 R
 refine⟨((S16.tr (S37.tr S45)).cl R),Ob h λx26 hx26 h=>Jh R R R C217 (iY (κ:=Mk K44) (Ji3 (g1_2.stp (S3.tr (S7.tr (S9.tr (S16.tr (S37.tr S45))))) R R)) hx26) ?_⟩
 rintro _ w49 ⟨k50,rfl,e51⟩
 obtain⟨K52,S53,m54⟩:=Ji e51 6 R
 refine⟨((S16.tr (S37.tr (S45.tr S53))).cl R),Jn 2 R ?_⟩
 cases h
 exact Jv1 _ ((S16.tr (S37.tr (S45.tr S53))).cl R) ⟨R,_,(S45.tr S53).wk R⟩ (KM R)
 refine JT λh=>Jn 1 R (Je1 R R R R (Je1 R R R R (Jd1 R R R R (Jd1 R R R R (Jn 2 R ?_)))))
 cases h
 exact Jv1 _ ((S16.tr S37).cl R) ⟨R,_,Jj3⟩ (KM R)
 rintro _ w56 _ ⟨rfl,K57,S58⟩
 have h:=hK38
 refine Jt1 (Jd ?_)
 revert h
 cases ht59:p28
 refine JF λh=>Jy R (Js (Jp (Je [2,1,1,2,2,1,2,2,2,2] R (Jd3 R U119 R Z2 ?_))))
 have f61:=f11.stp (S16.tr (S37.tr S58)) R R
 refine Jb3 R I2 (f61.ld 0 R R) (Ob h λx31 hx31 h=>Jh R R R C218 (oQ (κ:=Mk K57) hx31) ?_)
 rintro _ w62 ⟨k63,rfl,e64⟩
 obtain⟨K65,S66,m67⟩:=Ji e64 4 R
 refine⟨tv,Jn 1 R (Ob h λp37 h hK69=>Ju1 [(4,2),(5,1),(6,2),(7,2),(8,2)] [(9,2)] (λL w'=>L=[(37,.bool p37)]/\∃κ',Stp [] K65 w62 κ' w') tv ?_ ?_)⟩
 revert h
 cases ht70:x31
 refine JF λh=>Jd3 R U119 R Z29 (Jb3 R I29 ((f61.stp S66 R R).ld 2 R R) (Jf R (Je2 U29 R R) (Jn 2 R ?_)))
 cases h
 exact Jv1 _ tv ⟨R,_,Jj3⟩ (KM R)
 refine JT λh=>Jn 1 R (Jd1 R R R R (Jn 3 R ?_))
 cases h
 exact Jv1 _ tv ⟨R,_,Jj3⟩ (KM R)
 rintro _ w72 _ ⟨rfl,K73,S74⟩
 have h:=hK69
 refine Jb 1 R (Ju (Ja2 (l:=[.tmp 4]) V180 (Jp2 R R) R ?_))
 cases h
 exact⟨K73,R,(hE.stp (S3.tr (S7.tr (S9.tr (S16.tr (S37.tr (S58.tr (S66.tr S74))))))) R R)⟩
 refine JT λh=>Jx R (Je3 R (Ju (Jw (Ja2 (l:=[.tmp 4]) V180 (Jp2 R R) R ?_))))
 cases h
 exact⟨K57,R,(hE.stp (S3.tr (S7.tr (S9.tr (S16.tr (S37.tr S58))))) R R)⟩
theorem cc {w:World}{κ:Col}{a0 u0}{p0:(List Int)}{p1:Int}(g0:Rd (Rp.int .i64) κ w 0 a0 u0 p0){r:Bool}(h:bN p0 p1=some r):Ret Tryz.prog 62 [.slice a0 p0.length u0,vi p1] w (λv w'=>∃(κ':Col),v= .bool r/\Ent κ w κ' w'):=by
 unfold bN at h
 refine Ret.enter F62 R N62 R ?_
 dsimp only[envOf]
 have hE:=Ent.refl κ w
 refine Je3 R (Jg3 [2,2,1,2,2] 2 R (Ob h λx7 hx7 h=>Jh R R R C63 (fN (κ:=Mk κ) (Ji3 g0) hx7) ?_))
 rintro _ w1 ⟨k2,rfl,e3⟩
 obtain⟨K4,S5,m6⟩:=Ji e3 2 R
 refine⟨tv,Jb 2 R (Ju (Ja2 (l:=[.tmp 4]) V62 (Jp2 R R) R ?_))⟩
 cases h
 exact⟨K4,R,(hE.stp S5 R R)⟩
theorem mT {w:World}{κ:Col}{ac ad aa ab}{p0:Arena}(g0_0:Rd (Rp.int .i64) κ w 0 ac ad p0.Owner) (g0_1:Rd (Rp.sl (Rp.int .i64)) κ w 0 aa ab p0.Next){r:Bool}(h:gK p0=some r):Ret Tryz.prog 194 [.agg #[.slice ac p0.Owner.length ad,.slice aa p0.Next.length ab]] w (λv w'=>∃(κ':Col),v= .bool r/\Ent κ w κ' w'):=by
 unfold gK at h
 refine Ret.enter F194 R N194 R ?_
 dsimp only[envOf]
 have hE:=Ent.refl κ w
 refine Je [1,2] R (Jf1 (κ:=κ) 2 R R R R R R R λb1 w1 K2 S3 f4=>⟨tv,Jb 1 R (Je [2,1,2,2] R (Jd3 R U104 R Z29 (Jb3 R I29 (f4.ld 0 R R) (Jf R (Je2 U29 R R) (Jb 1 R (Jq (Jg3 [2,2,2,2,2,2,2,2,1,2,2,2,2] 3 R (Ob h λp14 h hK5=>Ju1 [(3,2),(4,2),(5,2)] [(6,2),(7,2),(8,1),(9,2),(10,2),(11,2),(12,2)] (λL w'=>L=[(1,.pointer (some ⟨b1,0,none⟩)),(3,vi (p0.Owner.length:Int)),(14,.bool p14)]/\∃κ',Stp [] K2 w1 κ' w') tv ?_ ?_))))))))⟩)
 revert h
 cases ht6:decide ((p0.Owner.length:Int)<1)
 refine JF λh=>Jn 3 R ?_
 cases h
 exact Jv1 _ tv ⟨R,_,Jj3⟩ (KM R)
 refine JT λh=>Jn 3 R ?_
 cases h
 exact Jv1 _ tv ⟨R,_,Jj3⟩ (KM R)
 rintro _ w7 _ ⟨rfl,K8,S9⟩
 have h:=hK5
 refine Jn 1 R (Ob h λp21 h hK10=>Ju1 [(7,2),(8,1),(9,2),(10,2),(11,2),(12,2)] [] (λL w'=>L=[(1,.pointer (some ⟨b1,0,none⟩)),(3,vi (p0.Owner.length:Int)),(21,.bool p21)]/\∃κ',Stp [] K8 w7 κ' w') tv ?_ ?_)
 revert h
 cases ht11:p14
 refine JF λh=>Jd3 R U104 R Z26 (Jb3 R I26 ((f4.stp S9 R R).ld 1 R R) (Jf R (Je2 U26 R R) (Jn 3 R ?_)))
 cases h
 exact Jv1 _ tv ⟨R,_,Jj3⟩ (KM R)
 refine JT λh=>Jn 1 R (Jd1 R R R R (Jn 4 R ?_))
 cases h
 exact Jv1 _ tv ⟨R,_,Jj3⟩ (KM R)
 rintro _ w13 _ ⟨rfl,K14,S15⟩
 have h:=hK10
 refine Jd ?_
 revert h
 cases ht16:p21
 refine JF λh=>Jy R (Js (Jp (Jq (Je [2,1,2,2] R (Jd3 R U104 R Z26 ?_)))))
 have f18:=f4.stp (S9.tr S15) R R
 refine Jb3 R I26 (f18.ld 1 R R) (Jf R (Je2 U26 R R) (Jb 1 R ?_))
 have hN19:(p0.Next.length:Int)<=9223372036854775807:=g0_1.len_le
 refine Ob h λq2 hq21 hK20=>?_
 clear h
 refine Jx1 (λL w'=>∃κ',L=[]/\Stp [] K14 w13 κ' w'/\q2=t9 ()) ?_ ?_
 refine Jv (Jy1 (λk L w'=>∃κ' v25,L=[(1,.pointer (some ⟨b1,0,none⟩)),(3,vi (p0.Owner.length:Int)),(23,.slice aa p0.Next.length ab),(24,vi (p0.Next.length:Int)),(25,vi v25)]/\Stp [] K14 w13 κ' w'/\0<=v25/\Int.toNat ((p0.Next.length:Int)-v25)=k/\cntM (gu p0) k v25 ()=some q2) ⟨_,_,⟨K14,0,R,Jj3,(by decide),(by simp),hq21⟩,(KM R)⟩ ?_)
 rintro k _ w25 ⟨K26,v25,rfl,S27,hj19,hJ19,h⟩
 rcases k with _ | k
 have hk28:=h;obtain⟨o19,h⟩:=bO (t9 (Sum.inl ()):Bool⊕((Unit)⊕(Unit)))
 have hc19:decide (v25<(p0.Next.length:Int))=false:=Jo2 (by omega)
 refine Je3 R (Jq (Jw2 R hc19 (Jc1 (Jt (Jt ?_)))))
 cases h
 have h:=hk28
 refine Jb1 ?_
 cases h
 exact Jw1 _ ⟨K26,R,S27.wk R,R⟩ KN
 obtain⟨o19,h,hk28⟩:=BI h;unfold gu at h
 have hc19:decide (v25<(p0.Next.length:Int))=true:=Jn2 (by omega)
 refine Je3 R (Jq (Jv2 R hc19 (Js (Jp (Jq (Jv (Jg3 [2,2,1,2,2] 1 R (Ob h λx28 hx28 h=>Jc3 R g0_1 hx28 U26 Z29 ?_))))))))
 obtain⟨ax28,ux28,f30,hl31⟩:=(g0_1.stp (S3.tr (S9.tr (S15.tr S27))) R R).gSl hx28
 refine Jb3 R I29 hl31 (Jb 2 R (Je [2,1,2,2,1,2,2,2,1,2,2,1,2,2,2,2,2,2,2,2,2,2,2,2,2,2,2,1,2,2] R (Jd3 R U104 R Z29 ?_)))
 have f32:=f18.stp S27 R R
 refine Jb3 R I29 (f32.ld 0 R R) (Jn 1 R (Ob h λx33 hx33 h=>Jc3 R g0_0 hx33 U29 Z2 ?_))
 have f33:=g0_0.stp (S3.tr (S9.tr (S15.tr S27))) R R
 refine Jb3 R I2 (f33.gInt hx33) (Jn 2 R (Ob h λp43 h hK34=>Ju1 [(7,2),(8,1),(9,2),(10,2),(11,1),(12,2),(13,2)] [(14,2),(15,2),(16,2),(17,2),(18,2),(19,2),(20,2),(21,2),(22,2),(23,2),(24,2),(25,2),(26,2),(27,1),(28,2),(29,2)] (λL w'=>L=[(1,.pointer (some ⟨b1,0,none⟩)),(3,vi (p0.Owner.length:Int)),(5,.slice ax28 x28.length ux28),(23,.slice aa p0.Next.length ab),(24,vi (p0.Next.length:Int)),(25,vi v25),(43,.bool p43)]/\∃κ',Stp [] K26 w25 κ' w') tv ?_ ?_))
 revert h
 cases ht35:decide (x33<0)
 refine JF λh=>Jd3 R U104 R Z29 (Jb3 R I29 (f32.ld 0 R R) (Jn 1 R (Ob h λx40 hx40 h=>Jc3 R f33 hx40 U29 Z2 (Jb3 R I2 (f33.gInt hx40) (Jn 2 R ?_)))))
 cases h
 exact Jv1 _ tv ⟨R,_,Jj3⟩ (KM R)
 refine JT λh=>Jn 1 R (Jd1 R R R R (Jn 2 R (Jd1 R R R R (Jn 2 R ?_))))
 cases h
 exact Jv1 _ tv ⟨R,_,Jj3⟩ (KM R)
 rintro _ w36 _ ⟨rfl,K37,S38⟩
 have h:=hK34
 refine Jn 1 R (Ob h λp48 h hK39=>Ju1 [(15,2),(16,2),(17,2),(18,2)] [(19,2),(20,2),(21,2),(22,2),(23,2),(24,2),(25,2),(26,2),(27,1),(28,2),(29,2)] (λL w'=>L=[(1,.pointer (some ⟨b1,0,none⟩)),(3,vi (p0.Owner.length:Int)),(5,.slice ax28 x28.length ux28),(23,.slice aa p0.Next.length ab),(24,vi (p0.Next.length:Int)),(25,vi v25),(48,.bool p48)]/\∃κ',Stp [] K37 w36 κ' w') tv ?_ ?_)
 revert h
 cases ht40:p43
 refine JF λh=>Jn 1 R (Jf R (Je2 U29 R R) (Jn 2 R ?_))
 cases h
 exact Jv1 _ tv ⟨R,_,Jj3⟩ (KM R)
 refine JT λh=>Jn 4 R ?_
 cases h
 exact Jv1 _ tv ⟨R,_,Jj3⟩ (KM R)
 rintro _ w41 _ ⟨rfl,K42,S43⟩
 have h:=hK39
 refine Jn 1 R (Ob h λp53 h hK44=>Ju1 [(20,2),(21,2),(22,2),(23,2)] [(24,2),(25,2),(26,2),(27,1),(28,2),(29,2)] (λL w'=>L=[(1,.pointer (some ⟨b1,0,none⟩)),(3,vi (p0.Owner.length:Int)),(5,.slice ax28 x28.length ux28),(23,.slice aa p0.Next.length ab),(24,vi (p0.Next.length:Int)),(25,vi v25),(53,.bool p53)]/\∃κ',Stp [] K42 w41 κ' w') tv ?_ ?_)
 revert h
 cases ht45:p48
 refine JF λh=>Jn 1 R (Jf R (Je2 U29 R R) (Jn 2 R ?_))
 cases h
 exact Jv1 _ tv ⟨R,_,Jj3⟩ (KM R)
 refine JT λh=>Jn 4 R ?_
 cases h
 exact Jv1 _ tv ⟨R,_,Jj3⟩ (KM R)
 rintro _ w46 _ ⟨rfl,K47,S48⟩
 have h:=hK44
 refine Jn 1 R (Ob h λp59 h hK49=>Ju1 [(25,2),(26,2),(27,1),(28,2),(29,2)] [] (λL w'=>L=[(1,.pointer (some ⟨b1,0,none⟩)),(3,vi (p0.Owner.length:Int)),(23,.slice aa p0.Next.length ab),(24,vi (p0.Next.length:Int)),(25,vi v25),(59,.bool p59)]/\∃κ',Stp [] K47 w46 κ' w') tv ?_ ?_)
 revert h
 cases ht50:p53
 refine JF λh=>Jn 2 R (Ob h λx57 hx57 h=>Jh R R R C217 (iY (κ:=Mk K47) (Ji3 (f30.stp (S38.tr (S43.tr S48)) R R)) hx57) ?_)
 rintro _ w52 ⟨k53,rfl,e54⟩
 obtain⟨K55,S56,m57⟩:=Ji e54 3 R
 refine⟨tv,Jn 2 R ?_⟩
 cases h
 exact Jv1 _ tv ⟨R,_,S56.wk R⟩ (KM R)
 refine JT λh=>Jn 2 R (Jd1 R R R R (Jn 2 R ?_))
 cases h
 exact Jv1 _ tv ⟨R,_,Jj3⟩ (KM R)
 rintro _ w59 _ ⟨rfl,K60,S61⟩
 have h:=hK49
 refine Jd ?_
 revert h
 cases ht62:p59
 refine JF λh=>Jy R (Js (Jz (Jp (Jf3 R ?_))))
 have hw19:t5 .i64 (v25+1)=v25+1:=wr1 hj19 (Jm2 hc19) hN19
 rw[hw19]
 have hc19:=Jm2 hc19
 cases h
 exact Jz1 λa ha=>⟨k,_,Ja3 _,⟨K60,v25+1,R,(S27.tr (S38.tr (S43.tr (S48.tr S61)))).wk R,by omega,by omega,hk28⟩,(ha.mm R)⟩
 refine JT λh=>Jx R (Je3 R (Ju (Ja1 (Jw (Jw ?_)))))
 cases h
 obtain rfl:=Option.some.inj hk28
 have h:=hK20
 dsimp only[aft]at h
 refine Ja1 (Jq2 (Jw (Ja2 (l:=[.tmp 2]) V194 (Jp2 R R) R ?_)))
 cases h
 exact⟨K60,R,(hE.stp (S3.tr (S9.tr (S15.tr (S27.tr (S38.tr (S43.tr (S48.tr S61))))))) R R)⟩
 rintro _ w22 ⟨K23,rfl,S24,rfl⟩
 have h:=hK20
 dsimp only[aft]at h
 refine Jp (Je3 R (Ju (Ja2 (l:=[.tmp 2]) V194 (Jp2 R R) R ?_)))
 cases h
 exact⟨K23,R,(hE.stp (S3.tr (S9.tr (S15.tr S24))) R R)⟩
 refine JT λh=>Jx R (Je3 R (Ju (Jw (Ja2 (l:=[.tmp 2]) V194 (Jp2 R R) R ?_))))
 cases h
 exact⟨K14,R,(hE.stp (S3.tr (S9.tr S15)) R R)⟩
theorem ou {w:World}{κ:Col}{ac af ad ae}{p0:Arena}(g0_0:Rd (Rp.int .i64) κ w 0 ac af p0.Owner) (g0_1:Rd (Rp.sl (Rp.int .i64)) κ w 0 ad ae p0.Next){r:Arena}(h:iy p0=some r):Ret Tryz.prog 250 [.agg #[.slice ac p0.Owner.length af,.slice ad p0.Next.length ae]] w (λv w'=>∃(κ':Col) (ra0:Option Addr) (ru0:Nat) (ra1:Option Addr) (ru1:Nat),v= .agg #[.slice ra0 r.Owner.length ru0,.slice ra1 r.Next.length ru1]/\Ent κ w κ' w'/\Oc E6 2 κ' w' 2 ra0 ru0 r.Owner/\Oc (Ep.own E6 2) 29 κ' w' 3 ra1 ru1 r.Next):=by
 unfold iy at h
 refine Ret.enter F250 R N250 R ?_
 dsimp only[envOf]
 have hE:=Ent.refl κ w
 refine Je [1,1] R (Jf1 (κ:=κ) 2 R R R R R R R λb1 w1 K2 S3 f4=>⟨tv,Jg1 (κ:=K2) 3 R R R R R X104 R λb2 w5 K6 S7 f8=>⟨tv,Jd (Jq (Js1 (κ:=K6) [2] none [(1,2),(4,2),(2,0),(5,0),(0,1),(3,1),(6,1),(7,2),(8,1)] [] (by kernel_rfl) (by kernel_rfl) λw10 S9=>Jd3 R U104 R Z29 (Jd3 R U104 R Z26 ?_)))⟩⟩)
 have f11:=f4.stp (S7.tr S9) R R
 refine Jg R (Jc2 I29 R R (hvC (f11.ld 0 R R) R)) (Jg R (Jc2 I26 R R (hvC (f11.ld 1 R R) R)) (Jo1 (κ:=K6) (E:=E6) 4 R R R R R Y29 Tryzinfo2 R λa3 u3 w12 K13 S14 f15=>⟨(S14.cl R),Ob h λx6 hx6 h=>Jm1 (κ:=K13) (E:=E6) 4 [] R R R R R R R R R Y29 Tryzinfo2 R R R R f15 (Sl.srcP (bR _) (g0_0.stp (S3.tr (S7.tr (S9.tr S14))) R R)) bJ hx6 R λa6 u6 w17 K18 S19 f20=>⟨((S14.tr S19).cl R),Ob h λx9 hx9 h=>Jh R R R C254 (oh (κ:=Mk K18) (Ji3 (g0_1.stp (S3.tr (S7.tr (S9.tr (S14.tr S19)))) R R)) hx9) ?_⟩⟩))
 rintro _ w22 ⟨k23,aa,ab,rfl,e24,f25⟩
 obtain⟨K26,S27,m28⟩:=Ji e24 5 R
 refine⟨((S14.tr (S19.tr S27)).cl R),Jf R (bI (parts:=[(0,.tmp 6),(1,.tmp 9)]) (cells:=[.slice a6 x6.length u6,.slice aa x9.length ab]) R R (by kernel_rfl)) (Jj1 (κ:=K26) 3 (vc:=[.slice a6 x6.length u6,.slice aa x9.length ab]) R R R R R R R Z104 R R (f8.stp (S9.tr (S14.tr (S19.tr S27))) R R) R λw32 S33 f34=>⟨((S14.tr (S19.tr (S27.tr S33))).cl R),Jt1 (Jd (Ju (Ja2 (l:=[.cell 2 104]) V250 (bL R f34 I104 Z104 R R) R ?_)))⟩)⟩
 cases h
 exact⟨(λb=>ren [(4,2),(7,3)] (K26 b)),a6,u6,aa,ab,R,((hE.stp (S3.tr (S7.tr (S9.tr (S14.tr (S19.tr (S27.tr S33)))))) R R).map (ren [(4,2),(7,3)]) R R),((f20.stp (S27.tr S33) R R).map (ren [(4,2),(7,3)]) R R),(((f25.mx (co (bH _) _) m28 R (R:5+2=7)).stp S33 R R).map (ren [(4,2),(7,3)]) R R)⟩
end Go.Proofs.YtpcjbkgbnoocaaaGreat
