/- The walks, part 5. By program. -/
import Derived.Test.YtpcjbkgbnoocaaaGreatFns0EI
import Derived.Test.YtpcjbkgbnoocaaaGreatFns1EI
import Derived.Test.YtpcjbkgbnoocaaaGreatFns2EI
import Derived.Test.YtpcjbkgbnoocaaaGreatFns3EI
set_option linter.unusedVariables false
set_option linter.unusedSimpArgs false
open Go.IntKind renaming wrap → t5
open Sum renaming inr → t9, inl → vF
open Int renaming toNat → vH
namespace Go.Proofs.YtpcjbkgbnoocaaaGreat
open Go Go.Wk Go.Proofs
set_option maxRecDepth 100000
set_option maxHeartbeats 1000000
theorem o6 {w:World}{κ:Col}{a0 u0}{p0:(List Int)}{p1:Int}(g0:Rd (Rp.int .i64) κ w 0 a0 u0 p0){r:Bool}(h:jg p0 p1=some r):Ret Tryz.prog 104 [.slice a0 p0.length u0,vi p1] w (λv w'=>∃(κ':Col),v= .bool r/\Ent κ w κ' w'):=by
 unfold jg at h
 refine Ret.enter F104 R N104 R ?_
 dsimp only[envOf]
 have hE:=Ent.refl κ w
 refine Je3 R (Jq (Je3 R ?_))
 have hN1:(p0.length:Int)<=9223372036854775807:=g0.len_le
 refine Ob h λq2 hq3 hK2=>?_
 clear h
 refine Jx1 (λL w'=>∃κ',L=[]/\Stp [] κ w κ' w'/\q2=t9 ()) ?_ ?_
 refine Jv (Jy1 (λk L w'=>∃κ' v5,L=[(0,.slice a0 p0.length u0),(1,vi p1),(5,vi v5)]/\Stp [] κ w κ' w'/\0<=v5/\vH ((p0.length:Int)-v5)=k/\cntM (fc p0 p1) k v5 ()=some q2) ⟨_,_,⟨κ,0,R,Jj3,(by decide),(by simp),hq3⟩,(KM R)⟩ ?_)
 rintro k _ w7 ⟨K8,v5,rfl,S9,hj1,hJ1,h⟩
 rcases k with _ | k
 have hk10:=h;obtain⟨o1,h⟩:=bO (t9 (vF ()):Bool⊕((Unit)⊕(Unit)))
 have hc1:decide (v5<(p0.length:Int))=false:=Jo2 (by omega)
 refine Jq (Jg3 [2,2,2,2] 2 R (Jf R (Je2 U29 R R) (Jb 1 R (Jw2 R hc1 (Jc1 (Jt (Jt ?_)))))))
 cases h
 have h:=hk10
 refine Jb1 ?_
 cases h
 exact Jw1 _ ⟨K8,R,S9.wk R,R⟩ KN
 obtain⟨o1,h,hk10⟩:=BI h;unfold fc at h
 have hc1:decide (v5<(p0.length:Int))=true:=Jn2 (by omega)
 refine Jq (Jg3 [2,2,2,2] 2 R (Jf R (Je2 U29 R R) (Jb 1 R (Jv2 R hc1 (Js (Jp (Jq (Jv (Jg3 [2,2,2,1,2,2,1,2] 2 R (Ob h λx14 hx14 h=>Jc3 R g0 hx14 U29 Z2 (Jb3 R I2 ((g0.stp S9 R R).gInt hx14) (Jn 2 R (Ob h λx18 hx18 h=>Jh R R R C57 (cO (κ:=Mk K8) hx18) ?_)))))))))))))
 rintro _ w12 ⟨k13,rfl,e14⟩
 obtain⟨K15,S16,m17⟩:=Ji e14 2 R
 refine⟨tv,Jb 1 R ?_⟩
 revert h
 cases ht19:(!x18)
 refine JF λh=>Jy R (Js (Jz (Jp (Jf3 R ?_))))
 have hw1:t5 .i64 (v5+1)=v5+1:=wr1 hj1 (Jm2 hc1) hN1
 rw[hw1]
 have hc1:=Jm2 hc1
 cases h
 exact Jz1 λa ha=>⟨k,_,Ja3 _,⟨K15,v5+1,R,(S9.tr S16).wk R,by omega,by omega,hk10⟩,(ha.mm R)⟩
 refine JT λh=>Jx R (Je3 R (Ju (Ja1 (Jw (Jw ?_)))))
 cases h
 obtain rfl:=Option.some.inj hk10
 have h:=hK2
 dsimp only[aft]at h
 refine Ja1 (Jq2 (Jw (Ja2 (l:=[.tmp 4]) V104 (Jp2 R R) R ?_)))
 cases h
 exact⟨K15,R,(hE.stp (S9.tr S16) R R)⟩
 rintro _ w4 ⟨K5,rfl,S6,rfl⟩
 have h:=hK2
 dsimp only[aft]at h
 refine Jp (Je3 R (Ju (Ja2 (l:=[.tmp 4]) V104 (Jp2 R R) R ?_)))
 cases h
 exact⟨K5,R,(hE.stp S6 R R)⟩
theorem rf {w:World}{κ:Col}{a0 u0}{p0:(List Int)}{p1:Int}(g0:Rd (Rp.int .i64) κ w 0 a0 u0 p0){r:(List Int)}(h:g6 p0 p1=some r):Ret Tryz.prog 168 [.slice a0 p0.length u0,vi p1] w (λv w'=>∃(κ':Col) (ra0:Option Addr) (ru0:Nat),v= .slice ra0 r.length ru0/\Ent κ w κ' w'/\Rd (Rp.int .i64) κ' w' 0 ra0 ru0 r):=by
 unfold g6 at h
 refine Ret.enter F168 R N168 R ?_
 dsimp only[envOf]
 have hE:=Ent.refl κ w
 refine Je3 R (Je3 R (Jq (Ob h λq2 hq3 hK2=>?_)))
 clear h
 refine Jx1 (λL w'=>∃κ' s3,L=[(0,.slice a0 p0.length u0),(1,vi p1),(5,vi s3)]/\Stp [] κ w κ' w'/\q2=t9 s3) ?_ ?_
 refine Jv (Jy1 (λk L w'=>∃κ' s1,L=[(0,.slice a0 p0.length u0),(1,vi p1),(5,vi s1)]/\Stp [] κ w κ' w'/\whileM (er p0 p1) k s1=some q2) ⟨_,_,⟨κ,(0:Int),R,Jj3,hq3⟩,(KM R)⟩ ?_)
 rintro k _ w7 ⟨K8,s1,rfl,S9,h⟩
 rcases k with _ | k
 cases h
 obtain⟨o1,h,hk10⟩:=BI h;unfold er at h
 refine Jq (Jg3 [2,2,2,2,2,2,2,2,1,2,2,2] 2 R (Jf R (Je2 U29 R R) (Jn 2 R (Ob h λp18 h hK11=>Ju1 [(5,2),(6,2),(7,2),(8,1),(9,2),(10,2),(11,2)] [] (λL w'=>L=[(0,.slice a0 p0.length u0),(1,vi p1),(5,vi s1),(18,.bool p18)]/\∃κ',Stp [] K8 w7 κ' w') tv ?_ ?_))))
 revert h
 cases ht12:decide (s1<(p0.length:Int))
 refine JF λh=>Jn 3 R (Jd1 R R R R (Jn 3 R ?_))
 cases h
 exact Jv1 _ tv ⟨R,_,Jj3⟩ (KM R)
 refine JT λh=>Jn 2 R (Ob h λx14 hx14 h=>Jc3 R g0 hx14 U29 Z2 (Jb3 R I2 ((g0.stp S9 R R).gInt hx14) (Jn 3 R ?_)))
 cases h
 exact Jv1 _ tv ⟨R,_,Jj3⟩ (KM R)
 rintro _ w14 _ ⟨rfl,K15,S16⟩
 have h:=hK11
 refine Jd ?_
 revert h
 cases ht17:p18
 refine JF λh=>Jy R (Jc1 (Jt (Jt ?_)))
 cases h
 have h:=hk10
 refine Jb1 ?_
 cases h
 exact Jw1 _ ⟨K15,(s1:Int),R,(S9.tr S16).wk R,R⟩ (KM R)
 refine JT λh=>Jx R (Js (Jp (Jv (Jf3 R (Jz ?_)))))
 cases h
 exact Jz1 λa ha=>⟨k,_,Ja3 _,⟨K15,((IntKind.i64.wrap (s1+1)):Int),R,(S9.tr S16).wk R,hk10⟩,(ha.mm R)⟩
 rintro _ w4 ⟨K5,s3,rfl,S6,rfl⟩
 have h:=hK2
 dsimp only[aft]at h
 refine Jp (Jq (Jg3 [2,2,2,2,2,2,2,2,1,2,2,2] 2 R (Jf R (Je2 U29 R R) (Jn 2 R (Ob h λp32 h hK18=>Ju1 [(5,2),(6,2),(7,2),(8,1),(9,2),(10,2),(11,2)] [] (λL w'=>L=[(0,.slice a0 p0.length u0),(1,vi p1),(5,vi s3),(32,.bool p32)]/\∃κ',Stp [] K5 w4 κ' w') tv ?_ ?_)))))
 revert h
 cases ht19:decide (s3<(p0.length:Int))
 refine JF λh=>Jn 3 R (Jd1 R R R R (Jn 3 R ?_))
 cases h
 exact Jv1 _ tv ⟨R,_,Jj3⟩ (KM R)
 refine JT λh=>Jn 2 R (Ob h λx28 hx28 h=>Jc3 R g0 hx28 U29 Z2 (Jb3 R I2 ((g0.stp S6 R R).gInt hx28) (Jn 3 R ?_)))
 cases h
 exact Jv1 _ tv ⟨R,_,Jj3⟩ (KM R)
 rintro _ w21 _ ⟨rfl,K22,S23⟩
 have h:=hK18
 refine Jd ?_
 revert h
 cases ht24:p32
 refine JF λh=>Jy R (Js (Jp (Jg3 [2,2,2,1,2,1,1,2] 2 R (Ob h λx36 hx36 h=>Jf R (kV (k1:= .i64) (k2:= .i64) U29 Z2 (.inl ⟨R,R⟩) (.inr ⟨_,R,R⟩) hx36 g0.1 R R R) ?_))))
 have f28:=g0.stp (S6.tr S23) R R
 refine Ob h λx37 hx37 h=>Jh R R R C56 (dj (κ:=Mk K22) (Ji3 (f28.sub hx36)) hx37) ?_
 rintro _ w29 ⟨k30,ae,ad,rfl,e31,f32⟩
 obtain⟨K33,S34,m35⟩:=Ji e31 2 R
 refine⟨tv,Jn 1 R (Jn1 (κ:=K33) (E:=E6) 5 [] (parts:=[(0,.tmp 38)]) (cells:=[vi p1]) (xs:=([p1]:List Int)) R R R R R R Y29 Tryzinfo2 R R R R R R R R R R ⟨[vi p1],[],Zl K33 w29 [],Zl K33 w29 [],R,Zl.sp (l1:=[]) (l2:=[]) R,Zl.sr (l1:=[]) (l2:=[]),R,R⟩ λah af w38 K39 S40 f41=>⟨tv,Ob h λx40 hx40 h=>Jm1 (κ:=K39) (E:=E6) 4 [] R R R R R R R R R Y29 Tryzinfo2 R R R R ((f32.mx (bH _) m35 R (R:2+2=4)).stp S40 R R) (Sl.srcP (bR _) f41.rdc) bJ hx40 R λai ac w43 K44 S45 f46=>⟨tv,Jb 1 R (Jg3 [2,2,2,2,1,2] 3 R (Ob h λx44 hx44 h=>Jf R (kV (k1:= .i64) (k2:= .i64) U29 Z2 (.inr ⟨_,R,R⟩) (.inl ⟨R,R⟩) hx44 f28.1 R R R) (Ob h λx45 hx45 h=>Jm1 (κ:=K44) (E:=E6) 4 [] R R R R R R R R R Y29 Tryzinfo2 R R R R f46 (Sl.srcP (bR _) ((f28.stp (S34.tr (S40.tr S45)) R R).sub hx44)) bJ hx45 R λab aa w49 K50 S51 f52=>⟨tv,Jb 1 R (Ju ?_)⟩)))⟩⟩)⟩
 obtain⟨K53,S54,z55⟩:=dg K50 w49 4
 refine Ja2 (l:=[.tmp 4]) V168 (Jp2 R R) R ?_
 cases h
 exact⟨K53,ab,aa,R,(hE.stp (S6.tr (S23.tr (S34.tr (S40.tr (S45.tr (S51.tr S54)))))) R R),(Sl.st z55 f52.rdc)⟩
 refine JT λh=>Jx R (Je3 R (Ju (Jw (Ja2 (l:=[.tmp 4]) V168 (Jp2 R R) R ?_))))
 cases h
 exact⟨K22,a0,u0,R,(hE.stp (S6.tr S23) R R),(g0.stp (S6.tr S23) R R)⟩
theorem pH {w:World}{κ:Col}{a0 u0}{p0:(List Pair)}{a1 u1}{p1:(List Int)}{p2:Int}(g0:Rd Pair.rp κ w 0 a0 u0 p0) (g1:Rd (Rp.int .i64) κ w 0 a1 u1 p1){r:(List Int)}(h:gN p0 p1 p2=some r):Ret Tryz.prog 121 [.slice a0 p0.length u0,.slice a1 p1.length u1,vi p2] w (λv w'=>∃(κ':Col) (ra0:Option Addr) (ru0:Nat),v= .slice ra0 r.length ru0/\Ent κ w κ' w'/\Oc E6 2 κ' w' 2 ra0 ru0 r):=by
 unfold gN at h
 refine Ret.enter F121 R N121 R ?_
 dsimp only[envOf]
 have hE:=Ent.refl κ w
 refine Je3 R (Je [1,2] R (Jo1 (κ:=κ) (E:=E6) 2 R R R R R Y29 Tryzinfo2 R λaq ar w1 K2 S3 f4=>⟨tv,Jb 1 R (Je [1,2] R (Jo1 (κ:=K2) (E:=E6) 3 R R R R R Y29 Tryzinfo2 R λaw av w5 K6 S7 f8=>⟨tv,Jb 1 R (Jq (Je3 R ?_))⟩))⟩))
 have hN9:(p1.length:Int)<=9223372036854775807:=g1.len_le
 refine Ob h λq2 hq11 hK10=>?_
 clear h
 refine Jx1 (λL w'=>∃κ',∃s3:(List Int)×(List Int),∃am ak al aj,L=[(7,.slice am s3.1.length ak),(8,.slice al s3.2.length aj)]/\Stp [2,3] K6 w5 κ' w'/\Oc E6 2 κ' w' 2 am ak s3.1/\Oc E6 2 κ' w' 3 al aj s3.2/\q2=t9 s3) ?_ ?_
 refine Jv (Jy1 (λk L w'=>∃κ' v9,∃s1:(List Int)×(List Int),∃ab aa ac ad,L=[(0,.slice a0 p0.length u0),(1,.slice a1 p1.length u1),(2,vi p2),(7,.slice ab s1.1.length aa),(8,.slice ac s1.2.length ad),(9,vi v9)]/\Stp [2,3] K6 w5 κ' w'/\Oc E6 2 κ' w' 2 ab aa s1.1/\Oc E6 2 κ' w' 3 ac ad s1.2/\0<=v9/\vH ((p1.length:Int)-v9)=k/\cntM (dY p0 p1 p2) k v9 s1=some q2) ⟨_,_,⟨K6,0,((([]:List Int):(List Int)),(([]:List Int):(List Int))),aq,ar,aw,av,R,Jj3,(f4.stp S7 R R),f8,(by decide),(by simp),hq11⟩,(KM R)⟩ ?_)
 rintro k _ w17 ⟨K18,v9,s1,ab,aa,ac,ad,rfl,S19,f20,f21,hj9,hJ9,h⟩
 rcases k with _ | k
 have hk23:=h;obtain⟨o9,h⟩:=bO (t9 (vF s1):(List Int)⊕(((List Int)×(List Int))⊕((List Int)×(List Int))))
 have hc9:decide (v9<(p1.length:Int))=false:=Jo2 (by omega)
 refine Jq (Jg3 [2,2,2,2] 2 R (Jf R (Je2 U29 R R) (Jb 1 R (Jw2 R hc9 (Jc1 (Jt (Jt ?_)))))))
 cases h
 have h:=hk23
 refine Jb1 ?_
 cases h
 exact Jw1 _ ⟨K18,((s1.1:(List Int)),(s1.2:(List Int))),ab,aa,ac,ad,R,S19.wk R,f20,f21,R⟩ (KM R)
 obtain⟨o9,h,hk23⟩:=BI h;unfold dY at h
 have hc9:decide (v9<(p1.length:Int))=true:=Jn2 (by omega)
 refine Jq (Jg3 [2,2,2,2] 2 R (Jf R (Je2 U29 R R) (Jb 1 R (Jv2 R hc9 (Js (Jp (Jq (Jv (Jg3 [2,2,2,2,1,2,2,1,2,1] 3 R (Ob h λx21 hx21 h=>Jc3 R g1 hx21 U29 Z2 ?_))))))))))
 have f24:=g1.stp (S3.tr (S7.tr S19)) R R
 refine Jb3 R I2 (f24.gInt hx21) (Ob h λx23 hx23 h=>Jc3 R g0 hx23 U98 Z154 (Jd3 R U154 R Z29 ?_))
 obtain⟨cse26,hre26,hle26⟩:=((g0.stp (S3.tr (S7.tr S19)) R R)).gSt hx23
 obtain⟨ae26_0,ue26_0,ae26_1,ue26_1,rfl,fe26_0,fe26_1⟩:=Pair.un hre26
 refine Jb3 R I29 (λw' hw'=>hle26 w' hw' 1 _ R) (Jn 1 R (Ob h λx27 hx27 h=>Jh R R R C171 (kM (κ:=Mk K18) (Ji3 fe26_1) hx27) ?_))
 rintro _ w27 ⟨k28,rfl,e29⟩
 obtain⟨K30,S31,m32⟩:=Ji e29 4 R
 refine⟨tv,Jd (Ob h λq4 h hK34=>Jx1 (λL w'=>∃κ' ae af ah ai,L=[(0,.slice a0 p0.length u0),(1,.slice a1 p1.length u1),(2,vi p2),(7,.slice ae q4.1.length af),(8,.slice ah q4.2.length ai),(9,vi v9)]/\Stp [2,3] K30 w27 κ' w'/\Oc E6 2 κ' w' 2 ae af q4.1/\Oc E6 2 κ' w' 3 ah ai q4.2) ?_ ?_)⟩
 revert h
 cases ht40:x27
 refine JF λh=>Jy R (Jh3 [2,2,2,2,1,1,1,2] 3 R (Ob h λx38 hx38 h=>Jc3 R f24 hx38 U29 Z2 (Jb3 R I2 ((f24.stp S31 R R).gInt hx38) (Jn1 (κ:=K30) (E:=E6) 6 [] (parts:=[(0,.tmp 39)]) (cells:=[vi x38]) (xs:=([x38]:List Int)) R R R R R R Y29 Tryzinfo2 R R R R R R R R R R ⟨[vi x38],[],Zl K30 w27 [],Zl K30 w27 [],R,Zl.sp (l1:=[]) (l2:=[]) R,Zl.sr (l1:=[]) (l2:=[]),R,R⟩ λaB aC w53 K54 S55 f56=>⟨tv,Ob h λx41 hx41 h=>Jm1 (κ:=K54) (E:=E6) 3 [] R R R R R R R R R Y29 Tryzinfo2 R R R R (f21.stp (S31.tr S55) R R) (Sl.srcP (bR _) f56.rdc) bJ hx41 R λax ap w58 K59 S60 f61=>⟨tv,Jc 1 R ?_⟩⟩))))
 cases h
 exact Jw1 _ ⟨K59,ab,aa,ax,ap,R,(S55.tr S60).wk R,(f20.stp (S31.tr (S55.tr S60)) R R),f61⟩ (KM R)
 refine JT λh=>Jx R (Jh3 [2,2,2,2,1,1,1,2] 3 R (Ob h λx31 hx31 h=>Jc3 R f24 hx31 U29 Z2 (Jb3 R I2 ((f24.stp S31 R R).gInt hx31) (Jn1 (κ:=K30) (E:=E6) 6 [] (parts:=[(0,.tmp 32)]) (cells:=[vi x31]) (xs:=([x31]:List Int)) R R R R R R Y29 Tryzinfo2 R R R R R R R R R R ⟨[vi x31],[],Zl K30 w27 [],Zl K30 w27 [],R,Zl.sp (l1:=[]) (l2:=[]) R,Zl.sr (l1:=[]) (l2:=[]),R,R⟩ λaA az w42 K43 S44 f45=>⟨tv,Ob h λx34 hx34 h=>Jm1 (κ:=K43) (E:=E6) 2 [] R R R R R R R R R Y29 Tryzinfo2 R R R R (f20.stp (S31.tr S44) R R) (Sl.srcP (bR _) f45.rdc) bJ hx34 R λau ay w47 K48 S49 f50=>⟨tv,Jc 1 R ?_⟩⟩))))
 cases h
 exact Jw1 _ ⟨K48,au,ay,ac,ad,R,(S44.tr S49).wk R,f50,(f21.stp (S31.tr (S44.tr S49)) R R)⟩ (KM R)
 rintro _ w35 ⟨K36,ae,af,ah,ai,rfl,S37,f38,f39⟩
 have h:=hK34
 refine Jz (Jp (Jf3 R ?_))
 have hw9:t5 .i64 (v9+1)=v9+1:=wr1 hj9 (Jm2 hc9) hN9
 rw[hw9]
 have hc9:=Jm2 hc9
 cases h
 exact Jz1 λa ha=>⟨k,_,Ja3 _,⟨K36,v9+1,((q4.1:(List Int)),(q4.2:(List Int))),ae,af,ah,ai,R,(S19.tr (S31.tr S37)).wk R,f38,f39,by omega,by omega,hk23⟩,(ha.mm R)⟩
 rintro _ w12 ⟨K13,s3,am,ak,al,aj,rfl,S14,f15,f16,rfl⟩
 have h:=hK10
 dsimp only[aft]at h
 refine Jp (Jg3 [2,2,1,2] 2 R (Ob h λx44 hx44 h=>Jm1 (κ:=K13) (E:=E6) 2 [] R R R R R R R R R Y29 Tryzinfo2 R R R R f15 (Sl.srcP (bR _) f16.rdc) bJ hx44 R λan ao w63 K64 S65 f66=>⟨tv,Jb 1 R (Ju (Ja2 (l:=[.tmp 6]) V121 (Jp2 R R) R ?_))⟩))
 cases h
 exact⟨K64,an,ao,R,(hE.stp (S3.tr (S7.tr (S14.tr S65))) R R),f66⟩
theorem qy {w:World}{κ:Col}{a0 u0}{p0:(List Pair)}{a1 u1}{p1:(List Int)}{p2:Int}(g0:Rd Pair.rp κ w 0 a0 u0 p0) (g1:Rd (Rp.int .i64) κ w 0 a1 u1 p1){r:Int}(h:gW p0 p1 p2=some r):Ret Tryz.prog 124 [.slice a0 p0.length u0,.slice a1 p1.length u1,vi p2] w (λv w'=>∃(κ':Col),v=vi r/\Ent κ w κ' w'):=by
 unfold gW at h
 refine Ret.enter F124 R N124 R ?_
 dsimp only[envOf]
 have hE:=Ent.refl κ w
 refine Je3 R (Je3 R (Je3 R (Jq (Je3 R ?_))))
 have hN1:(p1.length:Int)<=9223372036854775807:=g1.len_le
 refine Ob h λq2 hq3 hK2=>?_
 clear h
 refine Jx1 (λL w'=>∃κ',∃s3:Int×Int,L=[(7,vi s3.1),(8,vi s3.2)]/\Stp [] κ w κ' w'/\q2=t9 s3) ?_ ?_
 refine Jv (Jy1 (λk L w'=>∃κ' v9,∃s1:Int×Int,L=[(0,.slice a0 p0.length u0),(1,.slice a1 p1.length u1),(2,vi p2),(7,vi s1.1),(8,vi s1.2),(9,vi v9)]/\Stp [] κ w κ' w'/\0<=v9/\vH ((p1.length:Int)-v9)=k/\cntM (d4 p0 p1 p2) k v9 s1=some q2) ⟨_,_,⟨κ,0,(((-1):Int),((-1):Int)),R,Jj3,(by decide),(by simp),hq3⟩,(KM R)⟩ ?_)
 rintro k _ w7 ⟨K8,v9,s1,rfl,S9,hj1,hJ1,h⟩
 rcases k with _ | k
 have hk10:=h;obtain⟨o1,h⟩:=bO (t9 (vF s1):Int⊕((Int×Int)⊕(Int×Int)))
 have hc1:decide (v9<(p1.length:Int))=false:=Jo2 (by omega)
 refine Jq (Jg3 [2,2,2,2] 2 R (Jf R (Je2 U29 R R) (Jb 1 R (Jw2 R hc1 (Jc1 (Jt (Jt ?_)))))))
 cases h
 have h:=hk10
 refine Jb1 ?_
 cases h
 exact Jw1 _ ⟨K8,((s1.1:Int),(s1.2:Int)),R,S9.wk R,R⟩ (KM R)
 obtain⟨o1,h,hk10⟩:=BI h;unfold d4 at h
 have hc1:decide (v9<(p1.length:Int))=true:=Jn2 (by omega)
 refine Jq (Jg3 [2,2,2,2] 2 R (Jf R (Je2 U29 R R) (Jb 1 R (Jv2 R hc1 (Js (Jp (Jq (Jv (Jq (Jg3 [2,2,2,2,1,2,2,1,2,1] 3 R (Ob h λx19 hx19 h=>Jc3 R g1 hx19 U29 Z2 ?_)))))))))))
 have f11:=g1.stp S9 R R
 refine Jb3 R I2 (f11.gInt hx19) (Ob h λx21 hx21 h=>Jc3 R g0 hx21 U98 Z154 (Jd3 R U154 R Z29 ?_))
 have f12:=g0.stp S9 R R
 obtain⟨cse13,hre13,hle13⟩:=(f12).gSt hx21
 obtain⟨ae13_0,ue13_0,ae13_1,ue13_1,rfl,fe13_0,fe13_1⟩:=Pair.un hre13
 refine Jb3 R I29 (λw' hw'=>hle13 w' hw' 0 _ R) (Jn 1 R (Ob h λx25 hx25 h=>Jh R R R C171 (kM (κ:=Mk K8) (Ji3 fe13_0) hx25) ?_))
 rintro _ w14 ⟨k15,rfl,e16⟩
 obtain⟨K17,S18,m19⟩:=Ji e16 2 R
 refine⟨tv,Jd (Ob h λq4 h hK21=>Jx1 (λL w'=>∃κ',L=[(0,.slice a0 p0.length u0),(1,.slice a1 p1.length u1),(2,vi p2),(7,vi q4),(8,vi s1.2),(9,vi v9)]/\Stp [] K17 w14 κ' w') ?_ ?_)⟩
 revert h
 cases ht25:x25
 refine JF λh=>Jy R (Js ?_)
 cases h
 exact Jw1 _ ⟨K17,R,Jj3⟩ (KM R)
 refine JT λh=>Jx R (Jf3 R ?_)
 cases h
 exact Jw1 _ ⟨K17,R,Jj3⟩ (KM R)
 rintro _ w22 ⟨K23,rfl,S24⟩
 have h:=hK21
 refine Jp (Jg3 [2,2,2,2,1,2,2,1,2,1] 3 R (Ob h λx30 hx30 h=>Jc3 R f11 hx30 U29 Z2 (Jb3 R I2 ((f11.stp (S18.tr S24) R R).gInt hx30) (Ob h λx32 hx32 h=>Jc3 R f12 hx32 U98 Z154 (Jd3 R U154 R Z29 ?_)))))
 obtain⟨cse28,hre28,hle28⟩:=((f12.stp (S18.tr S24) R R)).gSt hx32
 obtain⟨ae28_0,ue28_0,ae28_1,ue28_1,rfl,fe28_0,fe28_1⟩:=Pair.un hre28
 refine Jb3 R I29 (λw' hw'=>hle28 w' hw' 1 _ R) (Jn 1 R (Ob h λx36 hx36 h=>Jh R R R C171 (kM (κ:=Mk K23) (Ji3 fe28_1) hx36) ?_))
 rintro _ w29 ⟨k30,rfl,e31⟩
 obtain⟨K32,S33,m34⟩:=Ji e31 4 R
 refine⟨tv,Jd (Ob h λq5 h hK36=>Jx1 (λL w'=>∃κ',L=[(0,.slice a0 p0.length u0),(1,.slice a1 p1.length u1),(2,vi p2),(7,vi q4),(8,vi q5),(9,vi v9)]/\Stp [] K32 w29 κ' w') ?_ ?_)⟩
 revert h
 cases ht40:x36
 refine JF λh=>Jy R (Js ?_)
 cases h
 exact Jw1 _ ⟨K32,R,Jj3⟩ (KM R)
 refine JT λh=>Jx R (Jf3 R ?_)
 cases h
 exact Jw1 _ ⟨K32,R,Jj3⟩ (KM R)
 rintro _ w37 ⟨K38,rfl,S39⟩
 have h:=hK36
 refine Jz (Jp (Jf3 R ?_))
 have hw1:t5 .i64 (v9+1)=v9+1:=wr1 hj1 (Jm2 hc1) hN1
 rw[hw1]
 have hc1:=Jm2 hc1
 cases h
 exact Jz1 λa ha=>⟨k,_,Ja3 _,⟨K38,v9+1,((q4:Int),(q5:Int)),R,(S9.tr (S18.tr (S24.tr (S33.tr S39)))).wk R,by omega,by omega,hk10⟩,(ha.mm R)⟩
 rintro _ w4 ⟨K5,s3,rfl,S6,rfl⟩
 have h:=hK2
 dsimp only[aft]at h
 refine Jp (Jq (Jv (Jg3 [2,2,2,2,2,2,2] 3 R (Ob h λp44 h hK41=>Ju1 [(3,2),(4,2),(5,2)] [(6,2)] (λL w'=>L=[(7,vi s3.1),(8,vi s3.2),(44,.bool p44)]/\∃κ',Stp [] K5 w4 κ' w') tv ?_ ?_))))
 revert h
 cases ht42:decide (s3.1<0)
 refine JF λh=>Jn 3 R ?_
 cases h
 exact Jv1 _ tv ⟨R,_,Jj3⟩ (KM R)
 refine JT λh=>Jn 3 R ?_
 cases h
 exact Jv1 _ tv ⟨R,_,Jj3⟩ (KM R)
 rintro _ w43 _ ⟨rfl,K44,S45⟩
 have h:=hK41
 refine Jb 1 R ?_
 revert h
 cases ht46:p44
 refine JF λh=>Jy R (Je3 R ?_)
 revert h
 cases ht48:decide (s3.2<s3.1)
 refine JF λh=>Jy R (Js (Jz (Jp (Je3 R (Ju (Ja2 (l:=[.tmp 6]) V124 (Jp2 R R) R ?_))))))
 cases h
 exact⟨K44,R,(hE.stp (S6.tr S45) R R)⟩
 refine JT λh=>Jx R (Je3 R (Ju (Ja1 (Jw (Ja2 (l:=[.tmp 6]) V124 (Jp2 R R) R ?_)))))
 cases h
 exact⟨K44,R,(hE.stp (S6.tr S45) R R)⟩
 refine JT λh=>Jx R (Je3 R (Ju (Ja1 (Jw (Ja2 (l:=[.tmp 6]) V124 (Jp2 R R) R ?_)))))
 cases h
 exact⟨K44,R,(hE.stp (S6.tr S45) R R)⟩
theorem nD {w:World}{κ:Col}{p0:Sig}  {r:Int}(h:iO p0=some r):Ret Tryz.prog 73 [.agg #[vi p0.In,vi p0.Out]] w (λv w'=>∃(κ':Col),v=vi r/\Ent κ w κ' w'):=by
 unfold iO at h
 refine Ret.enter F73 R N73 R ?_
 dsimp only[envOf]
 have hE:=Ent.refl κ w
 refine Je [1,2] R (Jf1 (κ:=κ) 2 R R R R R R R λb1 w1 K2 S3 f4=>⟨tv,Jb 1 R (Je [2,1,1,2] R (Jd3 R U25 R Z2 (Jb3 R I2 (f4.ld 1 R R) (Ob h λx5 hx5 h=>Jh R R R C59 (dt (κ:=Mk K2) hx5) ?_))))⟩)
 rintro _ w5 ⟨k6,rfl,e7⟩
 obtain⟨K8,S9,m10⟩:=Ji e7 3 R
 refine⟨tv,Jb 1 R (Ju (Ja2 (l:=[.tmp 2]) V73 (Jp2 R R) R ?_))⟩
 cases h
 exact⟨K8,R,(hE.stp (S3.tr S9) R R)⟩
theorem lU {w:World}{κ:Col}{a0 u0}{p0:(List Pair)}{p1:Int}(g0:Rd Pair.rp κ w 0 a0 u0 p0){r:Bool}(h:fK p0 p1=some r):Ret Tryz.prog 197 [.slice a0 p0.length u0,vi p1] w (λv w'=>∃(κ':Col),v= .bool r/\Ent κ w κ' w'):=by
 unfold fK at h
 refine Ret.enter F197 R N197 R ?_
 dsimp only[envOf]
 have hE:=Ent.refl κ w
 refine Je3 R (Jq (Jg3 [2,2,2] 1 R (Jf R (Je2 U98 R R) (Jb 1 R ?_))))
 have hN1:(p0.length:Int)<=9223372036854775807:=g0.len_le
 refine Ob h λq2 hq3 hK2=>?_
 clear h
 refine Jx1 (λL w'=>∃κ',L=[(0,.slice a0 p0.length u0)]/\Stp [2] κ w κ' w'/\q2=t9 ()) ?_ ?_
 refine Jv (Jy1 (λk L w'=>∃κ' v9,L=[(0,.slice a0 p0.length u0),(1,vi p1),(7,.slice a0 p0.length u0),(8,vi (p0.length:Int)),(9,vi v9)]/\Stp [2] κ w κ' w'/\0<=v9/\vH ((p0.length:Int)-v9)=k/\cntM (ff p0 p1) k v9 ()=some q2) ⟨_,_,⟨κ,0,R,Jj3,(by decide),(by simp),hq3⟩,(KM R)⟩ ?_)
 rintro k _ w7 ⟨K8,v9,rfl,S9,hj1,hJ1,h⟩
 rcases k with _ | k
 have hk10:=h;obtain⟨o1,h⟩:=bO (t9 (vF ()):Bool⊕((Unit)⊕(Unit)))
 have hc1:decide (v9<(p0.length:Int))=false:=Jo2 (by omega)
 refine Je3 R (Jq (Jw2 R hc1 (Jc1 (Jt (Jt ?_)))))
 cases h
 have h:=hk10
 refine Jb1 ?_
 cases h
 exact Jw1 _ ⟨K8,R,S9.wk R,R⟩ (KM R)
 obtain⟨o1,h,hk10⟩:=BI h;unfold ff at h
 have hc1:decide (v9<(p0.length:Int))=true:=Jn2 (by omega)
 refine Je3 R (Jq (Jv2 R hc1 (Js (Jp (Jq (Jv (Je [2,1,1,1] R (Ob h λx11 hx11 h=>Jc3 R g0 hx11 U98 Z154 ?_))))))))
 obtain⟨cse12,hre12,hle12⟩:=((g0.stp S9 R R)).gSt hx11
 obtain⟨ae12_0,ue12_0,ae12_1,ue12_1,rfl,fe12_0,fe12_1⟩:=Pair.un hre12
 refine Jl tv R R R R (Jd2 (cs:=[.slice ae12_0 x11.Ask.length ue12_0,.slice ae12_1 x11.Give.length ue12_1]) I154 Z154 R R R (haE hle12)) (Jg1 (κ:=K8) 2 R R R R R X154 R λb6 w13 K14 S15 f16=>⟨tv,Jj1 (κ:=K14) 2 (vc:=[.slice ae12_0 x11.Ask.length ue12_0,.slice ae12_1 x11.Give.length ue12_1]) R R R R R R R Z154 R R f16 R λw17 S18 f19=>⟨tv,Jd (Je [2,1,2,1,2,2,2,1,2,1,2,2] R (Jd3 R U154 R Z29 (Jb3 R I29 (f19.ld 0 R R) (Jn 1 R (Ob h λx16 hx16 h=>Jh R R R C217 (iY (κ:=Mk K14) (Ji3 (fe12_0.stp (S15.tr S18) R R)) hx16) ?_)))))⟩⟩)
 rintro _ w21 ⟨k22,rfl,e23⟩
 obtain⟨K24,S25,m26⟩:=Ji e23 3 R
 refine⟨tv,Jn 2 R (Ob h λp24 h hK28=>Ju1 [(6,2),(7,1),(8,2),(9,1),(10,2),(11,2)] [] (λL w'=>L=[(0,.slice a0 p0.length u0),(1,vi p1),(7,.slice a0 p0.length u0),(8,vi (p0.length:Int)),(9,vi v9),(24,.bool p24)]/\∃κ',Stp [] K24 w21 κ' w') tv ?_ ?_)⟩
 revert h
 cases ht29:(!x16)
 refine JF λh=>Jd3 R U154 R Z29 (Jb3 R I29 ((f19.stp S25 R R).ld 1 R R) (Jn 1 R (Ob h λx22 hx22 h=>Jh R R R C217 (iY (κ:=Mk K24) (Ji3 (fe12_1.stp (S15.tr (S18.tr S25)) R R)) hx22) ?_)))
 rintro _ w32 ⟨k33,rfl,e34⟩
 obtain⟨K35,S36,m37⟩:=Ji e34 5 R
 refine⟨tv,Jn 2 R ?_⟩
 cases h
 exact Jv1 _ tv ⟨R,_,S36.wk R⟩ (KM R)
 refine JT λh=>Jn 1 R (Jd1 R R R R (Jn 1 R (Jd1 R R R R (Jn 2 R ?_))))
 cases h
 exact Jv1 _ tv ⟨R,_,Jj3⟩ (KM R)
 rintro _ w39 _ ⟨rfl,K40,S41⟩
 have h:=hK28
 refine Jd ?_
 revert h
 cases ht42:p24
 refine JF λh=>Jy R (Js (Jz (Jp (Jf3 R ?_))))
 have hw1:t5 .i64 (v9+1)=v9+1:=wr1 hj1 (Jm2 hc1) hN1
 rw[hw1]
 have hc1:=Jm2 hc1
 cases h
 exact Jz1 λa ha=>⟨k,_,Ja3 _,⟨K40,v9+1,R,(S9.tr (S15.tr (S18.tr (S25.tr S41)))).wk R,by omega,by omega,hk10⟩,(ha.mm R)⟩
 refine JT λh=>Jx R (Je3 R (Ju (Ja1 (Jw (Jw ?_)))))
 cases h
 obtain rfl:=Option.some.inj hk10
 have h:=hK2
 dsimp only[aft]at h
 refine Ja1 (Jq2 (Jw (Ja2 (l:=[.tmp 4]) V197 (Jp2 R R) R ?_)))
 cases h
 exact⟨K40,R,(hE.stp (S9.tr (S15.tr (S18.tr (S25.tr S41)))) R R)⟩
 rintro _ w4 ⟨K5,rfl,S6,rfl⟩
 have h:=hK2
 dsimp only[aft]at h
 refine Jp (Jg3 [2,2,2,2] 1 R (Jf R (Je2 U98 R R) (Jb 2 R (Ju (Ja2 (l:=[.tmp 4]) V197 (Jp2 R R) R ?_)))))
 cases h
 exact⟨K5,R,(hE.stp S6 R R)⟩
theorem oI {w:World}{κ:Col}{aa ab}{p0:Place}{c0:Int}{a2 u2}{c1:(List Int)}{b1 b2}(g0_1:Rd (Rp.int .i64) κ w 0 aa ab p0.Record) (g2:Rd (Rp.int .i64) κ w 0 a2 u2 c1) (gb1:Bc κ w 0 b1 2 [vi c0]) (gb2:Bc κ w 0 b2 29 [.slice a2 c1.length u2]){r:Bool}(h:iA p0 c0 c1=some r):Ret Tryz.prog 231 [.agg #[vi p0.At,.slice aa p0.Record.length ab],.pointer (some ⟨b1,0,none⟩),.pointer (some ⟨b2,0,none⟩)] w (λv w'=>∃(κ':Col),v= .bool r/\Ent κ w κ' w'):=by
 unfold iA at h
 refine Ret.enter F231 R N231 R ?_
 dsimp only[envOf]
 have hE:=Ent.refl κ w
 refine Je [1,2] R (Jf1 (κ:=κ) 2 R R R R R R R λb3 w1 K2 S3 f4=>⟨tv,Jb 1 R (Je [2,1,1,2,2,2,1,1,1,2,2] R (Jd3 R U116 R Z2 (Jb3 R I2 (f4.ld 0 R R) (Jb3 R I2 ((gb1.stp S3 R R).ld 0 R R) (Jn 2 R (Ob h λp14 h hK6=>Ju1 [(5,2),(6,1),(7,1),(8,1),(9,2)] [(10,2)] (λL w'=>L=[(1,.pointer (some ⟨b1,0,none⟩)),(2,.pointer (some ⟨b2,0,none⟩)),(4,.bool false),(14,.bool p14)]/\∃κ',Stp [] K2 w1 κ' w') tv ?_ ?_))))))⟩)
 revert h
 cases ht7:(p0.At==c0)
 refine JF λh=>Jn 1 R (Jd1 R R R R (Jd1 R R R R (Jd1 R R R R (Jn 1 R ?_))))
 cases h
 exact Jv1 _ tv ⟨R,_,Jj3⟩ (KM R)
 refine JT λh=>Jd3 R U116 R Z29 (Jb3 R I29 (f4.ld 1 R R) (Jb3 R I29 ((gb2.stp S3 R R).ld 0 R R) (Ob h λx13 hx13 h=>Jh R R R C65 (kg (κ:=Mk K2) (Ji3 (g0_1.stp S3 R R)) (Ji3 (g2.stp S3 R R)) hx13) ?_)))
 rintro _ w11 ⟨k12,rfl,e13⟩
 obtain⟨K14,S15,m16⟩:=Ji e13 3 R
 refine⟨tv,Jn 1 R ?_⟩
 cases h
 exact Jv1 _ tv ⟨R,_,S15.wk R⟩ (KM R)
 rintro _ w18 _ ⟨rfl,K19,S20⟩
 have h:=hK6
 refine Jb 1 R (Ju (Ja2 (l:=[.tmp 4]) V231 (Jp2 R R) R ?_))
 cases h
 exact⟨K19,R,(hE.stp (S3.tr S20) R R)⟩
theorem r6 {w:World}{κ:Col}{aa ad ab ac}{p0:Arena}(g0_0:Rd (Rp.int .i64) κ w 0 aa ad p0.Owner) (g0_1:Rd (Rp.sl (Rp.int .i64)) κ w 0 ab ac p0.Next){r:(List Int)}(h:my p0=some r):Ret Tryz.prog 142 [.agg #[.slice aa p0.Owner.length ad,.slice ab p0.Next.length ac]] w (λv w'=>∃(κ':Col) (ra0:Option Addr) (ru0:Nat),v= .slice ra0 r.length ru0/\Ent κ w κ' w'/\Oc E6 2 κ' w' 2 ra0 ru0 r):=by
 unfold my at h
 refine Ret.enter F142 R N142 R ?_
 dsimp only[envOf]
 have hE:=Ent.refl κ w
 refine Je [1,2] R (Jf1 (κ:=κ) 2 R R R R R R R λb1 w1 K2 S3 f4=>⟨tv,Jb 1 R (Je [1,1,1,2] R (Jl tv R R R R (Jd2 (cs:=[.slice aa p0.Owner.length ad,.slice ab p0.Next.length ac]) I104 Z104 R R R (haE f4.cells)) (Ob h λx4 hx4 h=>Jh R R R C193 (mZ (κ:=Mk K2) (p0:=p0) (Ji3 (g0_0.stp S3 R R)) (Ji3 (g0_1.stp S3 R R)) hx4) ?_)))⟩)
 rintro _ w7 ⟨k8,rfl,e9⟩
 obtain⟨K10,S11,m12⟩:=Ji e9 3 R
 refine⟨tv,Ob h λx5 hx5 h=>Jh R R R C192 (r8 (κ:=Mk K10) hx5) ?_⟩
 rintro _ w14 ⟨k15,af,ae,rfl,e16,f17⟩
 obtain⟨K18,S19,m20⟩:=Ji e16 5 R
 refine⟨tv,Jb 1 R (Ju (Ja2 (l:=[.tmp 2]) V142 (Jp2 R R) R ?_))⟩
 cases h
 exact⟨(λb=>ren [(7,2)] (K18 b)),af,ae,R,((hE.stp (S3.tr (S11.tr S19)) R R).map (ren [(7,2)]) R R),((f17.mx (bH _) m20 R (R:5+2=7)).map (ren [(7,2)]) R R)⟩
theorem kc {w:World}{κ:Col}{ao ar aq aw ap an ax au}{p0:solver}{p1:Int}{a2 u2}{p2:(List Bool)}{a3 u3}{p3:(List Bool)}{b0}(g0_0_0_0:Rd (Rp.int .i64) κ w 0 ao ar p0.game.Arena.Owner) (g0_0_0_1:Rd (Rp.sl (Rp.int .i64)) κ w 0 aq aw p0.game.Arena.Next) (g0_0_1:Rd (Rp.int .i64) κ w 0 ap an p0.game.Prio) (g0_1:Rd (Rp.sl (Rp.int .i64)) κ w 0 ax au p0.preds) (g2:Rd Rp.bool κ w 0 a2 u2 p2) (g3:Rd Rp.bool κ w 0 a3 u3 p3) (gb0:Bc κ w 0 b0 208 [.slice ao p0.game.Arena.Owner.length ar,.slice aq p0.game.Arena.Next.length aw,.slice ap p0.game.Prio.length an,.slice ax p0.preds.length au]){r:(List Bool)}(h:ej p0 p1 p2 p3=some r):Ret Tryz.prog 233 [.pointer (some ⟨b0,0,none⟩),vi p1,.slice a2 p2.length u2,.slice a3 p3.length u3] w (λv w'=>∃(κ':Col) (ra0:Option Addr) (ru0:Nat),v= .slice ra0 r.length ru0/\Ent κ w κ' w'/\Oc Ep.bool 4 κ' w' 2 ra0 ru0 r):=by
 unfold ej at h
 refine Ret.enter F233 R N233 R ?_
 dsimp only[envOf]
 have hE:=Ent.refl κ w
 refine Je3 R (Je [1,2,1,2] R (Jo1 (κ:=κ) (E:=Ep.bool) 2 R R R R R Y193 Tryzinfo4 R λaD aE w1 K2 S3 f4=>⟨tv,Jn 1 R (Ob h λx19 hx19 h=>?_)⟩))
 have f5:=g3.stp S3 R R
 refine Jm1 (κ:=K2) (E:=Ep.bool) 2 [] R R R R R R R R R Y193 Tryzinfo4 R R R R f4 (Sl.srcP su f5) bJ hx19 R λad ac w6 K7 S8 f9=>⟨tv,Jb 1 R (Jg3 [2,2,1,2] 1 R (Jf R (Je2 U193 R R) (Ob h λx22 hx22 h=>Jl1 (κ:=K7) (E:=E6) (z:=(0:Int)) 3 R R R R R R R Y255 Tryzinfo3 R R R R R (λ_ _ _=>R) (Ju2 hx22) λab aa w10 K11 S12 f13=>⟨tv,Jb 1 R (Jg3 [2,1,2] 1 R (Ob h λx24 hx24 h=>Jh R R R C190 (fL (κ:=Mk K11) (Ji3 (f5.stp (S8.tr S12) R R)) hx24) ?_))⟩)))⟩
 rintro _ w15 ⟨k16,az,aA,rfl,e17,f18⟩
 obtain⟨K19,S20,m21⟩:=Ji e17 4 R
 refine⟨tv,Jb 1 R (Jq (Ob h λq2 hq26 hK25=>?_))⟩
 clear h
 refine Jx1 (λL w'=>∃κ',∃s3:(List Int)×(List Bool)×(List Int),∃ay av,L=[(0,.pointer (some ⟨b0,0,none⟩)),(9,.slice ad x19.length ac)]/\Stp [2,3,6] K19 w15 κ' w'/\Oc E6 2 κ' w' 6 ay av s3.1/\Oc Ep.bool 4 κ' w' 2 ad ac s3.2.1/\x19.length=s3.2.1.length/\Oc E6 3 κ' w' 3 ab aa s3.2.2/\x22.length=s3.2.2.length/\q2=t9 s3) ?_ ?_
 refine Jv (Jy1 (λk L w'=>∃κ',∃s1:(List Int)×(List Bool)×(List Int),∃ai ah,L=[(0,.pointer (some ⟨b0,0,none⟩)),(1,vi p1),(2,.slice a2 p2.length u2),(9,.slice ad x19.length ac),(10,.slice ab x22.length aa),(11,.slice ai s1.1.length ah)]/\Stp [2,3,6] K19 w15 κ' w'/\Oc E6 2 κ' w' 6 ai ah s1.1/\Oc Ep.bool 4 κ' w' 2 ad ac s1.2.1/\x19.length=s1.2.1.length/\Oc E6 3 κ' w' 3 ab aa s1.2.2/\x22.length=s1.2.2.length/\whileM (dH p0 p1 p2) k s1=some q2) ⟨_,_,⟨K19,((x24:(List Int)),(x19:(List Bool)),(x22:(List Int))),az,aA,R,Jj3,(f18.mx (bH _) m21 R (R:4+2=6)),(f9.stp (S12.tr S20) R R),R,(f13.stp S20 R R),R,hq26⟩,(KM R)⟩ ?_)
 rintro k _ w35 ⟨K36,s1,ai,ah,rfl,S37,f38,f39,hn40,f41,hn42,h⟩
 rcases k with _ | k
 cases h
 obtain⟨o24,h,hk45⟩:=BI h;unfold dH at h
 refine Jq (Jg3 [2,2,2] 1 R (Jf R (Je2 U29 R R) (Jb 1 R ?_)))
 revert h
 cases ht46:decide (0<(s1.1.length:Int))
 refine JF λh=>Jy R (Jc1 (Jt (Jt ?_)))
 cases h
 have h:=hk45
 refine Jb1 ?_
 cases h
 exact Jw1 _ ⟨K36,((s1.1:(List Int)),(s1.2.1:(List Bool)),(s1.2.2:(List Int))),ai,ah,R,S37.wk R,f38,f39,hn40,f41,hn42,R⟩ (KM R)
 refine JT λh=>Jx R (Js (Jp (Jv (Jg3 [2,2,1,2] 1 R (Ob h λx29 hx29 h=>Jc3 R f38.rdc hx29 U29 Z2 (Jb3 R I2 (f38.rdc.gInt hx29) (Jb 1 R (Jg3 [2,2,2] 1 R (Ob h λx32 hx32 h=>Jf R (kV (k1:= .i64) (k2:= .i64) U29 Z2 (.inr ⟨_,R,R⟩) (.inl ⟨R,R⟩) hx32 f38.rdc.1 R R R) (Jb 1 R (Jg3 [2,2,2,1,2,2,1,2,2] 1 R (Jf R (ie R R) (Jd3 R U208 R Z26 ?_)))))))))))))
 have f48:=gb0.stp (S3.tr (S8.tr (S12.tr (S20.tr S37)))) R R
 refine Jb3 R I26 (f48.ld 3 R R) (Jn 1 R (Ob h λx38 hx38 h=>Jc3 R g0_1 hx38 U26 Z29 ?_))
 obtain⟨ax38,ux38,f50,hl51⟩:=(g0_1.stp (S3.tr (S8.tr (S12.tr (S20.tr S37)))) R R).gSl hx38
 refine Jb3 R I29 hl51 (Jf R (Je2 U29 R R) (Jb 1 R ?_))
 have hN52:(x38.length:Int)<=9223372036854775807:=f50.len_le
 refine Ob h λq5 hq54 hK53=>?_
 clear h
 refine Jx1 (λL w'=>∃κ',∃s6:(List Int)×(List Bool)×(List Int),∃ak aj,L=[(0,.pointer (some ⟨b0,0,none⟩)),(1,vi p1),(2,.slice a2 p2.length u2),(9,.slice ad x19.length ac),(10,.slice ab x22.length aa),(11,.slice ak s6.1.length aj)]/\Stp [2,3,6] K36 w35 κ' w'/\Oc E6 2 κ' w' 6 ak aj s6.1/\Oc Ep.bool 4 κ' w' 2 ad ac s6.2.1/\x19.length=s6.2.1.length/\Oc E6 3 κ' w' 3 ab aa s6.2.2/\x22.length=s6.2.2.length/\q5=t9 s6) ?_ ?_
 refine Jv (Jy1 (λk L w'=>∃κ' v41,∃s4:(List Int)×(List Bool)×(List Int),∃af ae,L=[(0,.pointer (some ⟨b0,0,none⟩)),(1,vi p1),(2,.slice a2 p2.length u2),(9,.slice ad x19.length ac),(10,.slice ab x22.length aa),(11,.slice af s4.1.length ae),(39,.slice ax38 x38.length ux38),(40,vi (x38.length:Int)),(41,vi v41)]/\Stp [2,3,6] K36 w35 κ' w'/\Oc E6 2 κ' w' 6 af ae s4.1/\Oc Ep.bool 4 κ' w' 2 ad ac s4.2.1/\x19.length=s4.2.1.length/\Oc E6 3 κ' w' 3 ab aa s4.2.2/\x22.length=s4.2.2.length/\0<=v41/\vH ((x38.length:Int)-v41)=k/\cntM (cW p0 p1 p2 x38) k v41 s4=some q5) ⟨_,_,⟨K36,0,((x32:(List Int)),(s1.2.1:(List Bool)),(s1.2.2:(List Int))),(subA ai ah (1:Int).toNat 1),(ah-(1:Int).toNat),R,Jj3,(f38.sub hx32),f39,hn40,f41,hn42,(by decide),(by simp),hq54⟩,(KM R)⟩ ?_)
 rintro k _ w63 ⟨K64,v41,s4,af,ae,rfl,S65,f66,f67,hn68,f69,hn70,hj52,hJ52,h⟩
 rcases k with _ | k
 have hk71:=h;obtain⟨o52,h⟩:=bO (t9 (vF s4):(List Bool)⊕(((List Int)×(List Bool)×(List Int))⊕((List Int)×(List Bool)×(List Int))))
 have hc52:decide (v41<(x38.length:Int))=false:=Jo2 (by omega)
 refine Je3 R (Jq (Jw2 R hc52 (Jc1 (Jt (Jt ?_)))))
 cases h
 have h:=hk71
 refine Jb1 ?_
 cases h
 exact Jw1 _ ⟨K64,((s4.1:(List Int)),(s4.2.1:(List Bool)),(s4.2.2:(List Int))),af,ae,R,S65.wk R,f66,f67,hn68,f69,hn70,R⟩ (KM R)
 obtain⟨o52,h,hk71⟩:=BI h;unfold cW at h
 have hc52:decide (v41<(x38.length:Int))=true:=Jn2 (by omega)
 refine Je3 R (Jq (Jv2 R hc52 (Js (Jp (Jq (Jv (Je [2,1,2] R (Ob h λx43 hx43 h=>Jc3 R f50 hx43 U29 Z2 (Jb3 R I2 ((f50.stp S65 R R).gInt hx43) (Jb 1 R (Jq (Jg3 [2,2,2,1,2,2,2,2,1,2,2] 2 R (Ob h λx47 hx47 h=>Jf R (Jf2 f67.rdc hx47 U193 Z4 R R hn68 R) (Jb3 R I4 (f67.rdc.gBool hx47) (Jn 1 R (Ob h λp55 h hK73=>Ju1 [(5,2),(6,2),(7,2),(8,1),(9,2),(10,2)] [] (λL w'=>L=[(0,.pointer (some ⟨b0,0,none⟩)),(1,vi p1),(2,.slice a2 p2.length u2),(9,.slice ad x19.length ac),(10,.slice ab x22.length aa),(11,.slice af s4.1.length ae),(14,vi x43),(39,.slice ax38 x38.length ux38),(40,vi (x38.length:Int)),(41,vi v41),(55,.bool p55)]/\∃κ',Stp [] K64 w63 κ' w') tv ?_ ?_))))))))))))))))
 revert h
 cases ht74:x47
 refine JF λh=>Jn 2 R (Ob h λx52 hx52 h=>Jc3 R g2 hx52 U193 Z4 (Jb3 R I4 ((g2.stp (S3.tr (S8.tr (S12.tr (S20.tr (S37.tr S65))))) R R).gBool hx52) (Jn 2 R ?_)))
 cases h
 exact Jv1 _ tv ⟨R,_,Jj3⟩ (KM R)
 refine JT λh=>Jn 3 R (Jd1 R R R R (Jn 2 R ?_))
 cases h
 exact Jv1 _ tv ⟨R,_,Jj3⟩ (KM R)
 rintro _ w76 _ ⟨rfl,K77,S78⟩
 have h:=hK73
 refine Jd ?_
 revert h
 cases ht79:p55
 refine JF λh=>Jy R (Js (Jp (Jq (Jg3 [2,2,2,2,2,1,2,2,1,2,2] 1 R (Jf R (ie R R) (Jd3 R U208 R Z108 (Jd3 R U108 R Z104 (Jd3 R U104 R Z29 ?_))))))))
 have f83:=f48.stp (S65.tr S78) R R
 refine Jb3 R I29 (f83.ld 0 R R) (Jn 1 R (Ob h λx63 hx63 h=>Jc3 R g0_0_0_0 hx63 U29 Z2 (Jb3 R I2 ((g0_0_0_0.stp (S3.tr (S8.tr (S12.tr (S20.tr (S37.tr (S65.tr S78)))))) R R).gInt hx63) (Jb 2 R ?_))))
 revert h
 cases ht85:(x63 !=p1)
 refine JF λh=>Jy R (Js (Jp (Jg3 [2,2,2,1] 2 R (Ob h λx110 hx110 h=>Jf R (Jf2 f67.rdc hx110 U193 Z4 R R hn68 R) (Ob h λy411 hy411 h=>Jk1 (κ:=K77) (E:=Ep.bool) 2 [] R R R R R R R R Z4 R R R R (f67.stp S78 R R) hy411 λw151 K152 S153 f154=>⟨tv,?_⟩)))))
 have hn155:x19.length=y411.length:=hn68.trans (Jt2 hy411).2.2.2.symm
 refine Jd (Jh3 [2,2,1,1,2] 2 R (Jn1 (κ:=K152) (E:=E6) 7 [] (parts:=[(0,.tmp 112)]) (cells:=[vi x43]) (xs:=([x43]:List Int)) R R R R R R Y29 Tryzinfo2 R R R R R R R R R R ⟨[vi x43],[],Zl K152 w151 [],Zl K152 w151 [],R,Zl.sp (l1:=[]) (l2:=[]) R,Zl.sr (l1:=[]) (l2:=[]),R,R⟩ λaC aB w156 K157 S158 f159=>⟨tv,Ob h λx114 hx114 h=>Jm1 (κ:=K157) (E:=E6) 6 [] R R R R R R R R R Y29 Tryzinfo2 R R R R (f66.stp (S78.tr (S153.tr S158)) R R) (Sl.srcP (bR _) f159.rdc) bJ hx114 R λam al w161 K162 S163 f164=>⟨tv,Jc 1 R (Jz (Jp (Jf3 R ?_)))⟩⟩))
 have hw52:t5 .i64 (v41+1)=v41+1:=wr1 hj52 (Jm2 hc52) hN52
 rw[hw52]
 have hc52:=Jm2 hc52
 cases h
 exact Jz1 λa ha=>⟨k,_,Ja3 _,⟨K162,v41+1,((x114:(List Int)),(y411:(List Bool)),(s4.2.2:(List Int))),am,al,R,(S65.tr (S78.tr (S153.tr (S158.tr S163)))).wk R,f164,(f154.stp (S158.tr S163) R R),hn155,(f69.stp (S78.tr (S153.tr (S158.tr S163))) R R),hn70,by omega,by omega,hk71⟩,(ha.mm R)⟩
 refine JT λh=>Jx R (Jq (Jg3 [2,2,2,1,2] 2 R (Ob h λx69 hx69 h=>Jf R (Jf2 f69.rdc hx69 U255 Z3 R R hn70 R) ?_)))
 have f86:=f69.stp S78 R R
 refine Jb3 R I3 (f86.rdc.gInt hx69) (Jb 1 R (Ob h λq7 h hK87=>Jx1 (λL w'=>∃κ',L=[(0,.pointer (some ⟨b0,0,none⟩)),(1,vi p1),(2,.slice a2 p2.length u2),(9,.slice ad x19.length ac),(10,.slice ab x22.length aa),(11,.slice af s4.1.length ae),(14,vi x43),(39,.slice ax38 x38.length ux38),(40,vi (x38.length:Int)),(41,vi v41)]/\Stp [3] K77 w76 κ' w'/\Oc E6 3 κ' w' 3 ab aa q7/\x22.length=q7.length) ?_ ?_))
 revert h
 cases ht93:(x69==0)
 refine JF λh=>Jy R (Js ?_)
 cases h
 exact Jw1 _ ⟨K77,R,Jj3,f86,hn70⟩ (KM R)
 refine JT λh=>Jx R (Jg3 [2,2,2,2,2,1,2,2,1,2,2] 1 R (Jf R (ie R R) (Jd3 R U208 R Z108 (Jd3 R U108 R Z104 (Jd3 R U104 R Z26 (Jb3 R I26 (f83.ld 1 R R) (Jn 1 R (Ob h λx79 hx79 h=>Jc3 R g0_0_0_1 hx79 U26 Z29 ?_))))))))
 obtain⟨ax79,ux79,f95,hl96⟩:=(g0_0_0_1.stp (S3.tr (S8.tr (S12.tr (S20.tr (S37.tr (S65.tr S78)))))) R R).gSl hx79
 refine Jb3 R I29 hl96 (Jf R (Je2 U29 R R) (Jb 1 R ?_))
 have hN97:(x79.length:Int)<=9223372036854775807:=f95.len_le
 refine Ob h λq9 hq99 hK98=>?_
 clear h
 refine Jx1 (λL w'=>∃κ',∃s10:(List Int),L=[(0,.pointer (some ⟨b0,0,none⟩)),(1,vi p1),(2,.slice a2 p2.length u2),(9,.slice ad x19.length ac),(10,.slice ab x22.length aa),(11,.slice af s4.1.length ae),(14,vi x43),(39,.slice ax38 x38.length ux38),(40,vi (x38.length:Int)),(41,vi v41)]/\Stp [3] K77 w76 κ' w'/\Oc E6 3 κ' w' 3 ab aa s10/\x22.length=s10.length/\q9=t9 s10) ?_ ?_
 refine Jv (Jy1 (λk L w'=>∃κ' v82,∃s8:(List Int),L=[(0,.pointer (some ⟨b0,0,none⟩)),(1,vi p1),(2,.slice a2 p2.length u2),(9,.slice ad x19.length ac),(10,.slice ab x22.length aa),(11,.slice af s4.1.length ae),(14,vi x43),(39,.slice ax38 x38.length ux38),(40,vi (x38.length:Int)),(41,vi v41),(80,.slice ax79 x79.length ux79),(81,vi (x79.length:Int)),(82,vi v82)]/\Stp [3] K77 w76 κ' w'/\Oc E6 3 κ' w' 3 ab aa s8/\x22.length=s8.length/\0<=v82/\vH ((x79.length:Int)-v82)=k/\cntM (cz p2 x43 x79) k v82 s8=some q9) ⟨_,_,⟨K77,0,(s4.2.2:(List Int)),R,Jj3,f86,hn70,(by decide),(by simp),hq99⟩,(KM R)⟩ ?_)
 rintro k _ w105 ⟨K106,v82,s8,rfl,S107,f108,hn109,hj97,hJ97,h⟩
 rcases k with _ | k
 have hk110:=h;obtain⟨o97,h⟩:=bO (t9 (vF s8):(List Bool)⊕(((List Int))⊕((List Int))))
 have hc97:decide (v82<(x79.length:Int))=false:=Jo2 (by omega)
 refine Je3 R (Jq (Jw2 R hc97 (Jc1 (Jt (Jt ?_)))))
 cases h
 have h:=hk110
 refine Jb1 ?_
 cases h
 exact Jw1 _ ⟨K106,(s8:(List Int)),R,S107.wk R,f108,hn109,R⟩ (KM R)
 obtain⟨o97,h,hk110⟩:=BI h;unfold cz at h
 have hc97:decide (v82<(x79.length:Int))=true:=Jn2 (by omega)
 refine Je3 R (Jq (Jv2 R hc97 (Js (Jp (Jq (Jv (Je [2,1,2] R (Ob h λx84 hx84 h=>Jc3 R f95 hx84 U29 Z2 (Jb3 R I2 ((f95.stp S107 R R).gInt hx84) (Jb 1 R (Jg3 [2,2,2,1] 2 R (Ob h λx88 hx88 h=>Jc3 R g2 hx88 U193 Z4 (Jb3 R I4 ((g2.stp (S3.tr (S8.tr (S12.tr (S20.tr (S37.tr (S65.tr (S78.tr S107))))))) R R).gBool hx88) (Jd (Ob h λq11 h hK113=>Jx1 (λL w'=>∃κ',L=[(0,.pointer (some ⟨b0,0,none⟩)),(1,vi p1),(2,.slice a2 p2.length u2),(9,.slice ad x19.length ac),(10,.slice ab x22.length aa),(11,.slice af s4.1.length ae),(14,vi x43),(39,.slice ax38 x38.length ux38),(40,vi (x38.length:Int)),(41,vi v41),(80,.slice ax79 x79.length ux79),(81,vi (x79.length:Int)),(82,vi v82)]/\Stp [3] K106 w105 κ' w'/\Oc E6 3 κ' w' 3 ab aa q11/\x22.length=q11.length) ?_ ?_)))))))))))))))
 revert h
 cases ht119:x88
 refine JF λh=>Jy R (Js ?_)
 cases h
 exact Jw1 _ ⟨K106,R,Jj3,f108,hn109⟩ (KM R)
 refine JT λh=>Jx R (Jh3 [2,2,2,1,2,2,1] 2 R (Ob h λx92 hx92 h=>Jf R (Jf2 f108.rdc hx92 U255 Z3 R R hn109 R) (Jb3 R I3 (f108.rdc.gInt hx92) (Jn 1 R (Ob h λx95 hx95 h=>Jf R (Jf2 f108.rdc hx95 U255 Z3 R R hn109 R) (Ob h λy409 hy409 h=>Jk1 (κ:=K106) (E:=E6) 3 [] R R R R R R R R Z3 R R R R f108 hy409 λw120 K121 S122 f123=>⟨tv,?_⟩))))))
 have hn124:x22.length=y409.length:=hn109.trans (Jt2 hy409).2.2.2.symm
 refine Jo ?_
 cases h
 exact Jw1 _ ⟨K121,R,S122.wk R,f123,hn124⟩ (KM R)
 rintro _ w114 ⟨K115,rfl,S116,f117,hn118⟩
 have h:=hK113
 refine Jz (Jp (Jf3 R ?_))
 have hw97:t5 .i64 (v82+1)=v82+1:=wr1 hj97 (Jm2 hc97) hN97
 rw[hw97]
 have hc97:=Jm2 hc97
 cases h
 exact Jz1 λa ha=>⟨k,_,Ja3 _,⟨K115,v82+1,(q11:(List Int)),R,(S107.tr S116).wk R,f117,hn118,by omega,by omega,hk110⟩,(ha.mm R)⟩
 rintro _ w100 ⟨K101,s10,rfl,S102,f103,hn104,rfl⟩
 have h:=hK98
 dsimp only[aft]at h
 cases h
 exact Jw1 _ ⟨K101,R,S102.wk R,f103,hn104⟩ (KM R)
 rintro _ w88 ⟨K89,rfl,S90,f91,hn92⟩
 have h:=hK87
 refine Jp (Jg3 [2,2,2,1,2,2,1] 2 R (Ob h λx99 hx99 h=>Jf R (Jf2 f91.rdc hx99 U255 Z3 R R hn92 R) (Jb3 R I3 (f91.rdc.gInt hx99) (Jn 1 R (Ob h λx102 hx102 h=>Jf R (Jf2 f91.rdc hx102 U255 Z3 R R hn92 R) (Ob h λy410 hy410 h=>Jk1 (κ:=K89) (E:=E6) 3 [] R R R R R R R R Z3 R R R R f91 hy410 λw125 K126 S127 f128=>⟨tv,?_⟩))))))
 have hn129:x22.length=y410.length:=hn92.trans (Jt2 hy410).2.2.2.symm
 refine Jd (Jg3 [2,2,2,1,2] 2 R (Ob h λx105 hx105 h=>Jf R (Jf2 f128.rdc hx105 U255 Z3 R R hn129 R) (Jb3 R I3 (f128.rdc.gInt hx105) (Jb 1 R ?_))))
 revert h
 cases ht130:decide (0<x105)
 refine JF λh=>Jy R (Js (Jp (Jg3 [2,2,2,1] 2 R (Ob h λx110 hx110 h=>Jf R (Jf2 f67.rdc hx110 U193 Z4 R R hn68 R) (Ob h λy411 hy411 h=>Jk1 (κ:=K126) (E:=Ep.bool) 2 [] R R R R R R R R Z4 R R R R (f67.stp (S78.tr (S90.tr S127)) R R) hy411 λw134 K135 S136 f137=>⟨tv,?_⟩)))))
 have hn138:x19.length=y411.length:=hn68.trans (Jt2 hy411).2.2.2.symm
 refine Jd (Jh3 [2,2,1,1,2] 2 R (Jn1 (κ:=K135) (E:=E6) 7 [] (parts:=[(0,.tmp 112)]) (cells:=[vi x43]) (xs:=([x43]:List Int)) R R R R R R Y29 Tryzinfo2 R R R R R R R R R R ⟨[vi x43],[],Zl K135 w134 [],Zl K135 w134 [],R,Zl.sp (l1:=[]) (l2:=[]) R,Zl.sr (l1:=[]) (l2:=[]),R,R⟩ λaC aB w139 K140 S141 f142=>⟨tv,Ob h λx114 hx114 h=>Jm1 (κ:=K140) (E:=E6) 6 [] R R R R R R R R R Y29 Tryzinfo2 R R R R (f66.stp (S78.tr (S90.tr (S127.tr (S136.tr S141)))) R R) (Sl.srcP (bR _) f142.rdc) bJ hx114 R λam al w144 K145 S146 f147=>⟨tv,Jc 1 R (Jz (Jp (Jf3 R ?_)))⟩⟩))
 have hw52:t5 .i64 (v41+1)=v41+1:=wr1 hj52 (Jm2 hc52) hN52
 rw[hw52]
 have hc52:=Jm2 hc52
 cases h
 exact Jz1 λa ha=>⟨k,_,Ja3 _,⟨K145,v41+1,((x114:(List Int)),(y411:(List Bool)),(y410:(List Int))),am,al,R,(S65.tr (S78.tr (S90.tr (S127.tr (S136.tr (S141.tr S146)))))).wk R,f147,(f137.stp (S141.tr S146) R R),hn138,(f128.stp (S136.tr (S141.tr S146)) R R),hn129,by omega,by omega,hk71⟩,(ha.mm R)⟩
 refine JT λh=>Jx R (Jc1 (Jt (Jb1 (Jp (Jf3 R ?_)))))
 have hw52:t5 .i64 (v41+1)=v41+1:=wr1 hj52 (Jm2 hc52) hN52
 rw[hw52]
 have hc52:=Jm2 hc52
 cases h
 exact Jz1 λa ha=>⟨k,_,Ja3 _,⟨K126,v41+1,((s4.1:(List Int)),(s4.2.1:(List Bool)),(y410:(List Int))),af,ae,R,(S65.tr (S78.tr (S90.tr S127))).wk R,(f66.stp (S78.tr (S90.tr S127)) R R),(f67.stp (S78.tr (S90.tr S127)) R R),hn68,f128,hn129,by omega,by omega,hk71⟩,(ha.mm R)⟩
 refine JT λh=>Jx R (Jc1 (Jt (Jb1 (Jp (Jf3 R ?_)))))
 have hw52:t5 .i64 (v41+1)=v41+1:=wr1 hj52 (Jm2 hc52) hN52
 rw[hw52]
 have hc52:=Jm2 hc52
 cases h
 exact Jz1 λa ha=>⟨k,_,Ja3 _,⟨K77,v41+1,((s4.1:(List Int)),(s4.2.1:(List Bool)),(s4.2.2:(List Int))),af,ae,R,(S65.tr S78).wk R,(f66.stp S78 R R),(f67.stp S78 R R),hn68,(f69.stp S78 R R),hn70,by omega,by omega,hk71⟩,(ha.mm R)⟩
 rintro _ w55 ⟨K56,s6,ak,aj,rfl,S57,f58,f59,hn60,f61,hn62,rfl⟩
 have h:=hK53
 dsimp only[aft]at h
 refine Jz ?_
 cases h
 exact Jz1 λa ha=>⟨k,_,Ja3 _,⟨K56,((s6.1:(List Int)),(s6.2.1:(List Bool)),(s6.2.2:(List Int))),ak,aj,R,(S37.tr S57).wk R,f58,f59,hn60,f61,hn62,hk45⟩,(ha.mm R)⟩
 rintro _ w27 ⟨K28,s3,ay,av,rfl,S29,f30,f31,hn32,f33,hn34,rfl⟩
 have h:=hK25
 dsimp only[aft]at h
 refine Jp (Je3 R (Ju (Ja2 (l:=[.tmp 8]) V233 (Jp2 R R) R ?_)))
 cases h
 exact⟨K28,ad,ac,(by simp only[hn32]),(hE.stp (S3.tr (S8.tr (S12.tr (S20.tr S29)))) R R),f31⟩
theorem d7 {w:World}{κ:Col}{a0 u0}{p0:(List Bool)}{p1:Bool}(g0:Rd Rp.bool κ w 0 a0 u0 p0){r:Bool}(h:ci p0 p1=some r):Ret Tryz.prog 234 [.slice a0 p0.length u0,.bool p1] w (λv w'=>∃(κ':Col),v= .bool r/\Ent κ w κ' w'):=by
 unfold ci at h
 refine Ret.enter F234 R N234 R ?_
 dsimp only[envOf]
 have hE:=Ent.refl κ w
 refine Je3 R (Jg3 [2,2,1,2,2] 2 R (Ob h λx7 hx7 h=>Jh R R R C249 (jH (κ:=Mk κ) (Ji3 g0) hx7) ?_))
 rintro _ w1 ⟨k2,rfl,e3⟩
 obtain⟨K4,S5,m6⟩:=Ji e3 2 R
 refine⟨tv,Jb 2 R (Ju (Ja2 (l:=[.tmp 4]) V234 (Jp2 R R) R ?_))⟩
 cases h
 exact⟨K4,R,(hE.stp S5 R R)⟩
theorem d6 {w:World}{κ:Col}{a0 u0}{p0:(List Int)}{ab aa}{c1_0:(List Place)}{c1_1:Int}{b1_0 b1_1}(g0:Rd (Rp.int .i64) κ w 0 a0 u0 p0) (g1_0:Rd Place.rp κ w 0 ab aa c1_0) (gb1_0:Bc κ w 0 b1_0 109 [.slice ab c1_0.length aa]) (gb1_1:Bc κ w 0 b1_1 2 [vi c1_1]){r:Int}(h:bV p0 c1_0 c1_1=some r):Ret Tryz.prog 91 [.slice a0 p0.length u0,.func (.func 143) #[] #[.pointer (some ⟨b1_0,0,none⟩),.pointer (some ⟨b1_1,0,none⟩)]] w (λv w'=>∃(κ':Col),v=vi r/\Ent κ w κ' w'):=by
 unfold bV at h
 refine Ret.enter F91 R N91 R ?_
 dsimp only[envOf]
 have hE:=Ent.refl κ w
 refine Je3 R (Jq (Jg3 [2,2,2] 1 R (Jf R (Je2 U29 R R) (Jb 1 R ?_))))
 have hN1:(p0.length:Int)<=9223372036854775807:=g0.len_le
 refine Ob h λq2 hq3 hK2=>?_
 clear h
 refine Jx1 (λL w'=>∃κ',L=[(1,.func (.func 143) #[] #[.pointer (some ⟨b1_0,0,none⟩),.pointer (some ⟨b1_1,0,none⟩)])]/\Stp [] κ w κ' w'/\q2=t9 ()) ?_ ?_
 refine Jv (Jy1 (λk L w'=>∃κ' v8,L=[(0,.slice a0 p0.length u0),(1,.func (.func 143) #[] #[.pointer (some ⟨b1_0,0,none⟩),.pointer (some ⟨b1_1,0,none⟩)]),(7,vi (p0.length:Int)),(8,vi v8)]/\Stp [] κ w κ' w'/\0<=v8/\vH ((p0.length:Int)-v8)=k/\cntM (bZ p0 c1_0 c1_1) k v8 ()=some q2) ⟨_,_,⟨κ,0,R,Jj3,(by decide),(by simp),hq3⟩,(KM R)⟩ ?_)
 rintro k _ w7 ⟨K8,v8,rfl,S9,hj1,hJ1,h⟩
 rcases k with _ | k
 have hk10:=h;obtain⟨o1,h⟩:=bO (t9 (vF ()):Int⊕((Unit)⊕(Unit)))
 have hc1:decide (v8<(p0.length:Int))=false:=Jo2 (by omega)
 refine Je3 R (Jq (Jw2 R hc1 (Jc1 (Jt (Jt ?_)))))
 cases h
 have h:=hk10
 refine Jb1 ?_
 cases h
 exact Jw1 _ ⟨K8,R,S9.wk R,R⟩ (KM R)
 obtain⟨o1,h,hk10⟩:=BI h;unfold bZ at h
 have hc1:decide (v8<(p0.length:Int))=true:=Jn2 (by omega)
 refine Je3 R (Jq (Jv2 R hc1 (Js (Jp (Jq (Jv (Je3 R (Jg3 [2,2,2,2,1,1] 3 R (Ob h λx14 hx14 h=>Jc3 R g0 hx14 U29 Z2 (Jb3 R I2 ((g0.stp S9 R R).gInt hx14) (Ob h λx16 hx16 h=>WO.callV R R R R R R R R C143 (m0 (κ:=Mk K8) (Ji3 (g1_0.stp S9 R R)) ((gb1_0.stp S9 R R).map (mp [] 0) R R) ((gb1_1.stp S9 R R).map (mp [] 0) R R) hx16) ?_)))))))))))
 rintro _ w15 ⟨k16,rfl,e17⟩
 obtain⟨K18,S19,m20⟩:=Ji e17 2 R
 refine⟨tv,Jd ?_⟩
 revert h
 cases ht22:x16
 refine JF λh=>Jy R (Js (Jz (Jp (Jf3 R ?_))))
 have hw1:t5 .i64 (v8+1)=v8+1:=wr1 hj1 (Jm2 hc1) hN1
 rw[hw1]
 have hc1:=Jm2 hc1
 cases h
 exact Jz1 λa ha=>⟨k,_,Ja3 _,⟨K18,v8+1,R,(S9.tr S19).wk R,by omega,by omega,hk10⟩,(ha.mm R)⟩
 refine JT λh=>Jx R (Je3 R (Ju (Ja1 (Jw (Jw ?_)))))
 cases h
 obtain rfl:=Option.some.inj hk10
 have h:=hK2
 dsimp only[aft]at h
 refine Ja1 (Jq2 (Jw (Ja2 (l:=[.tmp 4]) V91 (Jp2 R R) R ?_)))
 cases h
 exact⟨K18,R,(hE.stp (S9.tr S19) R R)⟩
 rintro _ w4 ⟨K5,rfl,S6,rfl⟩
 have h:=hK2
 dsimp only[aft]at h
 refine Jp (Je3 R (Ju (Ja2 (l:=[.tmp 4]) V91 (Jp2 R R) R ?_)))
 cases h
 exact⟨K5,R,(hE.stp S6 R R)⟩
end Go.Proofs.YtpcjbkgbnoocaaaGreat
