/- The walks, part 7. By program. -/
import Derived.Test.YtpcjbkgbnoocaaaGreatFns4EI
import Derived.Test.YtpcjbkgbnoocaaaGreatFns5EI
import Derived.Test.YtpcjbkgbnoocaaaGreatFns6EI
set_option linter.unusedVariables false
set_option linter.unusedSimpArgs false
open Go.IntKind renaming wrap → t5
open Sum renaming inr → t9, inl → vF
open Int renaming toNat → vH
namespace Go.Proofs.YtpcjbkgbnoocaaaGreat
open Go Go.Wk Go.Proofs
set_option maxRecDepth 100000
set_option maxHeartbeats 1000000
theorem jv {w:World}{κ:Col}{a0 u0}{p0:(List Clause)}(g0:Rd Clause.rp κ w 0 a0 u0 p0){r:(List Clause)}(h:eA p0=some r):Ret Tryz.prog 20 [.slice a0 p0.length u0] w (λv w'=>∃(κ':Col) (ra0:Option Addr) (ru0:Nat),v= .slice ra0 r.length ru0/\Ent κ w κ' w'/\Oc Clause.ep119 119 κ' w' 2 ra0 ru0 r):=by
 unfold eA at h
 refine Ret.enter F20 R N20 R ?_
 dsimp only[envOf]
 have hE:=Ent.refl κ w
 refine Je3 R (Jg3 [2,2,1,2] 1 R (Jf R (Je2 U44 R R) (Ob h λx7 hx7 h=>Jl1 (κ:=κ) (E:=Clause.ep119) (z:=((⟨0,([]:List Int),([]:List Int)⟩:Clause):Clause)) 2 R R R R R R R Y49 Tryzinfo119 R R R R R (λ_ _ _=>⟨[vi 0],[.slice none 0 0,.slice none 0 0],λ_=>False,λ_=>False,R,λ_ h=>h.elim,λ_ h=>h.elim,R,⟨[.slice none 0 0],[.slice none 0 0],λ_=>False,λ_=>False,R,λ_ h=>h.elim,λ_ h=>h.elim,⟨none,0,R,Ow.nil⟩,⟨none,0,R,Ow.nil⟩⟩⟩) (Ju2 hx7) λa7 u7 w1 K2 S3 f4=>⟨tv,Jb 1 R (Jq (Je3 R ?_))⟩)))
 have hN5:(p0.length:Int)<=9223372036854775807:=g0.len_le
 refine Ob h λq2 hq7 hK6=>?_
 clear h
 refine Jx1 (λL w'=>∃κ',∃s3:(List Clause),L=[(3,.slice a7 x7.length u7)]/\Stp [2,5,6] K2 w1 κ' w'/\Oc Clause.ep119 119 κ' w' 2 a7 u7 s3/\x7.length=s3.length/\q2=t9 s3) ?_ ?_
 refine Jv (Jy1 (λk L w'=>∃κ' v4,∃s1:(List Clause),L=[(0,.slice a0 p0.length u0),(3,.slice a7 x7.length u7),(4,vi v4)]/\Stp [2,5,6] K2 w1 κ' w'/\Oc Clause.ep119 119 κ' w' 2 a7 u7 s1/\x7.length=s1.length/\0<=v4/\vH ((p0.length:Int)-v4)=k/\cntM (eC p0) k v4 s1=some q2) ⟨_,_,⟨K2,0,(x7:(List Clause)),R,Jj3,f4,R,(by decide),(by simp),hq7⟩,(KM R)⟩ ?_)
 rintro k _ w13 ⟨K14,v4,s1,rfl,S15,f16,hn17,hj5,hJ5,h⟩
 rcases k with _ | k
 have hk18:=h;obtain⟨o5,h⟩:=bO (t9 (vF s1):(List Clause)⊕(((List Clause))⊕((List Clause))))
 have hc5:decide (v4<(p0.length:Int))=false:=Jo2 (by omega)
 refine Jq (Jg3 [2,2,2,2] 2 R (Jf R (Je2 U44 R R) (Jb 1 R (Jw2 R hc5 (Jc1 (Jt (Jt ?_)))))))
 cases h
 have h:=hk18
 refine Jb1 ?_
 cases h
 exact Jw1 _ ⟨K14,(s1:(List Clause)),R,S15.wk R,f16,hn17,R⟩ (KM R)
 obtain⟨o5,h,hk18⟩:=BI h;unfold eC at h
 have hc5:decide (v4<(p0.length:Int))=true:=Jn2 (by omega)
 refine Jq (Jg3 [2,2,2,2] 2 R (Jf R (Je2 U44 R R) (Jb 1 R (Jv2 R hc5 (Js (Jp (Jq (Jv (Jh3 [2,2,2,2,2,1,1,2,1] 4 R (Ob h λx18 hx18 h=>Jc3 R g0 hx18 U44 Z97 ?_))))))))))
 obtain⟨cse20,hre20,hle20⟩:=((g0.stp (S3.tr S15) R R)).gSt hx18
 obtain⟨ae20_0,ue20_0,ae20_1,ue20_1,rfl,fe20_0,fe20_1⟩:=Clause.un hre20
 refine Jl tv R R R R (Jd2 (cs:=[vi x18.Kind,.slice ae20_0 x18.A.length ue20_0,.slice ae20_1 x18.B.length ue20_1]) I97 Z97 R R R (haE hle20)) (Ob h λx20 hx20 h=>Jh R R R C76 (oT (κ:=Mk K14) (p0:=x18) (Ji3 fe20_0) (Ji3 fe20_1) hx20) ?_)
 rintro _ w21 ⟨k22,ab,ad,aa,ac,rfl,e23,f24,f25⟩
 obtain⟨K26,S27,m28⟩:=Ji e23 3 R
 refine⟨tv,Ob h λx21 hx21 h=>Jf R (Jf2 f16.rdc hx21 U49 Z119 R R hn17 R) (Ob h λy12 hy12 h=>Jk1 (κ:=K26) (E:=Clause.ep119) 2 [5,6] R R R R R R R R Z119 R ⟨[vi x20.Kind],[.slice ab x20.A.length ad,.slice aa x20.B.length ac],Zl K26 w21 [],Zl K26 w21 [5,6],R,Zl.sp (l1:=[]) (l2:=[5,6]) R,Zl.sr (l1:=[]) (l2:=[5,6]),R,⟨[.slice ab x20.A.length ad],[.slice aa x20.B.length ac],Zl K26 w21 [5],Zl K26 w21 [6],R,Zl.sp (l1:=[5]) (l2:=[6]) R,Zl.sr (l1:=[5]) (l2:=[6]),⟨_,_,R,(f24.mx (bH _) m28 R (R:3+2=5))⟩,⟨_,_,R,(f25.mx (bH _) m28 R (R:3+3=6))⟩⟩⟩ R R (f16.stp S27 R R) hy12 λw33 K34 S35 f36=>⟨tv,?_⟩)⟩
 have hn37:x7.length=y12.length:=hn17.trans (Jt2 hy12).2.2.2.symm
 refine Jo (Jz (Jp (Jf3 R ?_)))
 have hw5:t5 .i64 (v4+1)=v4+1:=wr1 hj5 (Jm2 hc5) hN5
 rw[hw5]
 have hc5:=Jm2 hc5
 cases h
 exact Jz1 λa ha=>⟨k,_,Ja3 _,⟨K34,v4+1,(y12:(List Clause)),R,(S15.tr (S27.tr S35)).wk R,f36,hn37,by omega,by omega,hk18⟩,(ha.mm R)⟩
 rintro _ w8 ⟨K9,s3,rfl,S10,f11,hn12,rfl⟩
 have h:=hK6
 dsimp only[aft]at h
 refine Jp (Je3 R (Ju (Ja2 (l:=[.tmp 2]) V20 (Jp2 R R) R ?_)))
 cases h
 exact⟨K9,a7,u7,(by simp only[hn12]),(hE.stp (S3.tr S10) R R),f11⟩
theorem kq {w:World}{κ:Col}{a0 u0}{p0:(List Int)}{p1:Int}(g0:Rd (Rp.int .i64) κ w 0 a0 u0 p0){r:Bool}(h:jM p0 p1=some r):Ret Tryz.prog 169 [.slice a0 p0.length u0,vi p1] w (λv w'=>∃(κ':Col),v= .bool r/\Ent κ w κ' w'):=by
 unfold jM at h
 refine Ret.enter F169 R N169 R ?_
 dsimp only[envOf]
 have hE:=Ent.refl κ w
 refine Je3 R (Jg3 [2,2,2,2,2,2,2,1,2,2] 1 R (Jf R (Je2 U29 R R) (Jn 3 R (Ob h λp13 h hK1=>Ju1 [(5,2),(6,2),(7,1),(8,2)] [(9,2)] (λL w'=>L=[(4,.bool false),(13,.bool p13)]/\∃κ',Stp [] κ w κ' w') tv ?_ ?_))))
 revert h
 cases ht2:decide ((p0.length:Int)<=p1)
 refine JF λh=>Jn 2 R (Jd1 R R R R (Jn 1 R ?_))
 cases h
 exact Jv1 _ tv ⟨R,_,Jj3⟩ (KM R)
 refine JT λh=>Jn 2 R (Ob h λx12 hx12 h=>Jh R R R C210 (qd (κ:=Mk κ) (Ji3 g0) hx12) ?_)
 rintro _ w3 ⟨k4,rfl,e5⟩
 obtain⟨K6,S7,m8⟩:=Ji e5 2 R
 refine⟨tv,Jn 1 R ?_⟩
 cases h
 exact Jv1 _ tv ⟨R,_,S7.wk R⟩ (KM R)
 rintro _ w10 _ ⟨rfl,K11,S12⟩
 have h:=hK1
 refine Jb 1 R (Ju (Ja2 (l:=[.tmp 4]) V169 (Jp2 R R) R ?_))
 cases h
 exact⟨K11,R,(hE.stp S12 R R)⟩
theorem mv {w:World}{κ:Col}{aa ac ad ab}{p0:Clause}{c0:Sig}{b1}(g0_1:Rd (Rp.int .i64) κ w 0 aa ac p0.A) (g0_2:Rd (Rp.int .i64) κ w 0 ad ab p0.B) (gb1:Bc κ w 0 b1 25 [vi c0.In,vi c0.Out]){r:Bool}(h:dw p0 c0=some r):Ret Tryz.prog 179 [.agg #[vi p0.Kind,.slice aa p0.A.length ac,.slice ad p0.B.length ab],.pointer (some ⟨b1,0,none⟩)] w (λv w'=>∃(κ':Col),v= .bool r/\Ent κ w κ' w'):=by
 unfold dw at h
 refine Ret.enter F179 R N179 R ?_
 dsimp only[envOf]
 have hE:=Ent.refl κ w
 refine Je [1,2] R (Jf1 (κ:=κ) 2 R R R R R R R λb2 w1 K2 S3 f4=>⟨tv,Jb 1 R (Je [1,1,1,2,2] R (Jl tv R R R R (Jd2 (cs:=[vi c0.In,vi c0.Out]) I25 Z25 R R R (haE (gb1.stp S3 R R).cells)) (Jl tv R R R R (Jd2 (cs:=[vi p0.Kind,.slice aa p0.A.length ac,.slice ad p0.B.length ab]) I119 Z119 R R R (haE f4.cells)) (Ob h λx6 hx6 h=>Jh R R R C180 (oZ (κ:=Mk K2) (p0:=c0) (p1:=p0) (Ji3 (g0_1.stp S3 R R)) (Ji3 (g0_2.stp S3 R R)) hx6) ?_))))⟩)
 rintro _ w8 ⟨k9,rfl,e10⟩
 obtain⟨K11,S12,m13⟩:=Ji e10 3 R
 refine⟨tv,Jb 2 R (Ju (Ja2 (l:=[.tmp 3]) V179 (Jp2 R R) R ?_))⟩
 cases h
 exact⟨K11,R,(hE.stp (S3.tr S12) R R)⟩
theorem jy {w:World}{κ:Col}{aE aJ aH aB}{p0:Det}{an ap au aq}{p1:Det}(g0_0:Rd (Rp.sl (Rp.int .i64)) κ w 0 aE aJ p0.Next) (g0_1:Rd Pair.rp κ w 0 aH aB p0.Pairs) (g1_0:Rd (Rp.sl (Rp.int .i64)) κ w 0 an ap p1.Next) (g1_1:Rd Pair.rp κ w 0 au aq p1.Pairs){r:Det×Bool}(h:fS p0 p1=some r):Ret Tryz.prog 131 [.agg #[.slice aE p0.Next.length aJ,.slice aH p0.Pairs.length aB],.agg #[.slice an p1.Next.length ap,.slice au p1.Pairs.length aq]] w (λv w'=>∃(κ':Col) (ra0:Option Addr) (ru0:Nat) (ra1:Option Addr) (ru1:Nat),v= .tuple #[.agg #[.slice ra0 r.1.Next.length ru0,.slice ra1 r.1.Pairs.length ru1],.bool r.2]/\Ent κ w κ' w'/\Oc (Ep.own E6 2) 29 κ' w' 2 ra0 ru0 r.1.Next/\Oc Pair.ep154 154 κ' w' 3 ra1 ru1 r.1.Pairs):=by
 unfold fS at h
 refine Ret.enter F131 R N131 R ?_
 dsimp only[envOf]
 have hE:=Ent.refl κ w
 refine Je [1,1,1,2] R (Jf1 (κ:=κ) 2 R R R R R R R λb2 w1 K2 S3 f4=>⟨tv,Jf1 (κ:=K2) 3 R R R R R R R λb3 w5 K6 S7 f8=>⟨tv,Jg1 (κ:=K6) 4 R R R R R X100 R λb4 w9 K10 S11 f12=>⟨tv,Jb 1 R (Jq (Je [2,1,2,2,1,2,2,2] R (Jd3 R U100 R Z98 ?_)))⟩⟩⟩)
 have f13:=f4.stp (S7.tr S11) R R
 refine Jb3 R I98 (f13.ld 1 R R) (Jf R (Je2 U98 R R) (Jd3 R U100 R Z98 ?_))
 have f14:=f8.stp S11 R R
 refine Jb3 R I98 (f14.ld 1 R R) (Jf R (Je2 U98 R R) (Jb 2 R ?_))
 revert h
 cases ht15:decide (4<(IntKind.i64.wrap ((p0.Pairs.length:Int)+(p1.Pairs.length:Int))))
 refine JF λh=>Jy R (Js (Jp (Je [2,1,2] R (Jf R (bI (parts:=[(0,.const (vi 0)),(1,.const (vi 0))]) (cells:=[vi 0,vi 0]) R R (by kernel_rfl)) (Jn1 (κ:=K10) (E:=(Ep.pair E6 E6)) 5 [] (parts:=[(0,.tmp 30)]) (cells:=[vi 0,vi 0]) (xs:=([(0,0)]:List (Int×Int))) R R R R R R Y198 Tryzinfo81 R R R R R R R R R R ⟨[vi 0,vi 0],[],Zl K10 w9 [],Zl K10 w9 [],R,Zl.sp (l1:=[]) (l2:=[]) R,Zl.sr (l1:=[]) (l2:=[]),⟨[vi 0],[vi 0],Zl K10 w9 [],Zl K10 w9 [],R,Zl.sp (l1:=[]) (l2:=[]) R,Zl.sr (l1:=[]) (l2:=[]),R,R⟩,R⟩ λbn bj w20 K21 S22 f23=>⟨tv,Jb 1 R (Je [2,1,1] R (Jf R (bI (parts:=[]) (cells:=[.slice none 0 0,.slice none 0 0]) R R (by kernel_rfl)) (Jg1 (κ:=K21) 6 R R R R R X100 R λb7 w24 K25 S26 f27=>⟨tv,Jj1 (κ:=K25) 6 (vc:=[.slice none 0 0,.slice none 0 0]) R R R R R R R Z100 R R f27 R λw28 S29 f30=>⟨tv,Jd (Jq (Je3 R (Ob h λq2 hq33 hK32=>?_)))⟩⟩)))⟩)))))
 clear h
 refine Jx1 (λL w'=>∃κ',∃s3:(List (Int×Int))×Int×(List (List Int)),∃ab aa ad ac,L=[(2,.pointer (some ⟨b2,0,none⟩)),(3,.pointer (some ⟨b3,0,none⟩)),(4,.pointer (some ⟨b4,0,none⟩)),(6,.slice ab s3.1.length aa),(7,.pointer (some ⟨b7,0,none⟩))]/\Stp [5,6,7,8,9] K25 w28 κ' w'/\Oc (Ep.pair E6 E6) 81 κ' w' 5 ab aa s3.1/\Oc (Ep.own E6 2) 29 κ' w' 7 ad ac s3.2.2/\Bc κ' w' 6 b7 100 [.slice ad s3.2.2.length ac,.slice none 0 0]/\q2=t9 s3) ?_ ?_
 refine Jv (Jy1 (λk L w'=>∃κ',∃s1:(List (Int×Int))×Int×(List (List Int)),∃aA ax aT aU,L=[(2,.pointer (some ⟨b2,0,none⟩)),(3,.pointer (some ⟨b3,0,none⟩)),(4,.pointer (some ⟨b4,0,none⟩)),(6,.slice aA s1.1.length ax),(7,.pointer (some ⟨b7,0,none⟩)),(8,vi s1.2.1)]/\Stp [5,6,7,8,9] K25 w28 κ' w'/\Oc (Ep.pair E6 E6) 81 κ' w' 5 aA ax s1.1/\Oc (Ep.own E6 2) 29 κ' w' 7 aT aU s1.2.2/\Bc κ' w' 6 b7 100 [.slice aT s1.2.2.length aU,.slice none 0 0]/\whileM (eK p0 p1) k s1=some q2) ⟨_,_,⟨K25,((([(0,0)]:List (Int×Int)):(List (Int×Int))),(0:Int),(([]:List (List Int)):(List (List Int)))),bn,bj,none,0,R,Jj3,(f23.stp (S26.tr S29) R R),Ow.nil,f30,hq33⟩,(KM R)⟩ ?_)
 rintro k _ w40 ⟨K41,s1,aA,ax,aT,aU,rfl,S42,f43,f44,f45,h⟩
 rcases k with _ | k
 cases h
 obtain⟨o31,h,hk47⟩:=BI h;unfold eK at h
 refine Jq (Jg3 [2,2,2,2] 2 R (Jf R (Je2 U198 R R) (Jb 1 R ?_)))
 revert h
 cases ht48:decide (s1.2.1<(s1.1.length:Int))
 refine JF λh=>Jy R (Jc1 (Jt (Jt ?_)))
 cases h
 have h:=hk47
 refine Jb1 ?_
 cases h
 exact Jw1 _ ⟨K41,((s1.1:(List (Int×Int))),(s1.2.1:Int),(s1.2.2:(List (List Int)))),aA,ax,aT,aU,R,S42.wk R,f43,f44,f45,R⟩ (KM R)
 refine JT λh=>Jx R (Js (Jp (Jq (Jv (Je [1,2] R (Jo1 (κ:=K41) (E:=E6) 8 R R R R R Y29 Tryzinfo2 R λbo bk w49 K50 S51 f52=>⟨tv,Jb 1 R (Jq (Jq (Js1 (κ:=K50) [0,2,5] none [(0,2),(2,2),(3,2),(4,2),(5,2),(10,2),(1,0),(6,0),(7,2),(8,0),(9,2)] [] (by kernel_rfl) (by kernel_rfl) λw54 S53=>Jd3 R U100 R Z26 (Jn 2 R (Ob h λx44 hx44 h=>Jc3 R f43.rdc hx44 U198 Z81 (Jf R (nh U81 Z2 R R R R) (Jn 1 R (Jg R (Jc2 I26 R R (hvC ((f13.stp (S22.tr (S26.tr (S29.tr (S42.tr (S51.tr S53))))) R R).ld 0 R R) R)) ?_))))))))⟩))))))
 have f56:=f43.stp (S51.tr S53) R R
 obtain⟨cse57,hre57,hle57⟩:=(f56.rdc).gSt hx44
 obtain⟨_,_,rfl,rfl,rfl⟩:=hre57
 refine Jg R (Jc2 I2 R R (hvC (λw' hw'=>hle57 w' hw' 0 _ R) R)) (Ob h λx47 hx47 h=>Jc3 R g0_0 hx47 U26 Z29 ?_)
 obtain⟨ax47,ux47,f59,hl60⟩:=(g0_0.stp (S3.tr (S7.tr (S11.tr (S22.tr (S26.tr (S29.tr (S42.tr (S51.tr S53)))))))) R R).gSl hx47
 refine Jg R (Jc2 I29 R R (hvC hl60 R)) (Jf R (Je2 U29 R R) (Jt1 (Jd ?_)))
 have hN61:(x47.length:Int)<=9223372036854775807:=f59.len_le
 refine Ob h λq5 hq63 hK62=>?_
 clear h
 refine Jx1 (λL w'=>∃κ',∃s6:(List (Int×Int))×(List Int),∃aY aR az aK,L=[(2,.pointer (some ⟨b2,0,none⟩)),(3,.pointer (some ⟨b3,0,none⟩)),(4,.pointer (some ⟨b4,0,none⟩)),(6,.slice aY s6.1.length aR),(7,.pointer (some ⟨b7,0,none⟩)),(8,vi s1.2.1),(9,.slice az s6.2.length aK)]/\Stp [5,8,9] K50 w54 κ' w'/\Oc (Ep.pair E6 E6) 81 κ' w' 5 aY aR s6.1/\Oc E6 2 κ' w' 8 az aK s6.2/\q5=t9 s6) ?_ ?_
 refine Jv (Jy1 (λk L w'=>∃κ' v50,∃s4:(List (Int×Int))×(List Int),∃aI aG ay aD,L=[(2,.pointer (some ⟨b2,0,none⟩)),(3,.pointer (some ⟨b3,0,none⟩)),(4,.pointer (some ⟨b4,0,none⟩)),(6,.slice aI s4.1.length aG),(7,.pointer (some ⟨b7,0,none⟩)),(8,vi s1.2.1),(9,.slice ay s4.2.length aD),(48,.slice ax47 x47.length ux47),(49,vi (x47.length:Int)),(50,vi v50)]/\Stp [5,8,9] K50 w54 κ' w'/\Oc (Ep.pair E6 E6) 81 κ' w' 5 aI aG s4.1/\Oc E6 2 κ' w' 8 ay aD s4.2/\0<=v50/\vH ((x47.length:Int)-v50)=k/\cntM (dI p1 s1 x47) k v50 s4=some q5) ⟨_,_,⟨K50,0,((s1.1:(List (Int×Int))),(([]:List Int):(List Int))),aA,ax,bo,bk,R,Jj3,f56,(f52.stp S53 R R),(by decide),(by simp),hq63⟩,(KM R)⟩ ?_)
 rintro k _ w69 ⟨K70,v50,s4,aI,aG,ay,aD,rfl,S71,f72,f73,hj61,hJ61,h⟩
 rcases k with _ | k
 have hk75:=h;obtain⟨o61,h⟩:=bO (t9 (vF s4):(Det×Bool)⊕(((List (Int×Int))×(List Int))⊕((List (Int×Int))×(List Int))))
 have hc61:decide (v50<(x47.length:Int))=false:=Jo2 (by omega)
 refine Je3 R (Jq (Jw2 R hc61 (Jc1 (Jt (Jt ?_)))))
 cases h
 have h:=hk75
 refine Jb1 ?_
 cases h
 exact Jw1 _ ⟨K70,((s4.1:(List (Int×Int))),(s4.2:(List Int))),aI,aG,ay,aD,R,S71.wk R,f72,f73,R⟩ (KM R)
 obtain⟨o61,h,hk75⟩:=BI h;unfold dI at h
 have hc61:decide (v50<(x47.length:Int))=true:=Jn2 (by omega)
 refine Je3 R (Jq (Jv2 R hc61 (Js (Jp (Jq (Jv (Jg3 [2,2,1,2,2] 1 R (Ob h λx53 hx53 h=>Jc3 R f59 hx53 U29 Z2 (Jb3 R I2 ((f59.stp S71 R R).gInt hx53) (Jb 2 R (Jq (Js1 (κ:=K70) [0,3,5] none [(0,2),(1,2),(3,2),(4,2),(5,2),(6,2),(10,2),(2,0),(7,0),(8,2),(9,0),(11,2),(12,0),(13,2),(14,1),(15,1)] [] (by kernel_rfl) (by kernel_rfl) λw78 S77=>Jn 1 R (Jd3 R U100 R Z26 (Jn 2 R (Ob h λx60 hx60 h=>Jc3 R f72.rdc hx60 U198 Z81 (Jf R (nh U81 Z2 R R R R) (Jn 1 R (Jg R (Jc2 I26 R R (hvC ((f14.stp (S22.tr (S26.tr (S29.tr (S42.tr (S51.tr (S53.tr (S71.tr S77))))))) R R).ld 0 R R) R)) ?_))))))))))))))))))
 have f80:=f72.stp S77 R R
 obtain⟨cse81,hre81,hle81⟩:=(f80.rdc).gSt hx60
 obtain⟨_,_,rfl,rfl,rfl⟩:=hre81
 refine Jg R (Jc2 I2 R R (hvC (λw' hw'=>hle81 w' hw' 1 _ R) R)) (Ob h λx63 hx63 h=>Jc3 R g1_0 hx63 U26 Z29 ?_)
 obtain⟨ax63,ux63,f83,hl84⟩:=(g1_0.stp (S3.tr (S7.tr (S11.tr (S22.tr (S26.tr (S29.tr (S42.tr (S51.tr (S53.tr (S71.tr S77)))))))))) R R).gSl hx63
 refine Jg R (Jc2 I29 R R (hvC hl84 R)) (Ob h λx66 hx66 h=>Jc3 R f83 hx66 U29 Z2 (Jg R (Jc2 I2 R R (hvC (f83.gInt hx66) R)) (Jf R (bI (parts:=[(0,.tmp 55),(1,.tmp 67)]) (cells:=[vi x53,vi x66]) R R (by kernel_rfl)) (Jg1 (κ:=K70) 9 R R R R R X81 R λb12 w85 K86 S87 f88=>⟨(S87.cl R),Jj1 (κ:=K86) 9 (vc:=[vi x53,vi x66]) R R R R R R R Z81 R R f88 R λw89 S90 f91=>⟨((S87.tr S90).cl R),Jt1 (Jd (Jg3 [2,1,1,2] 1 R (Jl tv R R R R (Jd2 (cs:=[vi x53,vi x66]) I81 Z81 R R R (haE f91.cells)) (Ob h λx71 hx71 h=>?_))))⟩⟩))))
 have f92:=f80.stp (S87.tr S90) R R
 refine Jh R R R C181 (gC (κ:=Mk K86) (p1:=(x53,x66)) (Ji3 f92.rdc) hx71) ?_
 rintro _ w93 ⟨k94,rfl,e95⟩
 obtain⟨K96,S97,m98⟩:=Ji e95 10 R
 refine⟨tv,Jb 1 R (Jq (Je3 R (Ob h λq7 h hK100=>Jx1 (λL w'=>∃κ' aP aO,L=[(2,.pointer (some ⟨b2,0,none⟩)),(3,.pointer (some ⟨b3,0,none⟩)),(4,.pointer (some ⟨b4,0,none⟩)),(6,.slice aP q7.1.length aO),(7,.pointer (some ⟨b7,0,none⟩)),(8,vi s1.2.1),(9,.slice ay s4.2.length aD),(13,vi q7.2),(48,.slice ax47 x47.length ux47),(49,vi (x47.length:Int)),(50,vi v50)]/\Stp [5] K96 w93 κ' w'/\Oc (Ep.pair E6 E6) 81 κ' w' 5 aP aO q7.1) ?_ ?_)))⟩
 revert h
 cases ht105:decide (x71<0)
 refine JF λh=>Jy R (Js ?_)
 cases h
 exact Jw1 _ ⟨K96,aI,aG,R,Jj3,(f92.stp S97 R R)⟩ (KM R)
 refine JT λh=>Jx R (Jg3 [2,2,2] 1 R (Jf R (Je2 U198 R R) (Jb 1 R (Jh3 [2,1,1,1,2] 1 R (Jl tv R R R R (Jd2 (cs:=[vi x53,vi x66]) I81 Z81 R R R (haE (f91.stp S97 R R).cells)) (Jn1 (κ:=K96) (E:=(Ep.pair E6 E6)) 12 [] (parts:=[(0,.tmp 77)]) (cells:=[vi x53,vi x66]) (xs:=([(x53,x66)]:List (Int×Int))) R R R R R R Y198 Tryzinfo81 R R R R R R R R R R ⟨[vi x53,vi x66],[],Zl K96 w93 [],Zl K96 w93 [],R,Zl.sp (l1:=[]) (l2:=[]) R,Zl.sr (l1:=[]) (l2:=[]),⟨[vi x53],[vi x66],Zl K96 w93 [],Zl K96 w93 [],R,Zl.sp (l1:=[]) (l2:=[]) R,Zl.sr (l1:=[]) (l2:=[]),R,R⟩,R⟩ λbp bz w107 K108 S109 f110=>⟨tv,Ob h λx79 hx79 h=>Jm1 (κ:=K108) (E:=(Ep.pair E6 E6)) 5 [] R R R R R R R R R Y198 Tryzinfo81 R R R R (f92.stp (S97.tr S109) R R) (Sl.srcP (ug (bR _) (bR _)) f110.rdc) bJ hx79 R λbh bi w112 K113 S114 f115=>⟨tv,Jc 1 R ?_⟩⟩))))))
 cases h
 exact Jw1 _ ⟨K113,bh,bi,R,(S109.tr S114).wk R,f115⟩ (KM R)
 rintro _ w101 ⟨K102,aP,aO,rfl,S103,f104⟩
 have h:=hK100
 refine Jp (Jh3 [2,2,1,1,2] 2 R (Jn1 (κ:=K102) (E:=E6) 12 [] (parts:=[(0,.tmp 81)]) (cells:=[vi q7.2]) (xs:=([q7.2]:List Int)) R R R R R R Y29 Tryzinfo2 R R R R R R R R R R ⟨[vi q7.2],[],Zl K102 w101 [],Zl K102 w101 [],R,Zl.sp (l1:=[]) (l2:=[]) R,Zl.sr (l1:=[]) (l2:=[]),R,R⟩ λbq bB w117 K118 S119 f120=>⟨tv,Ob h λx83 hx83 h=>Jm1 (κ:=K118) (E:=E6) 8 [] R R R R R R R R R Y29 Tryzinfo2 R R R R (f73.stp (S77.tr (S87.tr (S90.tr (S97.tr (S103.tr S119))))) R R) (Sl.srcP (bR _) f120.rdc) bJ hx83 R λbl bm w122 K123 S124 f125=>⟨tv,Jc 1 R (Jz (Jp (Jf3 R ?_)))⟩⟩))
 have hw61:t5 .i64 (v50+1)=v50+1:=wr1 hj61 (Jm2 hc61) hN61
 rw[hw61]
 have hc61:=Jm2 hc61
 cases h
 exact Jz1 λa ha=>⟨k,_,Ja3 _,⟨K123,v50+1,((q7.1:(List (Int×Int))),(x83:(List Int))),aP,aO,bl,bm,R,(S71.tr (S77.tr (S87.tr (S90.tr (S97.tr (S103.tr (S119.tr S124))))))).wk R,(f104.stp (S119.tr S124) R R),f125,by omega,by omega,hk75⟩,(ha.mm R)⟩
 rintro _ w64 ⟨K65,s6,aY,aR,az,aK,rfl,S66,f67,f68,rfl⟩
 have h:=hK62
 dsimp only[aft]at h
 refine Jp (Jq (Jg3 [2,2,2] 1 R (Jf R (Je2 U198 R R) (Jb 1 R ?_))))
 revert h
 cases ht127:decide (48<(s6.1.length:Int))
 refine JF λh=>Jy R (Js (Jp (Ja [2,1,2,1,1,2,1] R (Jd3 R U100 R Z26 ?_))))
 have f133:=f45.stp (S51.tr (S53.tr S66)) R R
 refine Jb3 R I26 (f133.ld 0 R R) (Jn 1 R (Jn1 (κ:=K65) (E:=(Ep.own E6 2)) 9 [8] (parts:=[(0,.tmp 91)]) (cells:=[.slice az s6.2.length aK]) (xs:=([s6.2]:List (List Int))) R R R R R R Y26 Tryzinfo29 R R R R R R R R R R ⟨[.slice az s6.2.length aK],[],Zl K65 w64 [8],Zl K65 w64 [],R,Zl.sp (l1:=[8]) (l2:=[]) R,Zl.sr (l1:=[8]) (l2:=[]),⟨_,_,R,f68⟩,R⟩ λbA bu w134 K135 S136 f137=>⟨tv,Ob h λx93 hx93 h=>Jm1 (κ:=K135) (E:=(Ep.own E6 2)) 7 [9] R R R R R R R R R Y26 Tryzinfo29 R R R R (f44.stp (S51.tr (S53.tr (S66.tr S136))) R R) f137.src (dc R) hx93 R λbe bg w139 K140 S141 f142=>⟨tv,Jd3 R U100 R Z26 (Ji1 (κ:=K140) 6 (off:=0) (vc:=[.slice be x93.length bg]) (cs':=[.slice be x93.length bg,.slice none 0 0]) R R R R R R R Z26 R R (f133.stp (S136.tr S141) R R) R R λw144 S145 f146=>⟨tv,Jo (Jz (Jp (Jf3 R ?_)))⟩)⟩⟩))
 cases h
 exact Jz1 λa ha=>⟨k,_,Ja3 _,⟨K140,((s6.1:(List (Int×Int))),((IntKind.i64.wrap (s1.2.1+1)):Int),(x93:(List (List Int)))),aY,aR,be,bg,R,(S42.tr (S51.tr (S53.tr (S66.tr (S136.tr (S141.tr S145)))))).wk R,(f67.stp (S136.tr (S141.tr S145)) R R),(f142.stp S145 R R),f146,hk47⟩,(ha.mm R)⟩
 refine JT λh=>Jx R (Je [2,1,2] R (Jf R (bI (parts:=[]) (cells:=[.slice none 0 0,.slice none 0 0]) R R (by kernel_rfl)) (Jj1 (κ:=K65) 4 (vc:=[.slice none 0 0,.slice none 0 0]) R R R R R R R Z100 R R (f12.stp (S22.tr (S26.tr (S29.tr (S42.tr (S51.tr (S53.tr S66)))))) R R) R λw129 S130 f131=>⟨tv,Jb 1 R (Ju (Jw (Ja1 (Jw (Jw ?_)))))⟩)))
 cases h
 obtain rfl:=Option.some.inj hk47
 have h:=hK32
 dsimp only[aft]at h
 refine Ja1 (Jq2 (Jw (Ja2 (l:=[.cell 4 100,.tmp 5]) V131 (bL R f131 I100 Z100 R (Jp2 R R)) R ?_)))
 cases h
 exact⟨K65,none,0,none,0,R,(hE.stp (S3.tr (S7.tr (S11.tr (S22.tr (S26.tr (S29.tr (S42.tr (S51.tr (S53.tr (S66.tr S130)))))))))) R R),Ow.nil,Ow.nil⟩
 rintro _ w34 ⟨K35,s3,ab,aa,ad,ac,rfl,S36,f37,f38,f39,rfl⟩
 have h:=hK32
 dsimp only[aft]at h
 have S001:=(S3.tr (S7.tr (S11.tr (S22.tr (S26.tr (S29.tr S36))))))
 have S002:=(S22.tr (S26.tr (S29.tr S36)))
 refine Jp (Jq (Je [1,1,1,2,2] R (Jl tv R R R R (Jd2 (cs:=[.slice aE p0.Next.length aJ,.slice aH p0.Pairs.length aB]) I100 Z100 R R R (haE (f13.stp S002 R R).cells)) (Jl tv R R R R (Jd2 (cs:=[.slice an p1.Next.length ap,.slice au p1.Pairs.length aq]) I100 Z100 R R R (haE (f14.stp S002 R R).cells)) (Jn1 (κ:=K35) (E:=(Ep.fz Det.rp)) 8 [] (parts:=[(0,.tmp 95),(1,.tmp 96)]) (cells:=[.slice aE p0.Next.length aJ,.slice aH p0.Pairs.length aB,.slice an p1.Next.length ap,.slice au p1.Pairs.length aq]) (xs:=([p0,p1]:List Det)) R R R R R R Y200 Tryzinfo100 R R R R R R R R R R ⟨[.slice aE p0.Next.length aJ,.slice aH p0.Pairs.length aB],[.slice an p1.Next.length ap,.slice au p1.Pairs.length aq],Zl K35 w34 [],Zl K35 w34 [],R,Zl.sp (l1:=[]) (l2:=[]) R,Zl.sr (l1:=[]) (l2:=[]),(Det.mk_rel (Sl.z1 (g0_0.stp S001 R R)) (Sl.z1 (g0_1.stp S001 R R))),⟨[.slice an p1.Next.length ap,.slice au p1.Pairs.length aq],[],Zl K35 w34 [],Zl K35 w34 [],R,Zl.sp (l1:=[]) (l2:=[]) R,Zl.sr (l1:=[]) (l2:=[]),(Det.mk_rel (Sl.z1 (g1_0.stp S001 R R)) (Sl.z1 (g1_1.stp S001 R R))),R⟩⟩ λak ai w155 K156 S157 f158=>⟨tv,Jf R (Je2 U200 R R) (Jb 1 R ?_)⟩)))))
 have hN159:(([p0,p1]:List Det).length:Int)<=9223372036854775807:=f158.len_le
 refine Ob h λq9 hq161 hK160=>?_
 clear h
 refine Jx1 (λL w'=>∃κ',∃s10:(List Pair),∃av ar,L=[(4,.pointer (some ⟨b4,0,none⟩)),(7,.pointer (some ⟨b7,0,none⟩))]/\Stp [6,9,10,11,12,13,14,15] K156 w155 κ' w'/\Oc Pair.ep154 154 κ' w' 9 av ar s10/\Bc κ' w' 6 b7 100 [.slice ad s3.2.2.length ac,.slice av s10.length ar]/\q9=t9 s10) ?_ ?_
 refine Jv (Jy1 (λk L w'=>∃κ' v99,∃s8:(List Pair),∃aM aL,L=[(4,.pointer (some ⟨b4,0,none⟩)),(6,.slice ab s3.1.length aa),(7,.pointer (some ⟨b7,0,none⟩)),(97,.slice ak ([p0,p1]:List Det).length ai),(98,vi (([p0,p1]:List Det).length:Int)),(99,vi v99)]/\Stp [6,9,10,11,12,13,14,15] K156 w155 κ' w'/\Oc Pair.ep154 154 κ' w' 9 aM aL s8/\Bc κ' w' 6 b7 100 [.slice ad s3.2.2.length ac,.slice aM s8.length aL]/\0<=v99/\vH ((([p0,p1]:List Det).length:Int)-v99)=k/\cntM (cv p0 p1 s3) k v99 s8=some q9) ⟨_,_,⟨K156,0,(([]:List Pair):(List Pair)),none,0,R,Jj3,Ow.nil,(f39.stp S157 R R),(by decide),(by simp),hq161⟩,(KM R)⟩ ?_)
 rintro k _ w167 ⟨K168,v99,s8,aM,aL,rfl,S169,f170,f171,hj159,hJ159,h⟩
 rcases k with _ | k
 have hk173:=h;obtain⟨o159,h⟩:=bO (t9 (vF s8):(Det×Bool)⊕(((List Pair))⊕((List Pair))))
 have hc159:decide (v99<(([p0,p1]:List Det).length:Int))=false:=Jo2 (by omega)
 refine Je3 R (Jq (Jw2 R hc159 (Jc1 (Jt (Jt ?_)))))
 cases h
 have h:=hk173
 refine Jb1 ?_
 cases h
 exact Jw1 _ ⟨K168,(s8:(List Pair)),aM,aL,R,S169.wk R,f170,f171,R⟩ (KM R)
 obtain⟨o159,h,hk173⟩:=BI h;unfold cv at h
 have hc159:decide (v99<(([p0,p1]:List Det).length:Int))=true:=Jn2 (by omega)
 refine Je3 R (Jq (Jv2 R hc159 (Js (Jp (Jq (Jv (Jg3 [2,2,1,1,2,1] 1 R (Ob h λx102 hx102 h=>Jc3 R f158.rdc hx102 U200 Z100 ?_))))))))
 obtain⟨cse175,hre175,hle175⟩:=Ow.gZS (f158.stp S169 R R) hx102
 obtain⟨ae175_0,ue175_0,ae175_1,ue175_1,rfl,fe175_0,fe175_1⟩:=Det.un hre175
 refine Jl tv R R R R (Jd2 (cs:=[.slice ae175_0 x102.Next.length ue175_0,.slice ae175_1 x102.Pairs.length ue175_1]) I100 Z100 R R R (haE hle175)) (Jg1 (κ:=K168) 10 R R R R R X100 R λb15 w176 K177 S178 f179=>⟨tv,Jn 1 R (Jj1 (κ:=K177) 10 (vc:=[.slice ae175_0 x102.Next.length ue175_0,.slice ae175_1 x102.Pairs.length ue175_1]) R R R R R R R Z100 R R f179 R λw180 S181 f182=>⟨tv,Jd (Je [2,1,2,2] R (Jd3 R U100 R Z98 (Jb3 R I98 (f182.ld 1 R R) (Jf R (Je2 U98 R R) (Jb 1 R ?_)))))⟩)⟩)
 have hN183:(x102.Pairs.length:Int)<=9223372036854775807:=fe175_1.len_le
 refine Ob h λq12 hq185 hK184=>?_
 clear h
 refine Jx1 (λL w'=>∃κ',∃s13:(List Pair),∃aV aN,L=[(4,.pointer (some ⟨b4,0,none⟩)),(6,.slice ab s3.1.length aa),(7,.pointer (some ⟨b7,0,none⟩)),(97,.slice ak ([p0,p1]:List Det).length ai),(98,vi (([p0,p1]:List Det).length:Int)),(99,vi v99)]/\Stp [6,9,11,12,13,14,15] K177 w180 κ' w'/\Oc Pair.ep154 154 κ' w' 9 aV aN s13/\Bc κ' w' 6 b7 100 [.slice ad s3.2.2.length ac,.slice aV s13.length aN]/\q12=t9 s13) ?_ ?_
 refine Jv (Jy1 (λk L w'=>∃κ' v107,∃s11:(List Pair),∃aX aQ,L=[(4,.pointer (some ⟨b4,0,none⟩)),(6,.slice ab s3.1.length aa),(7,.pointer (some ⟨b7,0,none⟩)),(14,vi v99),(97,.slice ak ([p0,p1]:List Det).length ai),(98,vi (([p0,p1]:List Det).length:Int)),(99,vi v99),(105,.slice ae175_1 x102.Pairs.length ue175_1),(106,vi (x102.Pairs.length:Int)),(107,vi v107)]/\Stp [6,9,11,12,13,14,15] K177 w180 κ' w'/\Oc Pair.ep154 154 κ' w' 9 aX aQ s11/\Bc κ' w' 6 b7 100 [.slice ad s3.2.2.length ac,.slice aX s11.length aQ]/\0<=v107/\vH ((x102.Pairs.length:Int)-v107)=k/\cntM (cN s3 v99 x102) k v107 s11=some q12) ⟨_,_,⟨K177,0,(s8:(List Pair)),aM,aL,R,Jj3,(f170.stp (S178.tr S181) R R),(f171.stp (S178.tr S181) R R),(by decide),(by simp),hq185⟩,(KM R)⟩ ?_)
 rintro k _ w191 ⟨K192,v107,s11,aX,aQ,rfl,S193,f194,f195,hj183,hJ183,h⟩
 rcases k with _ | k
 have hk198:=h;obtain⟨o183,h⟩:=bO (t9 (vF s11):(Det×Bool)⊕(((List Pair))⊕((List Pair))))
 have hc183:decide (v107<(x102.Pairs.length:Int))=false:=Jo2 (by omega)
 refine Je3 R (Jq (Jw2 R hc183 (Jc1 (Jt (Jt ?_)))))
 cases h
 have h:=hk198
 refine Jb1 ?_
 cases h
 exact Jw1 _ ⟨K192,(s11:(List Pair)),aX,aQ,R,S193.wk R,f194,f195,R⟩ (KM R)
 obtain⟨o183,h,hk198⟩:=BI h;unfold cN at h
 have hc183:decide (v107<(x102.Pairs.length:Int))=true:=Jn2 (by omega)
 refine Je3 R (Jq (Jv2 R hc183 (Js (Jp (Jq (Jv (Je [2,1,1,1] R (Ob h λx109 hx109 h=>Jc3 R fe175_1 hx109 U98 Z154 ?_))))))))
 obtain⟨cse200,hre200,hle200⟩:=((fe175_1.stp (S178.tr (S181.tr S193)) R R)).gSt hx109
 obtain⟨ae200_0,ue200_0,ae200_1,ue200_1,rfl,fe200_0,fe200_1⟩:=Pair.un hre200
 refine Jl tv R R R R (Jd2 (cs:=[.slice ae200_0 x109.Ask.length ue200_0,.slice ae200_1 x109.Give.length ue200_1]) I154 Z154 R R R (haE hle200)) (Jg1 (κ:=K192) 11 R R R R R X154 R λb17 w201 K202 S203 f204=>⟨tv,Jj1 (κ:=K202) 11 (vc:=[.slice ae200_0 x109.Ask.length ue200_0,.slice ae200_1 x109.Give.length ue200_1]) R R R R R R R Z154 R R f204 R λw205 S206 f207=>⟨tv,Jd (Je [2,1,1] R (Jf R (bI (parts:=[]) (cells:=[.slice none 0 0,.slice none 0 0]) R R (by kernel_rfl)) (Jg1 (κ:=K202) 12 R R R R R X154 R λb18 w208 K209 S210 f211=>⟨tv,Jj1 (κ:=K209) 12 (vc:=[.slice none 0 0,.slice none 0 0]) R R R R R R R Z154 R R f211 R λw212 S213 f214=>⟨tv,Jd (Jq (Jg3 [2,2,2] 1 R (Jf R (Je2 U198 R R) (Jb 1 R ?_))))⟩⟩)))⟩⟩)
 have hN215:(s3.1.length:Int)<=9223372036854775807:=f37.len_le
 refine Ob h λq15 hq217 hK216=>?_
 clear h
 refine Jx1 (λL w'=>∃κ',∃s16:(List Int)×(List Int),∃aj af am ae,L=[(4,.pointer (some ⟨b4,0,none⟩)),(6,.slice ab s3.1.length aa),(7,.pointer (some ⟨b7,0,none⟩)),(14,vi v99),(18,.pointer (some ⟨b18,0,none⟩)),(97,.slice ak ([p0,p1]:List Det).length ai),(98,vi (([p0,p1]:List Det).length:Int)),(99,vi v99),(105,.slice ae175_1 x102.Pairs.length ue175_1),(106,vi (x102.Pairs.length:Int)),(107,vi v107)]/\Stp [12,13,14,15] K209 w212 κ' w'/\Oc E6 2 κ' w' 13 aj af s16.1/\Oc E6 2 κ' w' 14 am ae s16.2/\Bc κ' w' 12 b18 154 [.slice aj s16.1.length af,.slice am s16.2.length ae]/\q15=t9 s16) ?_ ?_
 refine Jv (Jy1 (λk L w'=>∃κ' v114,∃s14:(List Int)×(List Int),∃aF aC ah al,L=[(4,.pointer (some ⟨b4,0,none⟩)),(6,.slice ab s3.1.length aa),(7,.pointer (some ⟨b7,0,none⟩)),(14,vi v99),(17,.pointer (some ⟨b17,0,none⟩)),(18,.pointer (some ⟨b18,0,none⟩)),(97,.slice ak ([p0,p1]:List Det).length ai),(98,vi (([p0,p1]:List Det).length:Int)),(99,vi v99),(105,.slice ae175_1 x102.Pairs.length ue175_1),(106,vi (x102.Pairs.length:Int)),(107,vi v107),(112,.slice ab s3.1.length aa),(113,vi (s3.1.length:Int)),(114,vi v114)]/\Stp [12,13,14,15] K209 w212 κ' w'/\Oc E6 2 κ' w' 13 aF aC s14.1/\Oc E6 2 κ' w' 14 ah al s14.2/\Bc κ' w' 12 b18 154 [.slice aF s14.1.length aC,.slice ah s14.2.length al]/\0<=v114/\vH ((s3.1.length:Int)-v114)=k/\cntM (eS s3 v99 x109) k v114 s14=some q15) ⟨_,_,⟨K209,0,((([]:List Int):(List Int)),(([]:List Int):(List Int))),none,0,none,0,R,Jj3,Ow.nil,Ow.nil,f214,(by decide),(by simp),hq217⟩,(KM R)⟩ ?_)
 rintro k _ w224 ⟨K225,v114,s14,aF,aC,ah,al,rfl,S226,f227,f228,f229,hj215,hJ215,h⟩
 rcases k with _ | k
 have hk230:=h;obtain⟨o215,h⟩:=bO (t9 (vF s14):(Det×Bool)⊕(((List Int)×(List Int))⊕((List Int)×(List Int))))
 have hc215:decide (v114<(s3.1.length:Int))=false:=Jo2 (by omega)
 refine Je3 R (Jq (Jw2 R hc215 (Jc1 (Jt (Jt ?_)))))
 cases h
 have h:=hk230
 refine Jb1 ?_
 cases h
 exact Jw1 _ ⟨K225,((s14.1:(List Int)),(s14.2:(List Int))),aF,aC,ah,al,R,S226.wk R,f227,f228,f229,R⟩ (KM R)
 obtain⟨o215,h,hk230⟩:=BI h;unfold eS at h
 have hc215:decide (v114<(s3.1.length:Int))=true:=Jn2 (by omega)
 refine Je3 R (Jq (Jv2 R hc215 (Js (Jp (Jq (Jv (Jg3 [2,2,1,1,2,1] 1 R (Ob h λx117 hx117 h=>Jc3 R f37.rdc hx117 U198 Z81 ?_))))))))
 obtain⟨cse232,hre232,hle232⟩:=((f37.stp (S157.tr (S169.tr (S178.tr (S181.tr (S193.tr (S203.tr (S206.tr (S210.tr (S213.tr S226))))))))) R R).rdc).gSt hx117
 obtain⟨_,_,rfl,rfl,rfl⟩:=hre232
 refine Jl tv R R R R (Jd2 (cs:=[vi x117.1,vi x117.2]) I81 Z81 R R R (haE hle232)) (Jg1 (κ:=K225) 15 R R R R R X81 R λb20 w233 K234 S235 f236=>⟨tv,Jn 1 R (Jj1 (κ:=K234) 15 (vc:=[vi x117.1,vi x117.2]) R R R R R R R Z81 R R f236 R λw237 S238 f239=>⟨tv,Jd (Jq (Jq (Js1 (κ:=K234) [11,15] none [(0,2),(2,2),(3,2),(1,0),(4,0),(5,1)] [] (by kernel_rfl) (by kernel_rfl) λw241 S240=>Jd3 R U154 R Z29 (Jn 1 R (Ob h λx122 hx122 h=>Jf R (pz (xs:=([x117.1,x117.2]:List Int)) (p:=⟨b20,0,none⟩) hx122 R U81 Z2 R R R) ?_)))))⟩)⟩)
 have f242:=f207.stp (S210.tr (S213.tr (S226.tr (S235.tr (S238.tr S240))))) R R
 refine Jg R (Jc2 I29 R R (hvC (f242.ld 0 R R) R)) ?_
 have f243:=f239.stp S240 R R
 refine Jg R (Jc2 I2 R R (hvC (f243.ldD (xs:=([x117.1,x117.2]:List Int)) 0 R hx122 R) R)) (Ob h λx124 hx124 h=>Jh R R R C62 (cc (κ:=Mk K234) (Ji3 (fe200_0.stp (S203.tr (S206.tr (S210.tr (S213.tr (S226.tr (S235.tr (S238.tr S240))))))) R R)) hx124) ?_)
 rintro _ w245 ⟨k246,rfl,e247⟩
 obtain⟨K248,S249,m250⟩:=Ji e247 16 R
 refine⟨(S249.cl R),Jt1 (Jd (Ob h λq17 h hK252=>Jx1 (λL w'=>∃κ' ao aw,L=[(4,.pointer (some ⟨b4,0,none⟩)),(6,.slice ab s3.1.length aa),(7,.pointer (some ⟨b7,0,none⟩)),(14,vi v99),(17,.pointer (some ⟨b17,0,none⟩)),(18,.pointer (some ⟨b18,0,none⟩)),(19,vi v114),(20,.pointer (some ⟨b20,0,none⟩)),(97,.slice ak ([p0,p1]:List Det).length ai),(98,vi (([p0,p1]:List Det).length:Int)),(99,vi v99),(105,.slice ae175_1 x102.Pairs.length ue175_1),(106,vi (x102.Pairs.length:Int)),(107,vi v107),(112,.slice ab s3.1.length aa),(113,vi (s3.1.length:Int)),(114,vi v114)]/\Stp [12,13] K248 w245 κ' w'/\Oc E6 2 κ' w' 13 ao aw q17/\Bc κ' w' 12 b18 154 [.slice ao q17.length aw,.slice ah s14.2.length al]) ?_ ?_))⟩
 revert h
 cases ht258:x124
 refine JF λh=>Jy R (Js ?_)
 cases h
 have S003:=(S235.tr (S238.tr (S240.tr S249)))
 exact Jw1 _ ⟨K248,aF,aC,R,Jj3,(f227.stp S003 R R),(f229.stp S003 R R)⟩ (KM R)
 refine JT λh=>Jx R (Ja [2,1,2,1,1,2,1] R (Jd3 R U154 R Z29 ?_))
 have f259:=f229.stp (S235.tr (S238.tr (S240.tr S249))) R R
 refine Jb3 R I29 (f259.ld 0 R R) (Jn 1 R (Jn1 (κ:=K248) (E:=E6) 18 [] (parts:=[(0,.tmp 127)]) (cells:=[vi v114]) (xs:=([v114]:List Int)) R R R R R R Y29 Tryzinfo2 R R R R R R R R R R ⟨[vi v114],[],Zl K248 w245 [],Zl K248 w245 [],R,Zl.sp (l1:=[]) (l2:=[]) R,Zl.sr (l1:=[]) (l2:=[]),R,R⟩ λbr bx w260 K261 S262 f263=>⟨tv,Ob h λx129 hx129 h=>Jm1 (κ:=K261) (E:=E6) 13 [] R R R R R R R R R Y29 Tryzinfo2 R R R R (f227.stp (S235.tr (S238.tr (S240.tr (S249.tr S262)))) R R) (Sl.srcP (bR _) f263.rdc) bJ hx129 R λbd aZ w265 K266 S267 f268=>⟨tv,Jd3 R U154 R Z29 (Ji1 (κ:=K266) 12 (off:=0) (vc:=[.slice bd x129.length aZ]) (cs':=[.slice bd x129.length aZ,.slice ah s14.2.length al]) R R R R R R R Z29 R R (f259.stp (S262.tr S267) R R) R R λw270 S271 f272=>⟨tv,Jo ?_⟩)⟩⟩))
 cases h
 exact Jw1 _ ⟨K266,bd,aZ,R,(S262.tr (S267.tr S271)).wk R,(f268.stp S271 R R),f272⟩ (KM R)
 rintro _ w253 ⟨K254,ao,aw,rfl,S255,f256,f257⟩
 have h:=hK252
 refine Jp (Jq (Js1 (κ:=K254) [11,15] none [(0,2),(2,2),(3,2),(1,0),(4,0),(5,1)] [] (by kernel_rfl) (by kernel_rfl) λw277 S276=>Jd3 R U154 R Z29 (Jn 1 R (Ob h λx134 hx134 h=>Jf R (pz (xs:=([x117.1,x117.2]:List Int)) (p:=⟨b20,0,none⟩) hx134 R U81 Z2 R R R) (Jg R (Jc2 I29 R R (hvC ((f242.stp (S249.tr (S255.tr S276)) R R).ld 1 R R) R)) (Jg R (Jc2 I2 R R (hvC ((f243.stp (S249.tr (S255.tr S276)) R R).ldD (xs:=([x117.1,x117.2]:List Int)) 0 R hx134 R) R)) (Ob h λx136 hx136 h=>Jh R R R C62 (cc (κ:=Mk K254) (Ji3 (fe200_1.stp (S203.tr (S206.tr (S210.tr (S213.tr (S226.tr (S235.tr (S238.tr (S240.tr (S249.tr (S255.tr S276)))))))))) R R)) hx136) ?_)))))))
 rintro _ w281 ⟨k282,rfl,e283⟩
 obtain⟨K284,S285,m286⟩:=Ji e283 18 R
 refine⟨(S285.cl R),Jt1 (Jd (Ob h λq18 h hK288=>Jx1 (λL w'=>∃κ' aS aW,L=[(4,.pointer (some ⟨b4,0,none⟩)),(6,.slice ab s3.1.length aa),(7,.pointer (some ⟨b7,0,none⟩)),(14,vi v99),(17,.pointer (some ⟨b17,0,none⟩)),(18,.pointer (some ⟨b18,0,none⟩)),(97,.slice ak ([p0,p1]:List Det).length ai),(98,vi (([p0,p1]:List Det).length:Int)),(99,vi v99),(105,.slice ae175_1 x102.Pairs.length ue175_1),(106,vi (x102.Pairs.length:Int)),(107,vi v107),(112,.slice ab s3.1.length aa),(113,vi (s3.1.length:Int)),(114,vi v114)]/\Stp [12,14] K284 w281 κ' w'/\Oc E6 2 κ' w' 14 aS aW q18/\Bc κ' w' 12 b18 154 [.slice ao q17.length aw,.slice aS q18.length aW]) ?_ ?_))⟩
 revert h
 cases ht294:x136
 refine JF λh=>Jy R (Js ?_)
 cases h
 exact Jw1 _ ⟨K284,ah,al,R,Jj3,(f228.stp (S235.tr (S238.tr (S240.tr (S249.tr (S255.tr (S276.tr S285)))))) R R),(f257.stp (S276.tr S285) R R)⟩ (KM R)
 refine JT λh=>Jx R (Ja [2,1,2,1,1,2,1] R (Jd3 R U154 R Z29 ?_))
 have f295:=f257.stp (S276.tr S285) R R
 refine Jb3 R I29 (f295.ld 1 R R) (Jn 1 R (Jn1 (κ:=K284) (E:=E6) 20 [] (parts:=[(0,.tmp 139)]) (cells:=[vi v114]) (xs:=([v114]:List Int)) R R R R R R Y29 Tryzinfo2 R R R R R R R R R R ⟨[vi v114],[],Zl K284 w281 [],Zl K284 w281 [],R,Zl.sp (l1:=[]) (l2:=[]) R,Zl.sr (l1:=[]) (l2:=[]),R,R⟩ λbt bv w296 K297 S298 f299=>⟨tv,Ob h λx141 hx141 h=>Jm1 (κ:=K297) (E:=E6) 14 [] R R R R R R R R R Y29 Tryzinfo2 R R R R (f228.stp (S235.tr (S238.tr (S240.tr (S249.tr (S255.tr (S276.tr (S285.tr S298))))))) R R) (Sl.srcP (bR _) f299.rdc) bJ hx141 R λbb bc w301 K302 S303 f304=>⟨tv,Jd3 R U154 R Z29 (Ji1 (κ:=K302) 12 (off:=1) (vc:=[.slice bb x141.length bc]) (cs':=[.slice ao q17.length aw,.slice bb x141.length bc]) R R R R R R R Z29 R R (f295.stp (S298.tr S303) R R) R R λw306 S307 f308=>⟨tv,Jo ?_⟩)⟩⟩))
 cases h
 exact Jw1 _ ⟨K302,bb,bc,R,(S298.tr (S303.tr S307)).wk R,(f304.stp S307 R R),f308⟩ (KM R)
 rintro _ w289 ⟨K290,aS,aW,rfl,S291,f292,f293⟩
 have h:=hK288
 refine Jz (Jp (Jf3 R ?_))
 have hw215:t5 .i64 (v114+1)=v114+1:=wr1 hj215 (Jm2 hc215) hN215
 rw[hw215]
 have hc215:=Jm2 hc215
 cases h
 exact Jz1 λa ha=>⟨k,_,Ja3 _,⟨K290,v114+1,((q17:(List Int)),(q18:(List Int))),ao,aw,aS,aW,R,(S226.tr (S235.tr (S238.tr (S240.tr (S249.tr (S255.tr (S276.tr (S285.tr S291)))))))).wk R,(f256.stp (S276.tr (S285.tr S291)) R R),f292,f293,by omega,by omega,hk230⟩,(ha.mm R)⟩
 rintro _ w218 ⟨K219,s16,aj,af,am,ae,rfl,S220,f221,f222,f223,rfl⟩
 have h:=hK216
 dsimp only[aft]at h
 refine Jp (Ja [2,1,1,1,1,2,1] R (Jd3 R U100 R Z98 ?_))
 have f313:=f195.stp (S203.tr (S206.tr (S210.tr (S213.tr S220)))) R R
 refine Jb3 R I98 (f313.ld 1 R R) (Jl tv R R R R (Jd2 (cs:=[.slice aj s16.1.length af,.slice am s16.2.length ae]) I154 Z154 R R R (haE f223.cells)) (Jn1 (κ:=K219) (E:=Pair.ep154) 15 [13,14] (parts:=[(0,.tmp 146)]) (cells:=[.slice aj s16.1.length af,.slice am s16.2.length ae]) (xs:=([(⟨s16.1,s16.2⟩:Pair)]:List Pair)) R R R R R R Y98 Tryzinfo154 R R R R R R R R R R ⟨[.slice aj s16.1.length af,.slice am s16.2.length ae],[],Zl K219 w218 [13,14],Zl K219 w218 [],R,Zl.sp (l1:=[13,14]) (l2:=[]) R,Zl.sr (l1:=[13,14]) (l2:=[]),⟨[.slice aj s16.1.length af],[.slice am s16.2.length ae],Zl K219 w218 [13],Zl K219 w218 [14],R,Zl.sp (l1:=[13]) (l2:=[14]) R,Zl.sr (l1:=[13]) (l2:=[14]),⟨_,_,R,f221⟩,⟨_,_,R,f222⟩⟩,R⟩ λbw bs w314 K315 S316 f317=>⟨tv,Ob h λx148 hx148 h=>Jm1 (κ:=K315) (E:=Pair.ep154) 9 [15] R R R R R R R R R Y98 Tryzinfo154 R R R R (f194.stp (S203.tr (S206.tr (S210.tr (S213.tr (S220.tr S316))))) R R) f317.src (dc R) hx148 R λbf ba w319 K320 S321 f322=>⟨tv,Jd3 R U100 R Z98 (Ji1 (κ:=K320) 6 (off:=1) (vc:=[.slice bf x148.length ba]) (cs':=[.slice ad s3.2.2.length ac,.slice bf x148.length ba]) R R R R R R R Z98 R R (f313.stp (S316.tr S321) R R) R R λw324 S325 f326=>⟨tv,Jo (Jz (Jp (Jf3 R ?_)))⟩)⟩⟩))
 have hw183:t5 .i64 (v107+1)=v107+1:=wr1 hj183 (Jm2 hc183) hN183
 rw[hw183]
 have hc183:=Jm2 hc183
 cases h
 exact Jz1 λa ha=>⟨k,_,Ja3 _,⟨K320,v107+1,(x148:(List Pair)),bf,ba,R,(S193.tr (S203.tr (S206.tr (S210.tr (S213.tr (S220.tr (S316.tr (S321.tr S325)))))))).wk R,(f322.stp S325 R R),f326,by omega,by omega,hk198⟩,(ha.mm R)⟩
 rintro _ w186 ⟨K187,s13,aV,aN,rfl,S188,f189,f190,rfl⟩
 have h:=hK184
 dsimp only[aft]at h
 refine Jz (Jp (Jf3 R ?_))
 have hw159:t5 .i64 (v99+1)=v99+1:=wr1 hj159 (Jm2 hc159) hN159
 rw[hw159]
 have hc159:=Jm2 hc159
 cases h
 exact Jz1 λa ha=>⟨k,_,Ja3 _,⟨K187,v99+1,(s13:(List Pair)),aV,aN,R,(S169.tr (S178.tr (S181.tr S188))).wk R,f189,f190,by omega,by omega,hk173⟩,(ha.mm R)⟩
 rintro _ w162 ⟨K163,s10,av,ar,rfl,S164,f165,f166,rfl⟩
 have h:=hK160
 dsimp only[aft]at h
 refine Jp (Je [1,1,2] R (Jl tv R R R R (Jd2 (cs:=[.slice ad s3.2.2.length ac,.slice av s10.length ar]) I100 Z100 R R R (haE f166.cells)) (Jj1 (κ:=K163) 4 (vc:=[.slice ad s3.2.2.length ac,.slice av s10.length ar]) R R R R R R R Z100 R R (f12.stp (S22.tr (S26.tr (S29.tr (S36.tr (S157.tr S164))))) R R) R λw329 S330 f331=>⟨tv,Jb 1 R (Ju (Ja2 (l:=[.cell 4 100,.tmp 5]) V131 (bL R f331 I100 Z100 R (Jp2 R R)) R ?_))⟩)))
 cases h
 exact⟨(λb=>ren [(7,2),(9,3)] (K163 b)),ad,ac,av,ar,R,((hE.stp (S3.tr (S7.tr (S11.tr (S22.tr (S26.tr (S29.tr (S36.tr (S157.tr (S164.tr S330))))))))) R R).map (ren [(7,2),(9,3)]) R R),((f38.stp (S157.tr (S164.tr S330)) R R).map (ren [(7,2),(9,3)]) R R),((f165.stp S330 R R).map (ren [(7,2),(9,3)]) R R)⟩
 refine JT λh=>Jx R (Je [2,1,2] R (Jf R (bI (parts:=[]) (cells:=[.slice none 0 0,.slice none 0 0]) R R (by kernel_rfl)) (Jj1 (κ:=K10) 4 (vc:=[.slice none 0 0,.slice none 0 0]) R R R R R R R Z100 R R f12 R λw16 S17 f18=>⟨tv,Jb 1 R (Ju (Jw (Ja2 (l:=[.cell 4 100,.tmp 5]) V131 (bL R f18 I100 Z100 R (Jp2 R R)) R ?_)))⟩)))
 cases h
 exact⟨K10,none,0,none,0,R,(hE.stp (S3.tr (S7.tr (S11.tr S17))) R R),Ow.nil,Ow.nil⟩
theorem nG {w:World}{κ:Col}{a0 u0}{p0:(List Pair)}{a1 u1}{p1:(List Int)}{p2:Int}(g0:Rd Pair.rp κ w 0 a0 u0 p0) (g1:Rd (Rp.int .i64) κ w 0 a1 u1 p1){r:(List Int)}(h:fZ p0 p1 p2=some r):Ret Tryz.prog 138 [.slice a0 p0.length u0,.slice a1 p1.length u1,vi p2] w (λv w'=>∃(κ':Col) (ra0:Option Addr) (ru0:Nat),v= .slice ra0 r.length ru0/\Ent κ w κ' w'/\Oc E6 2 κ' w' 2 ra0 ru0 r):=by
 unfold fZ at h
 refine Ret.enter F138 R N138 R ?_
 dsimp only[envOf]
 have hE:=Ent.refl κ w
 refine Je3 R (Je [1,1,2,2] R (Jo1 (κ:=κ) (E:=E6) 2 R R R R R Y29 Tryzinfo2 R λax aw w1 K2 S3 f4=>⟨tv,Jo1 (κ:=K2) (E:=E6) 3 R R R R R Y29 Tryzinfo2 R λar au w5 K6 S7 f8=>⟨tv,Jb 2 R (Jq (Jg3 [2,2,2] 1 R (Jf R (Je2 U29 R R) (Jb 1 R ?_))))⟩⟩))
 have hN9:(p1.length:Int)<=9223372036854775807:=g1.len_le
 refine Ob h λq2 hq11 hK10=>?_
 clear h
 refine Jx1 (λL w'=>∃κ',∃s3:(List Int)×(List Int),∃am ak al aj,L=[(7,.slice am s3.1.length ak),(8,.slice al s3.2.length aj)]/\Stp [2,3] K6 w5 κ' w'/\Oc E6 2 κ' w' 2 am ak s3.1/\Oc E6 2 κ' w' 3 al aj s3.2/\q2=t9 s3) ?_ ?_
 refine Jv (Jy1 (λk L w'=>∃κ' v15,∃s1:(List Int)×(List Int),∃ab aa ac ad,L=[(0,.slice a0 p0.length u0),(2,vi p2),(7,.slice ab s1.1.length aa),(8,.slice ac s1.2.length ad),(13,.slice a1 p1.length u1),(14,vi (p1.length:Int)),(15,vi v15)]/\Stp [2,3] K6 w5 κ' w'/\Oc E6 2 κ' w' 2 ab aa s1.1/\Oc E6 2 κ' w' 3 ac ad s1.2/\0<=v15/\vH ((p1.length:Int)-v15)=k/\cntM (ed p0 p1 p2) k v15 s1=some q2) ⟨_,_,⟨K6,0,((([]:List Int):(List Int)),(([]:List Int):(List Int))),ax,aw,ar,au,R,Jj3,(f4.stp S7 R R),f8,(by decide),(by simp),hq11⟩,(KM R)⟩ ?_)
 rintro k _ w17 ⟨K18,v15,s1,ab,aa,ac,ad,rfl,S19,f20,f21,hj9,hJ9,h⟩
 rcases k with _ | k
 have hk23:=h;obtain⟨o9,h⟩:=bO (t9 (vF s1):(List Int)⊕(((List Int)×(List Int))⊕((List Int)×(List Int))))
 have hc9:decide (v15<(p1.length:Int))=false:=Jo2 (by omega)
 refine Je3 R (Jq (Jw2 R hc9 (Jc1 (Jt (Jt ?_)))))
 cases h
 have h:=hk23
 refine Jb1 ?_
 cases h
 exact Jw1 _ ⟨K18,((s1.1:(List Int)),(s1.2:(List Int))),ab,aa,ac,ad,R,S19.wk R,f20,f21,R⟩ (KM R)
 obtain⟨o9,h,hk23⟩:=BI h;unfold ed at h
 have hc9:decide (v15<(p1.length:Int))=true:=Jn2 (by omega)
 refine Je3 R (Jq (Jv2 R hc9 (Js (Jp (Jq (Jv (Je [2,1,2] R (Ob h λx17 hx17 h=>Jc3 R g1 hx17 U29 Z2 (Jb3 R I2 ((g1.stp (S3.tr (S7.tr S19)) R R).gInt hx17) (Jb 1 R (Jg3 [2,2,2,2,1,2,1] 2 R (Ob h λx21 hx21 h=>Jc3 R g0 hx21 U98 Z154 (Jd3 R U154 R Z29 ?_)))))))))))))
 obtain⟨cse26,hre26,hle26⟩:=((g0.stp (S3.tr (S7.tr S19)) R R)).gSt hx21
 obtain⟨ae26_0,ue26_0,ae26_1,ue26_1,rfl,fe26_0,fe26_1⟩:=Pair.un hre26
 refine Jb3 R I29 (λw' hw'=>hle26 w' hw' 1 _ R) (Jn 1 R (Ob h λx25 hx25 h=>Jh R R R C62 (cc (κ:=Mk K18) (Ji3 fe26_1) hx25) ?_))
 rintro _ w27 ⟨k28,rfl,e29⟩
 obtain⟨K30,S31,m32⟩:=Ji e29 4 R
 refine⟨tv,Jd (Ob h λq4 h hK34=>Jx1 (λL w'=>∃κ' ae af ah ai,L=[(0,.slice a0 p0.length u0),(2,vi p2),(7,.slice ae q4.1.length af),(8,.slice ah q4.2.length ai),(13,.slice a1 p1.length u1),(14,vi (p1.length:Int)),(15,vi v15)]/\Stp [2,3] K30 w27 κ' w'/\Oc E6 2 κ' w' 2 ae af q4.1/\Oc E6 2 κ' w' 3 ah ai q4.2) ?_ ?_)⟩
 revert h
 cases ht40:x25
 refine JF λh=>Jy R (Jh3 [2,2,1,1,2] 2 R (Jn1 (κ:=K30) (E:=E6) 6 [] (parts:=[(0,.tmp 31)]) (cells:=[vi x17]) (xs:=([x17]:List Int)) R R R R R R Y29 Tryzinfo2 R R R R R R R R R R ⟨[vi x17],[],Zl K30 w27 [],Zl K30 w27 [],R,Zl.sp (l1:=[]) (l2:=[]) R,Zl.sr (l1:=[]) (l2:=[]),R,R⟩ λaA aB w51 K52 S53 f54=>⟨tv,Ob h λx33 hx33 h=>Jm1 (κ:=K52) (E:=E6) 3 [] R R R R R R R R R Y29 Tryzinfo2 R R R R (f21.stp (S31.tr S53) R R) (Sl.srcP (bR _) f54.rdc) bJ hx33 R λao an w56 K57 S58 f59=>⟨tv,Jc 1 R ?_⟩⟩))
 cases h
 exact Jw1 _ ⟨K57,ab,aa,ao,an,R,(S53.tr S58).wk R,(f20.stp (S31.tr (S53.tr S58)) R R),f59⟩ (KM R)
 refine JT λh=>Jx R (Jh3 [2,2,1,1,2] 2 R (Jn1 (κ:=K30) (E:=E6) 6 [] (parts:=[(0,.tmp 27)]) (cells:=[vi x17]) (xs:=([x17]:List Int)) R R R R R R Y29 Tryzinfo2 R R R R R R R R R R ⟨[vi x17],[],Zl K30 w27 [],Zl K30 w27 [],R,Zl.sp (l1:=[]) (l2:=[]) R,Zl.sr (l1:=[]) (l2:=[]),R,R⟩ λaz aC w41 K42 S43 f44=>⟨tv,Ob h λx29 hx29 h=>Jm1 (κ:=K42) (E:=E6) 2 [] R R R R R R R R R Y29 Tryzinfo2 R R R R (f20.stp (S31.tr S43) R R) (Sl.srcP (bR _) f44.rdc) bJ hx29 R λaq ay w46 K47 S48 f49=>⟨tv,Jc 1 R ?_⟩⟩))
 cases h
 exact Jw1 _ ⟨K47,aq,ay,ac,ad,R,(S43.tr S48).wk R,f49,(f21.stp (S31.tr (S43.tr S48)) R R)⟩ (KM R)
 rintro _ w35 ⟨K36,ae,af,ah,ai,rfl,S37,f38,f39⟩
 have h:=hK34
 refine Jz (Jp (Jf3 R ?_))
 have hw9:t5 .i64 (v15+1)=v15+1:=wr1 hj9 (Jm2 hc9) hN9
 rw[hw9]
 have hc9:=Jm2 hc9
 cases h
 exact Jz1 λa ha=>⟨k,_,Ja3 _,⟨K36,v15+1,((q4.1:(List Int)),(q4.2:(List Int))),ae,af,ah,ai,R,(S19.tr (S31.tr S37)).wk R,f38,f39,by omega,by omega,hk23⟩,(ha.mm R)⟩
 rintro _ w12 ⟨K13,s3,am,ak,al,aj,rfl,S14,f15,f16,rfl⟩
 have h:=hK10
 dsimp only[aft]at h
 refine Jp (Jg3 [2,2,1,2] 2 R (Ob h λx37 hx37 h=>Jm1 (κ:=K13) (E:=E6) 2 [] R R R R R R R R R Y29 Tryzinfo2 R R R R f15 (Sl.srcP (bR _) f16.rdc) bJ hx37 R λav ap w61 K62 S63 f64=>⟨tv,Jb 1 R (Ju (Ja2 (l:=[.tmp 6]) V138 (Jp2 R R) R ?_))⟩))
 cases h
 exact⟨K62,av,ap,R,(hE.stp (S3.tr (S7.tr (S14.tr S63))) R R),f64⟩
theorem db {w:World}{κ:Col}{a0 u0}{p0:(List Place)}{c1_0:Int}{aa ab}{c1_1:(List Int)}{b1_0 b1_1}(g0:Rd Place.rp κ w 0 a0 u0 p0) (g1_1:Rd (Rp.int .i64) κ w 0 aa ab c1_1) (gb1_0:Bc κ w 0 b1_0 2 [vi c1_0]) (gb1_1:Bc κ w 0 b1_1 29 [.slice aa c1_1.length ab]){r:Int}(h:bW p0 c1_0 c1_1=some r):Ret Tryz.prog 230 [.slice a0 p0.length u0,.func (.func 231) #[] #[.pointer (some ⟨b1_0,0,none⟩),.pointer (some ⟨b1_1,0,none⟩)]] w (λv w'=>∃(κ':Col),v=vi r/\Ent κ w κ' w'):=by
 unfold bW at h
 refine Ret.enter F230 R N230 R ?_
 dsimp only[envOf]
 have hE:=Ent.refl κ w
 refine Je3 R (Jq (Jg3 [2,2,2] 1 R (Jf R (Je2 U109 R R) (Jb 1 R ?_))))
 have hN1:(p0.length:Int)<=9223372036854775807:=g0.len_le
 refine Ob h λq2 hq3 hK2=>?_
 clear h
 refine Jx1 (λL w'=>∃κ',L=[(1,.func (.func 231) #[] #[.pointer (some ⟨b1_0,0,none⟩),.pointer (some ⟨b1_1,0,none⟩)])]/\Stp [] κ w κ' w'/\q2=t9 ()) ?_ ?_
 refine Jv (Jy1 (λk L w'=>∃κ' v8,L=[(0,.slice a0 p0.length u0),(1,.func (.func 231) #[] #[.pointer (some ⟨b1_0,0,none⟩),.pointer (some ⟨b1_1,0,none⟩)]),(7,vi (p0.length:Int)),(8,vi v8)]/\Stp [] κ w κ' w'/\0<=v8/\vH ((p0.length:Int)-v8)=k/\cntM (bU p0 c1_0 c1_1) k v8 ()=some q2) ⟨_,_,⟨κ,0,R,Jj3,(by decide),(by simp),hq3⟩,(KM R)⟩ ?_)
 rintro k _ w7 ⟨K8,v8,rfl,S9,hj1,hJ1,h⟩
 rcases k with _ | k
 have hk10:=h;obtain⟨o1,h⟩:=bO (t9 (vF ()):Int⊕((Unit)⊕(Unit)))
 have hc1:decide (v8<(p0.length:Int))=false:=Jo2 (by omega)
 refine Je3 R (Jq (Jw2 R hc1 (Jc1 (Jt (Jt ?_)))))
 cases h
 have h:=hk10
 refine Jb1 ?_
 cases h
 exact Jw1 _ ⟨K8,R,S9.wk R,R⟩ (KM R)
 obtain⟨o1,h,hk10⟩:=BI h;unfold bU at h
 have hc1:decide (v8<(p0.length:Int))=true:=Jn2 (by omega)
 refine Je3 R (Jq (Jv2 R hc1 (Js (Jp (Jq (Jv (Je3 R (Jg3 [2,2,2,2,1,1] 3 R (Ob h λx14 hx14 h=>Jc3 R g0 hx14 U109 Z116 ?_)))))))))
 obtain⟨cse12,hre12,hle12⟩:=((g0.stp S9 R R)).gSt hx14
 obtain⟨ae12_0,ue12_0,rfl,fe12_0⟩:=Place.un hre12
 refine Jl tv R R R R (Jd2 (cs:=[vi x14.At,.slice ae12_0 x14.Record.length ue12_0]) I116 Z116 R R R (haE hle12)) (Ob h λx16 hx16 h=>WO.callV R R R R R R R R C231 (oI (κ:=Mk K8) (p0:=x14) (Ji3 fe12_0) (Ji3 (g1_1.stp S9 R R)) ((gb1_0.stp S9 R R).map (mp [] 0) R R) ((gb1_1.stp S9 R R).map (mp [] 0) R R) hx16) ?_)
 rintro _ w16 ⟨k17,rfl,e18⟩
 obtain⟨K19,S20,m21⟩:=Ji e18 2 R
 refine⟨tv,Jd ?_⟩
 revert h
 cases ht23:x16
 refine JF λh=>Jy R (Js (Jz (Jp (Jf3 R ?_))))
 have hw1:t5 .i64 (v8+1)=v8+1:=wr1 hj1 (Jm2 hc1) hN1
 rw[hw1]
 have hc1:=Jm2 hc1
 cases h
 exact Jz1 λa ha=>⟨k,_,Ja3 _,⟨K19,v8+1,R,(S9.tr S20).wk R,by omega,by omega,hk10⟩,(ha.mm R)⟩
 refine JT λh=>Jx R (Je3 R (Ju (Ja1 (Jw (Jw ?_)))))
 cases h
 obtain rfl:=Option.some.inj hk10
 have h:=hK2
 dsimp only[aft]at h
 refine Ja1 (Jq2 (Jw (Ja2 (l:=[.tmp 4]) V230 (Jp2 R R) R ?_)))
 cases h
 exact⟨K19,R,(hE.stp (S9.tr S20) R R)⟩
 rintro _ w4 ⟨K5,rfl,S6,rfl⟩
 have h:=hK2
 dsimp only[aft]at h
 refine Jp (Je3 R (Ju (Ja2 (l:=[.tmp 4]) V230 (Jp2 R R) R ?_)))
 cases h
 exact⟨K5,R,(hE.stp S6 R R)⟩
end Go.Proofs.YtpcjbkgbnoocaaaGreat
