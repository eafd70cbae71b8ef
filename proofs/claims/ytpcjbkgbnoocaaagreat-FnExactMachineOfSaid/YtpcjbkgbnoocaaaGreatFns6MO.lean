/- The walks, part 6. By program. -/
import Derived.Test.YtpcjbkgbnoocaaaGreatFns3MO
import Derived.Test.YtpcjbkgbnoocaaaGreatFns4MO
import Derived.Test.YtpcjbkgbnoocaaaGreatFns5MO
set_option linter.unusedVariables false
set_option linter.unusedSimpArgs false
open Go.IntKind renaming wrap → t0
open Sum renaming inr → xe, inl → xf
open Int renaming toNat → xh
namespace Go.Proofs.YtpcjbkgbnoocaaaGreat
open Go Go.Wk Go.Proofs
set_option maxRecDepth 100000
set_option maxHeartbeats 1000000
variable {w:World}{κ:Col}
theorem gJ {a0 u0}{p0:(List Clause)}(g0:Rd Clause.rp κ w 0 a0 u0 p0){r:(List Clause)}(h:ej p0=some r):Ret Tryz.prog 20 [.slice a0 p0.length u0] w (Pvs Clause.ep119 119 κ w r):=by
 unfold ej at h
 refine Jk3 κ F20 R N20 R λhE=>Je3 R<|Jg3 [2,2,1,2] 1 R<|Jn3 R U44 R R<|Ob h λx7 hx7 h=>Jl1 (κ:=κ) (E:=Clause.ep119) (z:=((⟨0,([]:List Int),([]:List Int)⟩:Clause):Clause)) 2 R R R R R R R Y49 sj R R R R R (λ_ _ _=>⟨[vi 0],[.slice none 0 0,.slice none 0 0],λ_=>False,λ_=>False,R,λ_ h=>h.elim,λ_ h=>h.elim,R,⟨[.slice none 0 0],[.slice none 0 0],λ_=>False,λ_=>False,R,λ_ h=>h.elim,λ_ h=>h.elim,⟨none,0,R,Ow.nil⟩,⟨none,0,R,Ow.nil⟩⟩⟩) (Ju2 hx7) λa7 u7 w1 K2 S3 f4=>Tv<|Jb 1 R<|Jq<|Je3 R ?_
 have hN5:(p0.length:Int)<=9223372036854775807:=g0.len_le
 refine Ob h λq2 hq7 hK6=>?_
 clear h
 refine Jx1 (λL w'=>∃κ',∃s3:(List Clause),L=[(3,.slice a7 x7.length u7)]/\Stp [2,5,6] K2 w1 κ' w'/\Oc Clause.ep119 119 κ' w' 2 a7 u7 s3/\x7.length=s3.length/\q2=xe s3) ?_ ?_
 refine Jv<|Jy1 (λk L w'=>∃κ' v4,∃s1:(List Clause),L=[(0,.slice a0 p0.length u0),(3,.slice a7 x7.length u7),(4,vi v4)]/\Stp [2,5,6] K2 w1 κ' w'/\Oc Clause.ep119 119 κ' w' 2 a7 u7 s1/\x7.length=s1.length/\0<=v4/\xh ((p0.length:Int)-v4)=k/\cntM (fp p0) k v4 s1=some q2) ⟨_,_,⟨K2,0,x7,R,Jj3,f4,R,(by decide),(by simp),hq7⟩,(KM R)⟩ ?_
 rintro k _ w13 ⟨K14,v4,s1,rfl,S15,f16,hn17,hj5,hJ5,h⟩
 rcases k with _ | k
 have hk18:=h;obtain⟨o5,h⟩:=bP (xe (xf s1):(List Clause)⊕(((List Clause))⊕((List Clause))))
 have hc5:decide (v4<(p0.length:Int))=false:=Jo2 (by omega)
 refine Jq<|Jg3 [2,2,2,2] 2 R<|Jn3 R U44 R R<|Jb 1 R<|Jw2 R hc5<|Jc1<|Jt<|Jt ?_
 cases h
 have h:=hk18
 refine Jb1 ?_
 cases h
 exact Jw1 _ ⟨K14,s1,R,S15.wk R,f16,hn17,R⟩<|KM R
 obtain⟨o5,h,hk18⟩:=BI h;unfold fp at h
 have hc5:decide (v4<(p0.length:Int))=true:=Jn2 (by omega)
 refine Jq<|Jg3 [2,2,2,2] 2 R<|Jn3 R U44 R R<|Jb 1 R<|Jv2 R hc5<|Js<|Jp<|Jq<|Jv<|Jh3 [2,2,2,2,2,1,1,2,1] 4 R<|Ob h λx18 hx18 h=>Jc3 R g0 hx18 U44 Z97 ?_
 obtain⟨cse20,hre20,hle20⟩:=((g0.stp (S3.tr S15) R R)).gSt hx18
 obtain⟨ae20_0,ue20_0,ae20_1,ue20_1,rfl,fe20_0,fe20_1⟩:=Clause.un hre20
 refine Jl tv R R R R (Jd2 (cs:=[vi x18.Kind,.slice ae20_0 x18.A.length ue20_0,.slice ae20_1 x18.B.length ue20_1]) I97 Z97 R R R<|haE hle20)<|Ob h λx20 hx20 h=>Jh R R R C76 (qm (κ:=Mk K14) (p0:=x18) (Ji3 fe20_0) (Ji3 fe20_1) hx20) ?_
 rintro _ w21 ⟨k22,aa,ab,ac,ad,rfl,e23,f24,f25⟩
 obtain⟨K26,S27,m28⟩:=Ji e23 3 R
 refine Tv<|Ob h λx21 hx21 h=>Jf R (Jf2 f16.rdc hx21 U49 Z119 R R hn17 R)<|Ob h λy12 hy12 h=>Jk1 (κ:=K26) (E:=Clause.ep119) 2 [5,6] R R R R R R R R Z119 R ⟨[vi x20.Kind],[.slice aa x20.A.length ab,.slice ac x20.B.length ad],Zl K26 w21 [],Zl K26 w21 [5,6],R,Zl.sp (l1:=[]) (l2:=[5,6]) R,Zl.sr (l1:=[]) (l2:=[5,6]),R,⟨[.slice aa x20.A.length ab],[.slice ac x20.B.length ad],Zl K26 w21 [5],Zl K26 w21 [6],R,Zl.sp (l1:=[5]) (l2:=[6]) R,Zl.sr (l1:=[5]) (l2:=[6]),⟨_,_,R,(f24.mx (bI _) m28 R (R:3+2=5))⟩,⟨_,_,R,(f25.mx (bI _) m28 R (R:3+3=6))⟩⟩⟩ R R (f16.stp S27 R R) hy12 λw33 K34 S35 f36=>Tv<|?_
 have hn37:x7.length=y12.length:=hn17.trans (Jt2 hy12).2.2.2.symm
 refine Jo<|Jz<|Jp<|Jf3 R ?_
 have hw5:t0 .i64 (v4+1)=v4+1:=wr1 hj5 (Jm2 hc5) hN5
 rw[hw5]
 have hc5:=Jm2 hc5
 cases h
 exact Jz1 λa ha=>⟨k,_,Ja3 _,⟨K34,v4+1,y12,R,(T3 S15 S27 S35).wk R,f36,hn37,by omega,by omega,hk18⟩,(ha.mm R)⟩
 rintro _ w8 ⟨K9,s3,rfl,S10,f11,hn12,rfl⟩
 have h:=yI hK6
 refine Jp<|Je3 R<|Ju<|Ja2 (l:=[.tmp 2]) V20 (Jp2 R R) R ?_
 cases h
 exact⟨K9,a7,u7,(by simp only[hn12]),(hE.stp (S3.tr S10) R R),f11⟩
theorem lj {a0 u0}{p0:(List Int)}{p1:Int}(g0:Rd (Rp.int .i64) κ w 0 a0 u0 p0){r:Bool}(h:kg p0 p1=some r):Ret Tryz.prog 169 [.slice a0 p0.length u0,vi p1] w (Pvb κ w r):=by
 unfold kg at h
 refine Jk3 κ F169 R N169 R λhE=>Je3 R<|Jg3 [2,2,2,2,2,2,2,1,2,2] 1 R<|Jn3 R U29 R R<|Jn 3 R<|Ob h λp13 h hK1=>Ju1 [(5,2),(6,2),(7,1),(8,2)] [(9,2)] (λL w'=>L=[(4,.bool false),(13,.bool p13)]/\∃κ',Stp [] κ w κ' w') tv ?_ ?_
 revert h
 cases ht2:decide ((p0.length:Int)<=p1)
 refine JF λh=>Jn 2 R<|Jd1 R R R R<|Jn 1 R ?_
 cases h
 exact Jv1 _ tv ⟨R,_,Jj3⟩<|KM R
 refine JT λh=>Jn 2 R<|Ob h λx12 hx12 h=>Jh R R R C210 (rB (κ:=Mk κ) (Ji3 g0) hx12) ?_
 rintro _ w3 ⟨k4,rfl,e5⟩
 obtain⟨K6,S7,m8⟩:=Ji e5 2 R
 refine Tv<|Jn 1 R ?_
 cases h
 exact Jv1 _ tv ⟨R,_,S7.wk R⟩<|KM R
 rintro _ w10 _ ⟨rfl,K11,S12⟩
 have h:=hK1
 refine Jb 1 R<|Ju<|Ja2 (l:=[.tmp 4]) V169 (Jp2 R R) R ?_
 cases h
 exact⟨K11,R,(hE.stp S12 R R)⟩
theorem j6 {aJ aM aF aL}{p0:Det}{au ar av ao}{p1:Det}(g0_0:Rd (Rp.sl (Rp.int .i64)) κ w 0 aJ aM p0.Next) (g0_1:Rd Pair.rp κ w 0 aF aL p0.Pairs) (g1_0:Rd (Rp.sl (Rp.int .i64)) κ w 0 au ar p1.Next) (g1_1:Rd Pair.rp κ w 0 av ao p1.Pairs){r:Det×Bool}(h:gB p0 p1=some r):Ret Tryz.prog 131 [.agg #[.slice aJ p0.Next.length aM,.slice aF p0.Pairs.length aL],.agg #[.slice au p1.Next.length ar,.slice av p1.Pairs.length ao]] w (λv w'=>∃(κ':Col) (ra0:Option Addr) (ru0:Nat) (ra1:Option Addr) (ru1:Nat),v= .tuple #[.agg #[.slice ra0 r.1.Next.length ru0,.slice ra1 r.1.Pairs.length ru1],.bool r.2]/\Ent κ w κ' w'/\Oc (Ep.own E6 2) 29 κ' w' 2 ra0 ru0 r.1.Next/\Oc Pair.ep154 154 κ' w' 3 ra1 ru1 r.1.Pairs):=by
 unfold gB at h
 refine Jk3 κ F131 R N131 R λhE=>Je [1,1,1,2] R<|Jf1 (κ:=κ) 2 R R R R R R R λb2 w1 K2 S3 f4=>Tv<|Jf1 (κ:=K2) 3 R R R R R R R λb3 w5 K6 S7 f8=>Tv<|Jg1 (κ:=K6) 4 R R R R R X100 R λb4 w9 K10 S11 f12=>Tv<|Jb 1 R<|Jq<|Je [2,1,2,2,1,2,2,2] R<|Jd3 R U100 R Z98 ?_
 have f13:=f4.stp (S7.tr S11) R R
 refine Jb3 R I98 (f13.ld 1 R R)<|Jn3 R U98 R R<|Jd3 R U100 R Z98 ?_
 have f14:=f8.stp S11 R R
 refine Jb3 R I98 (f14.ld 1 R R)<|Jn3 R U98 R R<|Jb 2 R ?_
 revert h
 cases ht15:decide (4<(IntKind.i64.wrap ((p0.Pairs.length:Int)+(p1.Pairs.length:Int))))
 refine JF λh=>Jy R<|Js<|Jp<|Je [2,1,2] R<|Jf R (bJ (parts:=[(0,.const (vi 0)),(1,.const (vi 0))]) (cells:=[vi 0,vi 0]) R R (by kernel_rfl))<|Jn1 (κ:=K10) (E:=(Ep.pair E6 E6)) 5 [] (parts:=[(0,.tmp 30)]) (cells:=[vi 0,vi 0]) (xs:=([(0,0)]:List (Int×Int))) R R R R R R Y198 mN R R R R R R R R R R ⟨[vi 0,vi 0],[],Zl K10 w9 [],Zl K10 w9 [],R,Zl.sp (l1:=[]) (l2:=[]) R,Zl.sr (l1:=[]) (l2:=[]),⟨[vi 0],[vi 0],Zl K10 w9 [],Zl K10 w9 [],R,Zl.sp (l1:=[]) (l2:=[]) R,Zl.sr (l1:=[]) (l2:=[]),R,R⟩,R⟩ λbk bi w20 K21 S22 f23=>Tv<|Jb 1 R<|Je [2,1,1] R<|Jf R (bJ (parts:=[]) (cells:=[.slice none 0 0,.slice none 0 0]) R R (by kernel_rfl))<|Jg1 (κ:=K21) 6 R R R R R X100 R λb7 w24 K25 S26 f27=>Tv<|Jj1 (κ:=K25) 6 (vc:=[.slice none 0 0,.slice none 0 0]) R R R R R R R Z100 R R f27 R λw28 S29 f30=>Tv<|Jd<|Jq<|Je3 R<|Ob h λq2 hq33 hK32=>?_
 clear h
 refine Jx1 (λL w'=>∃κ',∃s3:(List<|Int×Int)×Int×(List<|List Int),∃aa ab ac ad,L=[(2,.pointer (some ⟨b2,0,none⟩)),(3,.pointer (some ⟨b3,0,none⟩)),(4,.pointer (some ⟨b4,0,none⟩)),(6,.slice aa s3.1.length ab),(7,.pointer (some ⟨b7,0,none⟩))]/\Stp [5,6,7,8,9] K25 w28 κ' w'/\Oc (Ep.pair E6 E6) 81 κ' w' 5 aa ab s3.1/\Oc (Ep.own E6 2) 29 κ' w' 7 ac ad s3.2.2/\Bc κ' w' 6 b7 100 [.slice ac s3.2.2.length ad,.slice none 0 0]/\q2=xe s3) ?_ ?_
 refine Jv<|Jy1 (λk L w'=>∃κ',∃s1:(List<|Int×Int)×Int×(List<|List Int),∃aK aB aU aY,L=[(2,.pointer (some ⟨b2,0,none⟩)),(3,.pointer (some ⟨b3,0,none⟩)),(4,.pointer (some ⟨b4,0,none⟩)),(6,.slice aK s1.1.length aB),(7,.pointer (some ⟨b7,0,none⟩)),(8,vi s1.2.1)]/\Stp [5,6,7,8,9] K25 w28 κ' w'/\Oc (Ep.pair E6 E6) 81 κ' w' 5 aK aB s1.1/\Oc (Ep.own E6 2) 29 κ' w' 7 aU aY s1.2.2/\Bc κ' w' 6 b7 100 [.slice aU s1.2.2.length aY,.slice none 0 0]/\bZ (fi p0 p1) k s1=some q2) ⟨_,_,⟨K25,((([(0,0)]:List (Int×Int)):(List<|Int×Int)),(0:Int),(([]:List (List Int)):(List<|List Int))),bk,bi,none,0,R,Jj3,(f23.stp (S26.tr S29) R R),Ow.nil,f30,hq33⟩,(KM R)⟩ ?_
 rintro k _ w40 ⟨K41,s1,aK,aB,aU,aY,rfl,S42,f43,f44,f45,h⟩
 rcases k with _ | k
 cases h
 obtain⟨o31,h,hk47⟩:=BI h;unfold fi at h
 refine Jq<|Jg3 [2,2,2,2] 2 R<|Jn3 R U198 R R<|Jb 1 R ?_
 revert h
 cases ht48:decide (s1.2.1<(s1.1.length:Int))
 refine JF λh=>Jy R<|Jc1<|Jt<|Jt ?_
 cases h
 have h:=hk47
 refine Jb1 ?_
 cases h
 exact Jw1 _ ⟨K41,(s1.1,s1.2.1,s1.2.2),aK,aB,aU,aY,R,S42.wk R,f43,f44,f45,R⟩<|KM R
 refine JT λh=>Jx R<|Js<|Jp<|Jq<|Jv<|Je [1,2] R<|Jo1 (κ:=K41) (E:=E6) 8 R R R R R Y29 bG R λbj bl w49 K50 S51 f52=>Tv<|Jb 1 R<|Jq<|Jq<|Js1 (κ:=K50) [0,2,5] none [(0,2),(2,2),(3,2),(4,2),(5,2),(10,2),(1,0),(6,0),(7,2),(8,0),(9,2)] [] (by kernel_rfl) (by kernel_rfl) λw54 S53=>Jd3 R U100 R Z26<|Jn 2 R<|Ob h λx44 hx44 h=>Jc3 R f43.rdc hx44 U198 Z81<|Jf R (n0 U81 Z2 R R R R)<|Jn 1 R<|Jg R (Jc2 I26 R R<|hvC ((f13.stp (T6 S22 S26 S29 S42 S51 S53) R R).ld 0 R R) R) ?_
 have f56:=f43.stp (S51.tr S53) R R
 obtain⟨cse57,hre57,hle57⟩:=(f56.rdc).gSt hx44
 obtain⟨_,_,rfl,rfl,rfl⟩:=hre57
 refine Jg R (Jc2 I2 R R<|hvC (λw' hw'=>hle57 w' hw' 0 _ R) R)<|Ob h λx47 hx47 h=>Jc3 R g0_0 hx47 U26 Z29 ?_
 obtain⟨ax47,ux47,f59,hl60⟩:=(g0_0.stp (T9 S3 S7 S11 S22 S26 S29 S42 S51 S53) R R).gSl hx47
 refine Jg R (Jc2 I29 R R<|hvC hl60 R)<|Jn3 R U29 R R<|Jt1<|Jd ?_
 have hN61:(x47.length:Int)<=9223372036854775807:=f59.len_le
 refine Ob h λq5 hq63 hK62=>?_
 clear h
 refine Jx1 (λL w'=>∃κ',∃s6:(List<|Int×Int)×(List Int),∃aV aN ax aC,L=[(2,.pointer (some ⟨b2,0,none⟩)),(3,.pointer (some ⟨b3,0,none⟩)),(4,.pointer (some ⟨b4,0,none⟩)),(6,.slice aV s6.1.length aN),(7,.pointer (some ⟨b7,0,none⟩)),(8,vi s1.2.1),(9,.slice ax s6.2.length aC)]/\Stp [5,8,9] K50 w54 κ' w'/\Oc (Ep.pair E6 E6) 81 κ' w' 5 aV aN s6.1/\Oc E6 2 κ' w' 8 ax aC s6.2/\q5=xe s6) ?_ ?_
 refine Jv<|Jy1 (λk L w'=>∃κ' v50,∃s4:(List<|Int×Int)×(List Int),∃aG aE aA aH,L=[(2,.pointer (some ⟨b2,0,none⟩)),(3,.pointer (some ⟨b3,0,none⟩)),(4,.pointer (some ⟨b4,0,none⟩)),(6,.slice aG s4.1.length aE),(7,.pointer (some ⟨b7,0,none⟩)),(8,vi s1.2.1),(9,.slice aA s4.2.length aH),(48,.slice ax47 x47.length ux47),(49,vi (x47.length:Int)),(50,vi v50)]/\Stp [5,8,9] K50 w54 κ' w'/\Oc (Ep.pair E6 E6) 81 κ' w' 5 aG aE s4.1/\Oc E6 2 κ' w' 8 aA aH s4.2/\0<=v50/\xh ((x47.length:Int)-v50)=k/\cntM (dM p1 s1 x47) k v50 s4=some q5) ⟨_,_,⟨K50,0,(s1.1,(([]:List Int):(List Int))),aK,aB,bj,bl,R,Jj3,f56,(f52.stp S53 R R),(by decide),(by simp),hq63⟩,(KM R)⟩ ?_
 rintro k _ w69 ⟨K70,v50,s4,aG,aE,aA,aH,rfl,S71,f72,f73,hj61,hJ61,h⟩
 rcases k with _ | k
 have hk75:=h;obtain⟨o61,h⟩:=bP (xe (xf s4):(Det×Bool)⊕(((List (Int×Int))×(List Int))⊕((List (Int×Int))×(List Int))))
 have hc61:decide (v50<(x47.length:Int))=false:=Jo2 (by omega)
 refine Je3 R<|Jq<|Jw2 R hc61<|Jc1<|Jt<|Jt ?_
 cases h
 have h:=hk75
 refine Jb1 ?_
 cases h
 exact Jw1 _ ⟨K70,(s4.1,s4.2),aG,aE,aA,aH,R,S71.wk R,f72,f73,R⟩<|KM R
 obtain⟨o61,h,hk75⟩:=BI h;unfold dM at h
 have hc61:decide (v50<(x47.length:Int))=true:=Jn2 (by omega)
 refine Je3 R<|Jq<|Jv2 R hc61<|Js<|Jp<|Jq<|Jv<|Jg3 [2,2,1,2,2] 1 R<|Ob h λx53 hx53 h=>Jc3 R f59 hx53 U29 Z2<|Jb3 R I2 ((f59.stp S71 R R).gInt hx53)<|Jb 2 R<|Jq<|Js1 (κ:=K70) [0,3,5] none [(0,2),(1,2),(3,2),(4,2),(5,2),(6,2),(10,2),(2,0),(7,0),(8,2),(9,0),(11,2),(12,0),(13,2),(14,1),(15,1)] [] (by kernel_rfl) (by kernel_rfl) λw78 S77=>Jn 1 R<|Jd3 R U100 R Z26<|Jn 2 R<|Ob h λx60 hx60 h=>Jc3 R f72.rdc hx60 U198 Z81<|Jf R (n0 U81 Z2 R R R R)<|Jn 1 R<|Jg R (Jc2 I26 R R<|hvC ((f14.stp (T8 S22 S26 S29 S42 S51 S53 S71 S77) R R).ld 0 R R) R) ?_
 have f80:=f72.stp S77 R R
 obtain⟨cse81,hre81,hle81⟩:=(f80.rdc).gSt hx60
 obtain⟨_,_,rfl,rfl,rfl⟩:=hre81
 refine Jg R (Jc2 I2 R R<|hvC (λw' hw'=>hle81 w' hw' 1 _ R) R)<|Ob h λx63 hx63 h=>Jc3 R g1_0 hx63 U26 Z29 ?_
 obtain⟨ax63,ux63,f83,hl84⟩:=(g1_0.stp (T11 S3 S7 S11 S22 S26 S29 S42 S51 S53 S71 S77) R R).gSl hx63
 refine Jg R (Jc2 I29 R R<|hvC hl84 R)<|Ob h λx66 hx66 h=>Jc3 R f83 hx66 U29 Z2<|Jg R (Jc2 I2 R R<|hvC (f83.gInt hx66) R)<|Jf R (bJ (parts:=[(0,.tmp 55),(1,.tmp 67)]) (cells:=[vi x53,vi x66]) R R (by kernel_rfl))<|Jg1 (κ:=K70) 9 R R R R R X81 R λb12 w85 K86 S87 f88=>⟨(S87.cl R),Jj1 (κ:=K86) 9 (vc:=[vi x53,vi x66]) R R R R R R R Z81 R R f88 R λw89 S90 f91=>⟨((S87.tr S90).cl R),Jt1<|Jd<|Jg3 [2,1,1,2] 1 R<|Jl tv R R R R (Jd2 (cs:=[vi x53,vi x66]) I81 Z81 R R R<|haE f91.cells)<|Ob h λx71 hx71 h=>?_⟩⟩
 have f92:=f80.stp (S87.tr S90) R R
 refine Jh R R R C181 (ik (κ:=Mk K86) (p1:=(x53,x66)) (Ji3 f92.rdc) hx71) ?_
 rintro _ w93 ⟨k94,rfl,e95⟩
 obtain⟨K96,S97,m98⟩:=Ji e95 10 R
 refine Tv<|Jb 1 R<|Jq<|Je3 R<|Ob h λq7 h hK100=>Jx1 (λL w'=>∃κ' aT aQ,L=[(2,.pointer (some ⟨b2,0,none⟩)),(3,.pointer (some ⟨b3,0,none⟩)),(4,.pointer (some ⟨b4,0,none⟩)),(6,.slice aT q7.1.length aQ),(7,.pointer (some ⟨b7,0,none⟩)),(8,vi s1.2.1),(9,.slice aA s4.2.length aH),(13,vi q7.2),(48,.slice ax47 x47.length ux47),(49,vi (x47.length:Int)),(50,vi v50)]/\Stp [5] K96 w93 κ' w'/\Oc (Ep.pair E6 E6) 81 κ' w' 5 aT aQ q7.1) ?_ ?_
 revert h
 cases ht105:decide (x71<0)
 refine JF λh=>Jy R<|Js ?_
 cases h
 exact Jw1 _ ⟨K96,aG,aE,R,Jj3,(f92.stp S97 R R)⟩<|KM R
 refine JT λh=>Jx R<|Jg3 [2,2,2] 1 R<|Jn3 R U198 R R<|Jb 1 R<|Jh3 [2,1,1,1,2] 1 R<|Jl tv R R R R (Jd2 (cs:=[vi x53,vi x66]) I81 Z81 R R R<|haE (f91.stp S97 R R).cells)<|Jn1 (κ:=K96) (E:=(Ep.pair E6 E6)) 12 [] (parts:=[(0,.tmp 77)]) (cells:=[vi x53,vi x66]) (xs:=([(x53,x66)]:List (Int×Int))) R R R R R R Y198 mN R R R R R R R R R R ⟨[vi x53,vi x66],[],Zl K96 w93 [],Zl K96 w93 [],R,Zl.sp (l1:=[]) (l2:=[]) R,Zl.sr (l1:=[]) (l2:=[]),⟨[vi x53],[vi x66],Zl K96 w93 [],Zl K96 w93 [],R,Zl.sp (l1:=[]) (l2:=[]) R,Zl.sr (l1:=[]) (l2:=[]),R,R⟩,R⟩ λbp bx w107 K108 S109 f110=>Tv<|Ob h λx79 hx79 h=>Jm1 (κ:=K108) (E:=(Ep.pair E6 E6)) 5 [] R R R R R R R R R Y198 mN R R R R (f92.stp (S97.tr S109) R R) (Sl.srcP (vL (bT _)<|bT _) f110.rdc) bK hx79 R λbh bo w112 K113 S114 f115=>Tv<|Jc 1 R ?_
 cases h
 exact Jw1 _ ⟨K113,bh,bo,R,(S109.tr S114).wk R,f115⟩<|KM R
 rintro _ w101 ⟨K102,aT,aQ,rfl,S103,f104⟩
 have h:=hK100
 refine Jp<|Jh3 [2,2,1,1,2] 2 R<|Jn1 (κ:=K102) (E:=E6) 12 [] (parts:=[(0,.tmp 81)]) (cells:=[vi q7.2]) (xs:=([q7.2]:List Int)) R R R R R R Y29 bG R R R R R R R R R R ⟨[vi q7.2],[],Zl K102 w101 [],Zl K102 w101 [],R,Zl.sp (l1:=[]) (l2:=[]) R,Zl.sr (l1:=[]) (l2:=[]),R,R⟩ λbw bq w117 K118 S119 f120=>Tv<|Ob h λx83 hx83 h=>Jm1 (κ:=K118) (E:=E6) 8 [] R R R R R R R R R Y29 bG R R R R (f73.stp (T6 S77 S87 S90 S97 S103 S119) R R) (Sl.srcP (bT _) f120.rdc) bK hx83 R λbm bn w122 K123 S124 f125=>Tv<|Jc 1 R<|Jz<|Jp<|Jf3 R ?_
 have hw61:t0 .i64 (v50+1)=v50+1:=wr1 hj61 (Jm2 hc61) hN61
 rw[hw61]
 have hc61:=Jm2 hc61
 cases h
 exact Jz1 λa ha=>⟨k,_,Ja3 _,⟨K123,v50+1,(q7.1,x83),aT,aQ,bm,bn,R,(T8 S71 S77 S87 S90 S97 S103 S119 S124).wk R,(f104.stp (S119.tr S124) R R),f125,by omega,by omega,hk75⟩,(ha.mm R)⟩
 rintro _ w64 ⟨K65,s6,aV,aN,ax,aC,rfl,S66,f67,f68,rfl⟩
 have h:=yI hK62
 refine Jp<|Jq<|Jg3 [2,2,2] 1 R<|Jn3 R U198 R R<|Jb 1 R ?_
 revert h
 cases ht127:decide (48<(s6.1.length:Int))
 refine JF λh=>Jy R<|Js<|Jp<|Ja [2,1,2,1,1,2,1] R<|Jd3 R U100 R Z26 ?_
 have f133:=f45.stp (T3 S51 S53 S66) R R
 refine Jb3 R I26 (f133.ld 0 R R)<|Jn 1 R<|Jn1 (κ:=K65) (E:=(Ep.own E6 2)) 9 [8] (parts:=[(0,.tmp 91)]) (cells:=[.slice ax s6.2.length aC]) (xs:=([s6.2]:List (List Int))) R R R R R R Y26 bN R R R R R R R R R R ⟨[.slice ax s6.2.length aC],[],Zl K65 w64 [8],Zl K65 w64 [],R,Zl.sp (l1:=[8]) (l2:=[]) R,Zl.sr (l1:=[8]) (l2:=[]),⟨_,_,R,f68⟩,R⟩ λbB bu w134 K135 S136 f137=>Tv<|Ob h λx93 hx93 h=>Jm1 (κ:=K135) (E:=(Ep.own E6 2)) 7 [9] R R R R R R R R R Y26 bN R R R R (f44.stp (T4 S51 S53 S66 S136) R R) f137.src (dd R) hx93 R λbd bg w139 K140 S141 f142=>Tv<|Jd3 R U100 R Z26<|Ji1 (κ:=K140) 6 (off:=0) (vc:=[.slice bd x93.length bg]) (cs':=[.slice bd x93.length bg,.slice none 0 0]) R R R R R R R Z26 R R (f133.stp (S136.tr S141) R R) R R λw144 S145 f146=>Tv<|Jo<|Jz<|Jp<|Jf3 R ?_
 cases h
 exact Jz1 λa ha=>⟨k,_,Ja3 _,⟨K140,(s6.1,((IntKind.i64.wrap<|s1.2.1+1):Int),x93),aV,aN,bd,bg,R,(T7 S42 S51 S53 S66 S136 S141 S145).wk R,(f67.stp (T3 S136 S141 S145) R R),(f142.stp S145 R R),f146,hk47⟩,(ha.mm R)⟩
 refine JT λh=>Jx R<|Je [2,1,2] R<|Jf R (bJ (parts:=[]) (cells:=[.slice none 0 0,.slice none 0 0]) R R (by kernel_rfl))<|Jj1 (κ:=K65) 4 (vc:=[.slice none 0 0,.slice none 0 0]) R R R R R R R Z100 R R (f12.stp (T7 S22 S26 S29 S42 S51 S53 S66) R R) R λw129 S130 f131=>Tv<|Jb 1 R<|Ju<|Jw<|Ja1<|Jw<|Jw ?_
 cases h
 obtain rfl:=Option.some.inj hk47
 have h:=yL hK32
 refine Ja1<|Jq2<|Jw<|Ja2 (l:=[.cell 4 100,.tmp 5]) V131 (bL R f131 I100 Z100 R<|Jp2 R R) R ?_
 cases h
 exact⟨K65,none,0,none,0,R,(hE.stp (T11 S3 S7 S11 S22 S26 S29 S42 S51 S53 S66 S130) R R),Ow.nil,Ow.nil⟩
 rintro _ w34 ⟨K35,s3,aa,ab,ac,ad,rfl,S36,f37,f38,f39,rfl⟩
 have h:=yI hK32
 have S001:=(T7 S3 S7 S11 S22 S26 S29 S36)
 have S002:=(T4 S22 S26 S29 S36)
 refine Jp<|Jq<|Je [1,1,1,2,2] R<|Jl tv R R R R (Jd2 (cs:=[.slice aJ p0.Next.length aM,.slice aF p0.Pairs.length aL]) I100 Z100 R R R<|haE (f13.stp S002 R R).cells)<|Jl tv R R R R (Jd2 (cs:=[.slice au p1.Next.length ar,.slice av p1.Pairs.length ao]) I100 Z100 R R R<|haE (f14.stp S002 R R).cells)<|Jn1 (κ:=K35) (E:=(Ep.fz Det.rp)) 8 [] (parts:=[(0,.tmp 95),(1,.tmp 96)]) (cells:=[.slice aJ p0.Next.length aM,.slice aF p0.Pairs.length aL,.slice au p1.Next.length ar,.slice av p1.Pairs.length ao]) (xs:=([p0,p1]:List Det)) R R R R R R Y200 sn R R R R R R R R R R ⟨[.slice aJ p0.Next.length aM,.slice aF p0.Pairs.length aL],[.slice au p1.Next.length ar,.slice av p1.Pairs.length ao],Zl K35 w34 [],Zl K35 w34 [],R,Zl.sp (l1:=[]) (l2:=[]) R,Zl.sr (l1:=[]) (l2:=[]),(Det.mk_rel (Sl.z1<|g0_0.stp S001 R R)<|Sl.z1<|g0_1.stp S001 R R),⟨[.slice au p1.Next.length ar,.slice av p1.Pairs.length ao],[],Zl K35 w34 [],Zl K35 w34 [],R,Zl.sp (l1:=[]) (l2:=[]) R,Zl.sr (l1:=[]) (l2:=[]),(Det.mk_rel (Sl.z1<|g1_0.stp S001 R R)<|Sl.z1<|g1_1.stp S001 R R),R⟩⟩ λae ah w155 K156 S157 f158=>Tv<|Jn3 R U200 R R<|Jb 1 R ?_
 have hN159:(([p0,p1]:List Det).length:Int)<=9223372036854775807:=f158.len_le
 refine Ob h λq9 hq161 hK160=>?_
 clear h
 refine Jx1 (λL w'=>∃κ',∃s10:(List Pair),∃an aw,L=[(4,.pointer (some ⟨b4,0,none⟩)),(7,.pointer (some ⟨b7,0,none⟩))]/\Stp [6,9,10,11,12,13,14,15] K156 w155 κ' w'/\Oc Pair.ep154 154 κ' w' 9 an aw s10/\Bc κ' w' 6 b7 100 [.slice ac s3.2.2.length ad,.slice an s10.length aw]/\q9=xe s10) ?_ ?_
 refine Jv<|Jy1 (λk L w'=>∃κ' v99,∃s8:(List Pair),∃aD az,L=[(4,.pointer (some ⟨b4,0,none⟩)),(6,.slice aa s3.1.length ab),(7,.pointer (some ⟨b7,0,none⟩)),(97,.slice ae ([p0,p1]:List Det).length ah),(98,vi (([p0,p1]:List Det).length:Int)),(99,vi v99)]/\Stp [6,9,10,11,12,13,14,15] K156 w155 κ' w'/\Oc Pair.ep154 154 κ' w' 9 aD az s8/\Bc κ' w' 6 b7 100 [.slice ac s3.2.2.length ad,.slice aD s8.length az]/\0<=v99/\xh ((([p0,p1]:List Det).length:Int)-v99)=k/\cntM (cF p0 p1 s3) k v99 s8=some q9) ⟨_,_,⟨K156,0,(([]:List Pair):(List Pair)),none,0,R,Jj3,Ow.nil,(f39.stp S157 R R),(by decide),(by simp),hq161⟩,(KM R)⟩ ?_
 rintro k _ w167 ⟨K168,v99,s8,aD,az,rfl,S169,f170,f171,hj159,hJ159,h⟩
 rcases k with _ | k
 have hk173:=h;obtain⟨o159,h⟩:=bP (xe (xf s8):(Det×Bool)⊕(((List Pair))⊕((List Pair))))
 have hc159:decide (v99<(([p0,p1]:List Det).length:Int))=false:=Jo2 (by omega)
 refine Je3 R<|Jq<|Jw2 R hc159<|Jc1<|Jt<|Jt ?_
 cases h
 have h:=hk173
 refine Jb1 ?_
 cases h
 exact Jw1 _ ⟨K168,s8,aD,az,R,S169.wk R,f170,f171,R⟩<|KM R
 obtain⟨o159,h,hk173⟩:=BI h;unfold cF at h
 have hc159:decide (v99<(([p0,p1]:List Det).length:Int))=true:=Jn2 (by omega)
 refine Je3 R<|Jq<|Jv2 R hc159<|Js<|Jp<|Jq<|Jv<|Jg3 [2,2,1,1,2,1] 1 R<|Ob h λx102 hx102 h=>Jc3 R f158.rdc hx102 U200 Z100 ?_
 obtain⟨cse175,hre175,hle175⟩:=Ow.gZS (f158.stp S169 R R) hx102
 obtain⟨ae175_0,ue175_0,ae175_1,ue175_1,rfl,fe175_0,fe175_1⟩:=Det.un hre175
 refine Jl tv R R R R (Jd2 (cs:=[.slice ae175_0 x102.Next.length ue175_0,.slice ae175_1 x102.Pairs.length ue175_1]) I100 Z100 R R R<|haE hle175)<|Jg1 (κ:=K168) 10 R R R R R X100 R λb15 w176 K177 S178 f179=>Tv<|Jn 1 R<|Jj1 (κ:=K177) 10 (vc:=[.slice ae175_0 x102.Next.length ue175_0,.slice ae175_1 x102.Pairs.length ue175_1]) R R R R R R R Z100 R R f179 R λw180 S181 f182=>Tv<|Jd<|Je [2,1,2,2] R<|Jd3 R U100 R Z98<|Jb3 R I98 (f182.ld 1 R R)<|Jn3 R U98 R R<|Jb 1 R ?_
 have hN183:(x102.Pairs.length:Int)<=9223372036854775807:=fe175_1.len_le
 refine Ob h λq12 hq185 hK184=>?_
 clear h
 refine Jx1 (λL w'=>∃κ',∃s13:(List Pair),∃aW aO,L=[(4,.pointer (some ⟨b4,0,none⟩)),(6,.slice aa s3.1.length ab),(7,.pointer (some ⟨b7,0,none⟩)),(97,.slice ae ([p0,p1]:List Det).length ah),(98,vi (([p0,p1]:List Det).length:Int)),(99,vi v99)]/\Stp [6,9,11,12,13,14,15] K177 w180 κ' w'/\Oc Pair.ep154 154 κ' w' 9 aW aO s13/\Bc κ' w' 6 b7 100 [.slice ac s3.2.2.length ad,.slice aW s13.length aO]/\q12=xe s13) ?_ ?_
 refine Jv<|Jy1 (λk L w'=>∃κ' v107,∃s11:(List Pair),∃aR aP,L=[(4,.pointer (some ⟨b4,0,none⟩)),(6,.slice aa s3.1.length ab),(7,.pointer (some ⟨b7,0,none⟩)),(14,vi v99),(97,.slice ae ([p0,p1]:List Det).length ah),(98,vi (([p0,p1]:List Det).length:Int)),(99,vi v99),(105,.slice ae175_1 x102.Pairs.length ue175_1),(106,vi (x102.Pairs.length:Int)),(107,vi v107)]/\Stp [6,9,11,12,13,14,15] K177 w180 κ' w'/\Oc Pair.ep154 154 κ' w' 9 aR aP s11/\Bc κ' w' 6 b7 100 [.slice ac s3.2.2.length ad,.slice aR s11.length aP]/\0<=v107/\xh ((x102.Pairs.length:Int)-v107)=k/\cntM (cR s3 v99 x102) k v107 s11=some q12) ⟨_,_,⟨K177,0,s8,aD,az,R,Jj3,(f170.stp (S178.tr S181) R R),(f171.stp (S178.tr S181) R R),(by decide),(by simp),hq185⟩,(KM R)⟩ ?_
 rintro k _ w191 ⟨K192,v107,s11,aR,aP,rfl,S193,f194,f195,hj183,hJ183,h⟩
 rcases k with _ | k
 have hk198:=h;obtain⟨o183,h⟩:=bP (xe (xf s11):(Det×Bool)⊕(((List Pair))⊕((List Pair))))
 have hc183:decide (v107<(x102.Pairs.length:Int))=false:=Jo2 (by omega)
 refine Je3 R<|Jq<|Jw2 R hc183<|Jc1<|Jt<|Jt ?_
 cases h
 have h:=hk198
 refine Jb1 ?_
 cases h
 exact Jw1 _ ⟨K192,s11,aR,aP,R,S193.wk R,f194,f195,R⟩<|KM R
 obtain⟨o183,h,hk198⟩:=BI h;unfold cR at h
 have hc183:decide (v107<(x102.Pairs.length:Int))=true:=Jn2 (by omega)
 refine Je3 R<|Jq<|Jv2 R hc183<|Js<|Jp<|Jq<|Jv<|Je [2,1,1,1] R<|Ob h λx109 hx109 h=>Jc3 R fe175_1 hx109 U98 Z154 ?_
 obtain⟨cse200,hre200,hle200⟩:=((fe175_1.stp (T3 S178 S181 S193) R R)).gSt hx109
 obtain⟨ae200_0,ue200_0,ae200_1,ue200_1,rfl,fe200_0,fe200_1⟩:=Pair.un hre200
 refine Jl tv R R R R (Jd2 (cs:=[.slice ae200_0 x109.Ask.length ue200_0,.slice ae200_1 x109.Give.length ue200_1]) I154 Z154 R R R<|haE hle200)<|Jg1 (κ:=K192) 11 R R R R R X154 R λb17 w201 K202 S203 f204=>Tv<|Jj1 (κ:=K202) 11 (vc:=[.slice ae200_0 x109.Ask.length ue200_0,.slice ae200_1 x109.Give.length ue200_1]) R R R R R R R Z154 R R f204 R λw205 S206 f207=>Tv<|Jd<|Je [2,1,1] R<|Jf R (bJ (parts:=[]) (cells:=[.slice none 0 0,.slice none 0 0]) R R (by kernel_rfl))<|Jg1 (κ:=K202) 12 R R R R R X154 R λb18 w208 K209 S210 f211=>Tv<|Jj1 (κ:=K209) 12 (vc:=[.slice none 0 0,.slice none 0 0]) R R R R R R R Z154 R R f211 R λw212 S213 f214=>Tv<|Jd<|Jq<|Jg3 [2,2,2] 1 R<|Jn3 R U198 R R<|Jb 1 R ?_
 have hN215:(s3.1.length:Int)<=9223372036854775807:=f37.len_le
 refine Ob h λq15 hq217 hK216=>?_
 clear h
 refine Jx1 (λL w'=>∃κ',∃s16:(List Int)×(List Int),∃am aj af al,L=[(4,.pointer (some ⟨b4,0,none⟩)),(6,.slice aa s3.1.length ab),(7,.pointer (some ⟨b7,0,none⟩)),(14,vi v99),(18,.pointer (some ⟨b18,0,none⟩)),(97,.slice ae ([p0,p1]:List Det).length ah),(98,vi (([p0,p1]:List Det).length:Int)),(99,vi v99),(105,.slice ae175_1 x102.Pairs.length ue175_1),(106,vi (x102.Pairs.length:Int)),(107,vi v107)]/\Stp [12,13,14,15] K209 w212 κ' w'/\Oc E6 2 κ' w' 13 am aj s16.1/\Oc E6 2 κ' w' 14 af al s16.2/\Bc κ' w' 12 b18 154 [.slice am s16.1.length aj,.slice af s16.2.length al]/\q15=xe s16) ?_ ?_
 refine Jv<|Jy1 (λk L w'=>∃κ' v114,∃s14:(List Int)×(List Int),∃ay aI ak ai,L=[(4,.pointer (some ⟨b4,0,none⟩)),(6,.slice aa s3.1.length ab),(7,.pointer (some ⟨b7,0,none⟩)),(14,vi v99),(17,.pointer (some ⟨b17,0,none⟩)),(18,.pointer (some ⟨b18,0,none⟩)),(97,.slice ae ([p0,p1]:List Det).length ah),(98,vi (([p0,p1]:List Det).length:Int)),(99,vi v99),(105,.slice ae175_1 x102.Pairs.length ue175_1),(106,vi (x102.Pairs.length:Int)),(107,vi v107),(112,.slice aa s3.1.length ab),(113,vi (s3.1.length:Int)),(114,vi v114)]/\Stp [12,13,14,15] K209 w212 κ' w'/\Oc E6 2 κ' w' 13 ay aI s14.1/\Oc E6 2 κ' w' 14 ak ai s14.2/\Bc κ' w' 12 b18 154 [.slice ay s14.1.length aI,.slice ak s14.2.length ai]/\0<=v114/\xh ((s3.1.length:Int)-v114)=k/\cntM (eQ s3 v99 x109) k v114 s14=some q15) ⟨_,_,⟨K209,0,((([]:List Int):(List Int)),(([]:List Int):(List Int))),none,0,none,0,R,Jj3,Ow.nil,Ow.nil,f214,(by decide),(by simp),hq217⟩,(KM R)⟩ ?_
 rintro k _ w224 ⟨K225,v114,s14,ay,aI,ak,ai,rfl,S226,f227,f228,f229,hj215,hJ215,h⟩
 rcases k with _ | k
 have hk230:=h;obtain⟨o215,h⟩:=bP (xe (xf s14):(Det×Bool)⊕(((List Int)×(List Int))⊕((List Int)×(List Int))))
 have hc215:decide (v114<(s3.1.length:Int))=false:=Jo2 (by omega)
 refine Je3 R<|Jq<|Jw2 R hc215<|Jc1<|Jt<|Jt ?_
 cases h
 have h:=hk230
 refine Jb1 ?_
 cases h
 exact Jw1 _ ⟨K225,(s14.1,s14.2),ay,aI,ak,ai,R,S226.wk R,f227,f228,f229,R⟩<|KM R
 obtain⟨o215,h,hk230⟩:=BI h;unfold eQ at h
 have hc215:decide (v114<(s3.1.length:Int))=true:=Jn2 (by omega)
 refine Je3 R<|Jq<|Jv2 R hc215<|Js<|Jp<|Jq<|Jv<|Jg3 [2,2,1,1,2,1] 1 R<|Ob h λx117 hx117 h=>Jc3 R f37.rdc hx117 U198 Z81 ?_
 obtain⟨cse232,hre232,hle232⟩:=((f37.stp (T10 S157 S169 S178 S181 S193 S203 S206 S210 S213 S226) R R).rdc).gSt hx117
 obtain⟨_,_,rfl,rfl,rfl⟩:=hre232
 refine Jl tv R R R R (Jd2 (cs:=[vi x117.1,vi x117.2]) I81 Z81 R R R<|haE hle232)<|Jg1 (κ:=K225) 15 R R R R R X81 R λb20 w233 K234 S235 f236=>Tv<|Jn 1 R<|Jj1 (κ:=K234) 15 (vc:=[vi x117.1,vi x117.2]) R R R R R R R Z81 R R f236 R λw237 S238 f239=>Tv<|Jd<|Jq<|Jq<|Js1 (κ:=K234) [11,15] none [(0,2),(2,2),(3,2),(1,0),(4,0),(5,1)] [] (by kernel_rfl) (by kernel_rfl) λw241 S240=>Jd3 R U154 R Z29<|Jn 1 R<|Ob h λx122 hx122 h=>Jf R (qx (xs:=([x117.1,x117.2]:List Int)) (p:=⟨b20,0,none⟩) hx122 R U81 Z2 R R R) ?_
 have f242:=f207.stp (T6 S210 S213 S226 S235 S238 S240) R R
 refine Jg R (Jc2 I29 R R<|hvC (f242.ld 0 R R) R) ?_
 have f243:=f239.stp S240 R R
 refine Jg R (Jc2 I2 R R<|hvC (f243.ldD (xs:=([x117.1,x117.2]:List Int)) 0 R hx122 R) R)<|Ob h λx124 hx124 h=>Jh R R R C62 (ch (κ:=Mk K234) (Ji3<|fe200_0.stp (T8 S203 S206 S210 S213 S226 S235 S238 S240) R R) hx124) ?_
 rintro _ w245 ⟨k246,rfl,e247⟩
 obtain⟨K248,S249,m250⟩:=Ji e247 16 R
 refine⟨(S249.cl R),Jt1<|Jd<|Ob h λq17 h hK252=>Jx1 (λL w'=>∃κ' ap aq,L=[(4,.pointer (some ⟨b4,0,none⟩)),(6,.slice aa s3.1.length ab),(7,.pointer (some ⟨b7,0,none⟩)),(14,vi v99),(17,.pointer (some ⟨b17,0,none⟩)),(18,.pointer (some ⟨b18,0,none⟩)),(19,vi v114),(20,.pointer (some ⟨b20,0,none⟩)),(97,.slice ae ([p0,p1]:List Det).length ah),(98,vi (([p0,p1]:List Det).length:Int)),(99,vi v99),(105,.slice ae175_1 x102.Pairs.length ue175_1),(106,vi (x102.Pairs.length:Int)),(107,vi v107),(112,.slice aa s3.1.length ab),(113,vi (s3.1.length:Int)),(114,vi v114)]/\Stp [12,13] K248 w245 κ' w'/\Oc E6 2 κ' w' 13 ap aq q17/\Bc κ' w' 12 b18 154 [.slice ap q17.length aq,.slice ak s14.2.length ai]) ?_ ?_⟩
 revert h
 cases ht258:x124
 refine JF λh=>Jy R<|Js ?_
 cases h
 have S003:=(T4 S235 S238 S240 S249)
 exact Jw1 _ ⟨K248,ay,aI,R,Jj3,(f227.stp S003 R R),(f229.stp S003 R R)⟩<|KM R
 refine JT λh=>Jx R<|Ja [2,1,2,1,1,2,1] R<|Jd3 R U154 R Z29 ?_
 have f259:=f229.stp (T4 S235 S238 S240 S249) R R
 refine Jb3 R I29 (f259.ld 0 R R)<|Jn 1 R<|Jn1 (κ:=K248) (E:=E6) 18 [] (parts:=[(0,.tmp 127)]) (cells:=[vi v114]) (xs:=([v114]:List Int)) R R R R R R Y29 bG R R R R R R R R R R ⟨[vi v114],[],Zl K248 w245 [],Zl K248 w245 [],R,Zl.sp (l1:=[]) (l2:=[]) R,Zl.sr (l1:=[]) (l2:=[]),R,R⟩ λbz bA w260 K261 S262 f263=>Tv<|Ob h λx129 hx129 h=>Jm1 (κ:=K261) (E:=E6) 13 [] R R R R R R R R R Y29 bG R R R R (f227.stp (T5 S235 S238 S240 S249 S262) R R) (Sl.srcP (bT _) f263.rdc) bK hx129 R λbb aZ w265 K266 S267 f268=>Tv<|Jd3 R U154 R Z29<|Ji1 (κ:=K266) 12 (off:=0) (vc:=[.slice bb x129.length aZ]) (cs':=[.slice bb x129.length aZ,.slice ak s14.2.length ai]) R R R R R R R Z29 R R (f259.stp (S262.tr S267) R R) R R λw270 S271 f272=>Tv<|Jo ?_
 cases h
 exact Jw1 _ ⟨K266,bb,aZ,R,(T3 S262 S267 S271).wk R,(f268.stp S271 R R),f272⟩<|KM R
 rintro _ w253 ⟨K254,ap,aq,rfl,S255,f256,f257⟩
 have h:=hK252
 refine Jp<|Jq<|Js1 (κ:=K254) [11,15] none [(0,2),(2,2),(3,2),(1,0),(4,0),(5,1)] [] (by kernel_rfl) (by kernel_rfl) λw277 S276=>Jd3 R U154 R Z29<|Jn 1 R<|Ob h λx134 hx134 h=>Jf R (qx (xs:=([x117.1,x117.2]:List Int)) (p:=⟨b20,0,none⟩) hx134 R U81 Z2 R R R)<|Jg R (Jc2 I29 R R<|hvC ((f242.stp (T3 S249 S255 S276) R R).ld 1 R R) R)<|Jg R (Jc2 I2 R R<|hvC ((f243.stp (T3 S249 S255 S276) R R).ldD (xs:=([x117.1,x117.2]:List Int)) 0 R hx134 R) R)<|Ob h λx136 hx136 h=>Jh R R R C62 (ch (κ:=Mk K254) (Ji3<|fe200_1.stp (T11 S203 S206 S210 S213 S226 S235 S238 S240 S249 S255 S276) R R) hx136) ?_
 rintro _ w281 ⟨k282,rfl,e283⟩
 obtain⟨K284,S285,m286⟩:=Ji e283 18 R
 refine⟨(S285.cl R),Jt1<|Jd<|Ob h λq18 h hK288=>Jx1 (λL w'=>∃κ' aS aX,L=[(4,.pointer (some ⟨b4,0,none⟩)),(6,.slice aa s3.1.length ab),(7,.pointer (some ⟨b7,0,none⟩)),(14,vi v99),(17,.pointer (some ⟨b17,0,none⟩)),(18,.pointer (some ⟨b18,0,none⟩)),(97,.slice ae ([p0,p1]:List Det).length ah),(98,vi (([p0,p1]:List Det).length:Int)),(99,vi v99),(105,.slice ae175_1 x102.Pairs.length ue175_1),(106,vi (x102.Pairs.length:Int)),(107,vi v107),(112,.slice aa s3.1.length ab),(113,vi (s3.1.length:Int)),(114,vi v114)]/\Stp [12,14] K284 w281 κ' w'/\Oc E6 2 κ' w' 14 aS aX q18/\Bc κ' w' 12 b18 154 [.slice ap q17.length aq,.slice aS q18.length aX]) ?_ ?_⟩
 revert h
 cases ht294:x136
 refine JF λh=>Jy R<|Js ?_
 cases h
 exact Jw1 _ ⟨K284,ak,ai,R,Jj3,(f228.stp (T7 S235 S238 S240 S249 S255 S276 S285) R R),(f257.stp (S276.tr S285) R R)⟩<|KM R
 refine JT λh=>Jx R<|Ja [2,1,2,1,1,2,1] R<|Jd3 R U154 R Z29 ?_
 have f295:=f257.stp (S276.tr S285) R R
 refine Jb3 R I29 (f295.ld 1 R R)<|Jn 1 R<|Jn1 (κ:=K284) (E:=E6) 20 [] (parts:=[(0,.tmp 139)]) (cells:=[vi v114]) (xs:=([v114]:List Int)) R R R R R R Y29 bG R R R R R R R R R R ⟨[vi v114],[],Zl K284 w281 [],Zl K284 w281 [],R,Zl.sp (l1:=[]) (l2:=[]) R,Zl.sr (l1:=[]) (l2:=[]),R,R⟩ λbv bt w296 K297 S298 f299=>Tv<|Ob h λx141 hx141 h=>Jm1 (κ:=K297) (E:=E6) 14 [] R R R R R R R R R Y29 bG R R R R (f228.stp (T8 S235 S238 S240 S249 S255 S276 S285 S298) R R) (Sl.srcP (bT _) f299.rdc) bK hx141 R λbe bc w301 K302 S303 f304=>Tv<|Jd3 R U154 R Z29<|Ji1 (κ:=K302) 12 (off:=1) (vc:=[.slice be x141.length bc]) (cs':=[.slice ap q17.length aq,.slice be x141.length bc]) R R R R R R R Z29 R R (f295.stp (S298.tr S303) R R) R R λw306 S307 f308=>Tv<|Jo ?_
 cases h
 exact Jw1 _ ⟨K302,be,bc,R,(T3 S298 S303 S307).wk R,(f304.stp S307 R R),f308⟩<|KM R
 rintro _ w289 ⟨K290,aS,aX,rfl,S291,f292,f293⟩
 have h:=hK288
 refine Jz<|Jp<|Jf3 R ?_
 have hw215:t0 .i64 (v114+1)=v114+1:=wr1 hj215 (Jm2 hc215) hN215
 rw[hw215]
 have hc215:=Jm2 hc215
 cases h
 exact Jz1 λa ha=>⟨k,_,Ja3 _,⟨K290,v114+1,(q17,q18),ap,aq,aS,aX,R,(T9 S226 S235 S238 S240 S249 S255 S276 S285 S291).wk R,(f256.stp (T3 S276 S285 S291) R R),f292,f293,by omega,by omega,hk230⟩,(ha.mm R)⟩
 rintro _ w218 ⟨K219,s16,am,aj,af,al,rfl,S220,f221,f222,f223,rfl⟩
 have h:=yI hK216
 refine Jp<|Ja [2,1,1,1,1,2,1] R<|Jd3 R U100 R Z98 ?_
 have f313:=f195.stp (T5 S203 S206 S210 S213 S220) R R
 refine Jb3 R I98 (f313.ld 1 R R)<|Jl tv R R R R (Jd2 (cs:=[.slice am s16.1.length aj,.slice af s16.2.length al]) I154 Z154 R R R<|haE f223.cells)<|Jn1 (κ:=K219) (E:=Pair.ep154) 15 [13,14] (parts:=[(0,.tmp 146)]) (cells:=[.slice am s16.1.length aj,.slice af s16.2.length al]) (xs:=([(⟨s16.1,s16.2⟩:Pair)]:List Pair)) R R R R R R Y98 cv R R R R R R R R R R ⟨[.slice am s16.1.length aj,.slice af s16.2.length al],[],Zl K219 w218 [13,14],Zl K219 w218 [],R,Zl.sp (l1:=[13,14]) (l2:=[]) R,Zl.sr (l1:=[13,14]) (l2:=[]),⟨[.slice am s16.1.length aj],[.slice af s16.2.length al],Zl K219 w218 [13],Zl K219 w218 [14],R,Zl.sp (l1:=[13]) (l2:=[14]) R,Zl.sr (l1:=[13]) (l2:=[14]),⟨_,_,R,f221⟩,⟨_,_,R,f222⟩⟩,R⟩ λbr bs w314 K315 S316 f317=>Tv<|Ob h λx148 hx148 h=>Jm1 (κ:=K315) (E:=Pair.ep154) 9 [15] R R R R R R R R R Y98 cv R R R R (f194.stp (T6 S203 S206 S210 S213 S220 S316) R R) f317.src (dd R) hx148 R λbf ba w319 K320 S321 f322=>Tv<|Jd3 R U100 R Z98<|Ji1 (κ:=K320) 6 (off:=1) (vc:=[.slice bf x148.length ba]) (cs':=[.slice ac s3.2.2.length ad,.slice bf x148.length ba]) R R R R R R R Z98 R R (f313.stp (S316.tr S321) R R) R R λw324 S325 f326=>Tv<|Jo<|Jz<|Jp<|Jf3 R ?_
 have hw183:t0 .i64 (v107+1)=v107+1:=wr1 hj183 (Jm2 hc183) hN183
 rw[hw183]
 have hc183:=Jm2 hc183
 cases h
 exact Jz1 λa ha=>⟨k,_,Ja3 _,⟨K320,v107+1,x148,bf,ba,R,(T9 S193 S203 S206 S210 S213 S220 S316 S321 S325).wk R,(f322.stp S325 R R),f326,by omega,by omega,hk198⟩,(ha.mm R)⟩
 rintro _ w186 ⟨K187,s13,aW,aO,rfl,S188,f189,f190,rfl⟩
 have h:=yI hK184
 refine Jz<|Jp<|Jf3 R ?_
 have hw159:t0 .i64 (v99+1)=v99+1:=wr1 hj159 (Jm2 hc159) hN159
 rw[hw159]
 have hc159:=Jm2 hc159
 cases h
 exact Jz1 λa ha=>⟨k,_,Ja3 _,⟨K187,v99+1,s13,aW,aO,R,(T4 S169 S178 S181 S188).wk R,f189,f190,by omega,by omega,hk173⟩,(ha.mm R)⟩
 rintro _ w162 ⟨K163,s10,an,aw,rfl,S164,f165,f166,rfl⟩
 have h:=yI hK160
 refine Jp<|Je [1,1,2] R<|Jl tv R R R R (Jd2 (cs:=[.slice ac s3.2.2.length ad,.slice an s10.length aw]) I100 Z100 R R R<|haE f166.cells)<|Jj1 (κ:=K163) 4 (vc:=[.slice ac s3.2.2.length ad,.slice an s10.length aw]) R R R R R R R Z100 R R (f12.stp (T6 S22 S26 S29 S36 S157 S164) R R) R λw329 S330 f331=>Tv<|Jb 1 R<|Ju<|Ja2 (l:=[.cell 4 100,.tmp 5]) V131 (bL R f331 I100 Z100 R<|Jp2 R R) R ?_
 cases h
 exact⟨(λb=>ren [(7,2),(9,3)]<|K163 b),ac,ad,an,aw,R,((hE.stp (T10 S3 S7 S11 S22 S26 S29 S36 S157 S164 S330) R R).map (ren [(7,2),(9,3)]) R R),((f38.stp (T3 S157 S164 S330) R R).map (ren [(7,2),(9,3)]) R R),((f165.stp S330 R R).map (ren [(7,2),(9,3)]) R R)⟩
 refine JT λh=>Jx R<|Je [2,1,2] R<|Jf R (bJ (parts:=[]) (cells:=[.slice none 0 0,.slice none 0 0]) R R (by kernel_rfl))<|Jj1 (κ:=K10) 4 (vc:=[.slice none 0 0,.slice none 0 0]) R R R R R R R Z100 R R f12 R λw16 S17 f18=>Tv<|Jb 1 R<|Ju<|Jw<|Ja2 (l:=[.cell 4 100,.tmp 5]) V131 (bL R f18 I100 Z100 R<|Jp2 R R) R ?_
 cases h
 exact⟨K10,none,0,none,0,R,(hE.stp (T4 S3 S7 S11 S17) R R),Ow.nil,Ow.nil⟩
theorem oo {a0 u0}{p0:(List Pair)}{a1 u1}{p1:(List Int)}{p2:Int}(g0:Rd Pair.rp κ w 0 a0 u0 p0) (g1:Rd (Rp.int .i64) κ w 0 a1 u1 p1){r:(List Int)}(h:gP p0 p1 p2=some r):Ret Tryz.prog 138 [.slice a0 p0.length u0,.slice a1 p1.length u1,vi p2] w (Pvs E6 2 κ w r):=by
 unfold gP at h
 refine Jk3 κ F138 R N138 R λhE=>Je3 R<|Je [1,1,2,2] R<|Jo1 (κ:=κ) (E:=E6) 2 R R R R R Y29 bG R λaq aw w1 K2 S3 f4=>Tv<|Jo1 (κ:=K2) (E:=E6) 3 R R R R R Y29 bG R λap an w5 K6 S7 f8=>Tv<|Jb 2 R<|Jq<|Jg3 [2,2,2] 1 R<|Jn3 R U29 R R<|Jb 1 R ?_
 have hN9:(p1.length:Int)<=9223372036854775807:=g1.len_le
 refine Ob h λq2 hq11 hK10=>?_
 clear h
 refine Jx1 (λL w'=>∃κ',∃s3:(List Int)×(List Int),∃aj am ak al,L=[(7,.slice aj s3.1.length am),(8,.slice ak s3.2.length al)]/\Stp [2,3] K6 w5 κ' w'/\Oc E6 2 κ' w' 2 aj am s3.1/\Oc E6 2 κ' w' 3 ak al s3.2/\q2=xe s3) ?_ ?_
 refine Jv<|Jy1 (λk L w'=>∃κ' v15,∃s1:(List Int)×(List Int),∃ac aa ab ad,L=[(0,.slice a0 p0.length u0),(2,vi p2),(7,.slice ac s1.1.length aa),(8,.slice ab s1.2.length ad),(13,.slice a1 p1.length u1),(14,vi (p1.length:Int)),(15,vi v15)]/\Stp [2,3] K6 w5 κ' w'/\Oc E6 2 κ' w' 2 ac aa s1.1/\Oc E6 2 κ' w' 3 ab ad s1.2/\0<=v15/\xh ((p1.length:Int)-v15)=k/\cntM (ew p0 p1 p2) k v15 s1=some q2) ⟨_,_,⟨K6,0,((([]:List Int):(List Int)),(([]:List Int):(List Int))),aq,aw,ap,an,R,Jj3,(f4.stp S7 R R),f8,(by decide),(by simp),hq11⟩,(KM R)⟩ ?_
 rintro k _ w17 ⟨K18,v15,s1,ac,aa,ab,ad,rfl,S19,f20,f21,hj9,hJ9,h⟩
 rcases k with _ | k
 have hk23:=h;obtain⟨o9,h⟩:=bP (xe (xf s1):(List Int)⊕(((List Int)×(List Int))⊕((List Int)×(List Int))))
 have hc9:decide (v15<(p1.length:Int))=false:=Jo2 (by omega)
 refine Je3 R<|Jq<|Jw2 R hc9<|Jc1<|Jt<|Jt ?_
 cases h
 have h:=hk23
 refine Jb1 ?_
 cases h
 exact Jw1 _ ⟨K18,(s1.1,s1.2),ac,aa,ab,ad,R,S19.wk R,f20,f21,R⟩<|KM R
 obtain⟨o9,h,hk23⟩:=BI h;unfold ew at h
 have hc9:decide (v15<(p1.length:Int))=true:=Jn2 (by omega)
 refine Je3 R<|Jq<|Jv2 R hc9<|Js<|Jp<|Jq<|Jv<|Je [2,1,2] R<|Ob h λx17 hx17 h=>Jc3 R g1 hx17 U29 Z2<|Jb3 R I2 ((g1.stp (T3 S3 S7 S19) R R).gInt hx17)<|Jb 1 R<|Jg3 [2,2,2,2,1,2,1] 2 R<|Ob h λx21 hx21 h=>Jc3 R g0 hx21 U98 Z154<|Jd3 R U154 R Z29 ?_
 obtain⟨cse26,hre26,hle26⟩:=((g0.stp (T3 S3 S7 S19) R R)).gSt hx21
 obtain⟨ae26_0,ue26_0,ae26_1,ue26_1,rfl,fe26_0,fe26_1⟩:=Pair.un hre26
 refine Jb3 R I29 (λw' hw'=>hle26 w' hw' 1 _ R)<|Jn 1 R<|Ob h λx25 hx25 h=>Jh R R R C62 (ch (κ:=Mk K18) (Ji3 fe26_1) hx25) ?_
 rintro _ w27 ⟨k28,rfl,e29⟩
 obtain⟨K30,S31,m32⟩:=Ji e29 4 R
 refine Tv<|Jd<|Ob h λq4 h hK34=>Jx1 (λL w'=>∃κ' af ai ah ae,L=[(0,.slice a0 p0.length u0),(2,vi p2),(7,.slice af q4.1.length ai),(8,.slice ah q4.2.length ae),(13,.slice a1 p1.length u1),(14,vi (p1.length:Int)),(15,vi v15)]/\Stp [2,3] K30 w27 κ' w'/\Oc E6 2 κ' w' 2 af ai q4.1/\Oc E6 2 κ' w' 3 ah ae q4.2) ?_ ?_
 revert h
 cases ht40:x25
 refine JF λh=>Jy R<|Jh3 [2,2,1,1,2] 2 R<|Jn1 (κ:=K30) (E:=E6) 6 [] (parts:=[(0,.tmp 31)]) (cells:=[vi x17]) (xs:=([x17]:List Int)) R R R R R R Y29 bG R R R R R R R R R R ⟨[vi x17],[],Zl K30 w27 [],Zl K30 w27 [],R,Zl.sp (l1:=[]) (l2:=[]) R,Zl.sr (l1:=[]) (l2:=[]),R,R⟩ λaz aA w51 K52 S53 f54=>Tv<|Ob h λx33 hx33 h=>Jm1 (κ:=K52) (E:=E6) 3 [] R R R R R R R R R Y29 bG R R R R (f21.stp (S31.tr S53) R R) (Sl.srcP (bT _) f54.rdc) bK hx33 R λao ax w56 K57 S58 f59=>Tv<|Jc 1 R ?_
 cases h
 exact Jw1 _ ⟨K57,ac,aa,ao,ax,R,(S53.tr S58).wk R,(f20.stp (T3 S31 S53 S58) R R),f59⟩<|KM R
 refine JT λh=>Jx R<|Jh3 [2,2,1,1,2] 2 R<|Jn1 (κ:=K30) (E:=E6) 6 [] (parts:=[(0,.tmp 27)]) (cells:=[vi x17]) (xs:=([x17]:List Int)) R R R R R R Y29 bG R R R R R R R R R R ⟨[vi x17],[],Zl K30 w27 [],Zl K30 w27 [],R,Zl.sp (l1:=[]) (l2:=[]) R,Zl.sr (l1:=[]) (l2:=[]),R,R⟩ λaB aC w41 K42 S43 f44=>Tv<|Ob h λx29 hx29 h=>Jm1 (κ:=K42) (E:=E6) 2 [] R R R R R R R R R Y29 bG R R R R (f20.stp (S31.tr S43) R R) (Sl.srcP (bT _) f44.rdc) bK hx29 R λau ar w46 K47 S48 f49=>Tv<|Jc 1 R ?_
 cases h
 exact Jw1 _ ⟨K47,au,ar,ab,ad,R,(S43.tr S48).wk R,f49,(f21.stp (T3 S31 S43 S48) R R)⟩<|KM R
 rintro _ w35 ⟨K36,af,ai,ah,ae,rfl,S37,f38,f39⟩
 have h:=hK34
 refine Jz<|Jp<|Jf3 R ?_
 have hw9:t0 .i64 (v15+1)=v15+1:=wr1 hj9 (Jm2 hc9) hN9
 rw[hw9]
 have hc9:=Jm2 hc9
 cases h
 exact Jz1 λa ha=>⟨k,_,Ja3 _,⟨K36,v15+1,(q4.1,q4.2),af,ai,ah,ae,R,(T3 S19 S31 S37).wk R,f38,f39,by omega,by omega,hk23⟩,(ha.mm R)⟩
 rintro _ w12 ⟨K13,s3,aj,am,ak,al,rfl,S14,f15,f16,rfl⟩
 have h:=yI hK10
 refine Jp<|Jg3 [2,2,1,2] 2 R<|Ob h λx37 hx37 h=>Jm1 (κ:=K13) (E:=E6) 2 [] R R R R R R R R R Y29 bG R R R R f15 (Sl.srcP (bT _) f16.rdc) bK hx37 R λay av w61 K62 S63 f64=>Tv<|Jb 1 R<|Ju<|Ja2 (l:=[.tmp 6]) V138 (Jp2 R R) R ?_
 cases h
 exact⟨K62,ay,av,R,(hE.stp (T4 S3 S7 S14 S63) R R),f64⟩
theorem j0 {aa ai ah ac}{p0:Machine}{ae ad af ab}{p1:Machine}(g0_0:Rd (Rp.sl (Rp.int .i64)) κ w 0 aa ai p0.Next) (g0_1:Rd (Rp.sl (Rp.int .i64)) κ w 0 ah ac p0.Out) (g1_0:Rd (Rp.sl (Rp.int .i64)) κ w 0 ae ad p1.Next) (g1_1:Rd (Rp.sl (Rp.int .i64)) κ w 0 af ab p1.Out){r:Bool}(h:fc p0 p1=some r):Ret Tryz.prog 31 [.agg #[.slice aa p0.Next.length ai,.slice ah p0.Out.length ac],.agg #[.slice ae p1.Next.length ad,.slice af p1.Out.length ab]] w (Pvb κ w r):=by
 unfold fc at h
 refine Jk3 κ F31 R N31 R λhE=>Je [1,1,2] R<|Jf1 (κ:=κ) 2 R R R R R R R λb2 w1 K2 S3 f4=>Tv<|Jf1 (κ:=K2) 3 R R R R R R R λb3 w5 K6 S7 f8=>Tv<|Jb 1 R<|Jq<|Je [2,1,2,1,1,2] R<|Jd3 R U28 R Z26 ?_
 have f9:=f4.stp S7 R R
 refine Jb3 R I26 (f9.ld 0 R R)<|Jd3 R U28 R Z26<|Jb3 R I26 (f8.ld 0 R R)<|Ob h λx9 hx9 h=>Jh R R R C83 (lM (κ:=Mk K6) (Ji3<|g0_0.stp (S3.tr S7) R R) (Ji3<|g1_0.stp (S3.tr S7) R R) hx9) ?_
 rintro _ w12 ⟨k13,rfl,e14⟩
 obtain⟨K15,S16,m17⟩:=Ji e14 4 R
 refine Tv<|Jb 1 R ?_
 revert h
 cases ht19:(!x9)
 refine JF λh=>Jy R<|Js<|Jp<|Jq<|Je [2,1,2,1,1,2] R<|Jd3 R U28 R Z26<|Jb3 R I26 ((f9.stp S16 R R).ld 1 R R)<|Jd3 R U28 R Z26<|Jb3 R I26 ((f8.stp S16 R R).ld 1 R R)<|Ob h λx15 hx15 h=>Jh R R R C83 (lM (κ:=Mk K15) (Ji3<|g0_1.stp (T3 S3 S7 S16) R R) (Ji3<|g1_1.stp (T3 S3 S7 S16) R R) hx15) ?_
 rintro _ w25 ⟨k26,rfl,e27⟩
 obtain⟨K28,S29,m30⟩:=Ji e27 6 R
 refine Tv<|Jb 1 R ?_
 revert h
 cases ht32:(!x15)
 refine JF λh=>Jy R<|Js<|Jp<|Je3 R<|Ju<|Ja2 (l:=[.tmp 4]) V31 (Jp2 R R) R ?_
 cases h
 exact⟨K28,R,(hE.stp (T4 S3 S7 S16 S29) R R)⟩
 refine JT λh=>Jx R<|Je3 R<|Ju<|Jw<|Ja2 (l:=[.tmp 4]) V31 (Jp2 R R) R ?_
 cases h
 exact⟨K28,R,(hE.stp (T4 S3 S7 S16 S29) R R)⟩
 refine JT λh=>Jx R<|Je3 R<|Ju<|Jw<|Ja2 (l:=[.tmp 4]) V31 (Jp2 R R) R ?_
 cases h
 exact⟨K15,R,(hE.stp (T3 S3 S7 S16) R R)⟩
theorem oW {a0 u0}{p0:(List Clause)}{a1 u1}{p1:(List Clause)}(g0:Rd Clause.rp κ w 0 a0 u0 p0) (g1:Rd Clause.rp κ w 0 a1 u1 p1){r:Bool}(h:iU p0 p1=some r):Ret Tryz.prog 23 [.slice a0 p0.length u0,.slice a1 p1.length u1] w (Pvb κ w r):=by
 unfold iU at h
 refine Jk3 κ F23 R N23 R λhE=>Je3 R<|Jq<|Jg3 [2,2,2,2,2] 1 R<|Jn3 R U49 R R<|Jn 1 R<|Jn3 R U49 R R<|Jb 1 R ?_
 revert h
 cases ht1:((p0.length:Int) !=(p1.length:Int))
 refine JF λh=>Jy R<|Js<|Jp<|Jq<|Je3 R ?_
 have hN2:(p0.length:Int)<=9223372036854775807:=g0.len_le
 refine Ob h λq2 hq4 hK3=>?_
 clear h
 refine Jx1 (λL w'=>∃κ',L=[]/\Stp [] κ w κ' w'/\q2=xe ()) ?_ ?_
 refine Jv<|Jy1 (λk L w'=>∃κ' v5,L=[(0,.slice a0 p0.length u0),(1,.slice a1 p1.length u1),(5,vi v5)]/\Stp [] κ w κ' w'/\0<=v5/\xh ((p0.length:Int)-v5)=k/\cntM (eU p0 p1) k v5 ()=some q2) ⟨_,_,⟨κ,0,R,Jj3,(by decide),(by simp),hq4⟩,(KM R)⟩ ?_
 rintro k _ w8 ⟨K9,v5,rfl,S10,hj2,hJ2,h⟩
 rcases k with _ | k
 have hk11:=h;obtain⟨o2,h⟩:=bP (xe (xf ()):Bool⊕((Unit)⊕(Unit)))
 have hc2:decide (v5<(p0.length:Int))=false:=Jo2 (by omega)
 refine Jq<|Jg3 [2,2,2,2] 2 R<|Jn3 R U49 R R<|Jb 1 R<|Jw2 R hc2<|Jc1<|Jt<|Jt ?_
 cases h
 have h:=hk11
 refine Jb1 ?_
 cases h
 exact Jw1 _ ⟨K9,R,S10.wk R,R⟩ KN
 obtain⟨o2,h,hk11⟩:=BI h;unfold eU at h
 have hc2:decide (v5<(p0.length:Int))=true:=Jn2 (by omega)
 refine Jq<|Jg3 [2,2,2,2] 2 R<|Jn3 R U49 R R<|Jb 1 R<|Jv2 R hc2<|Js<|Jp<|Jq<|Jv<|Jq<|Js1 (κ:=K9) [0] none [(0,2),(1,2),(2,2),(4,2),(5,2),(6,2),(3,0),(7,0),(8,1),(9,2)] [] (by kernel_rfl) (by kernel_rfl) λw13 S12=>Jn 2 R<|Ob h λx19 hx19 h=>Jc3 R g0 hx19 U49 Z119<|Jn 2 R<|Ob h λx23 hx23 h=>Jc3 R g1 hx23 U49 Z119 ?_
 obtain⟨cse15,hre15,hle15⟩:=((g0.stp (S10.tr S12) R R)).gSt hx19
 obtain⟨ae15_0,ue15_0,ae15_1,ue15_1,rfl,fe15_0,fe15_1⟩:=Clause.un hre15
 refine Jg R (Jd2 (cs:=[vi x19.Kind,.slice ae15_0 x19.A.length ue15_0,.slice ae15_1 x19.B.length ue15_1]) I119 Z119 R R R<|haC hle15 R) ?_
 obtain⟨cse17,hre17,hle17⟩:=((g1.stp (S10.tr S12) R R)).gSt hx23
 obtain⟨ae17_0,ue17_0,ae17_1,ue17_1,rfl,fe17_0,fe17_1⟩:=Clause.un hre17
 refine Jg R (Jd2 (cs:=[vi x23.Kind,.slice ae17_0 x23.A.length ue17_0,.slice ae17_1 x23.B.length ue17_1]) I119 Z119 R R R<|haC hle17 R)<|Ob h λx25 hx25 h=>Jh R R R C84 (pZ (κ:=Mk K9) (p0:=x19) (p1:=x23) (Ji3 fe15_0) (Ji3 fe15_1) (Ji3 fe17_0) (Ji3 fe17_1) hx25) ?_
 rintro _ w18 ⟨k19,rfl,e20⟩
 obtain⟨K21,S22,m23⟩:=Ji e20 2 R
 refine⟨(S22.cl R),Jn 1 R<|Jt1<|Jd ?_⟩
 revert h
 cases ht25:(!x25)
 refine JF λh=>Jy R<|Js<|Jz<|Jp<|Jf3 R ?_
 have hw2:t0 .i64 (v5+1)=v5+1:=wr1 hj2 (Jm2 hc2) hN2
 rw[hw2]
 have hc2:=Jm2 hc2
 cases h
 exact Jz1 λa ha=>⟨k,_,Ja3 _,⟨K21,v5+1,R,(T3 S10 S12 S22).wk R,by omega,by omega,hk11⟩,(ha.mm R)⟩
 refine JT λh=>Jx R<|Je3 R<|Ju<|Ja1<|Jw<|Jw ?_
 cases h
 obtain rfl:=Option.some.inj hk11
 have h:=yL hK3
 refine Ja1<|Jq2<|Jw<|Ja2 (l:=[.tmp 4]) V23 (Jp2 R R) R ?_
 cases h
 exact⟨K21,R,(hE.stp (T3 S10 S12 S22) R R)⟩
 rintro _ w5 ⟨K6,rfl,S7,rfl⟩
 have h:=yI hK3
 refine Jp<|Je3 R<|Ju<|Ja2 (l:=[.tmp 4]) V23 (Jp2 R R) R ?_
 cases h
 exact⟨K6,R,(hE.stp S7 R R)⟩
 refine JT λh=>Jx R<|Je3 R<|Ju<|Jw<|Ja2 (l:=[.tmp 4]) V23 (Jp2 R R) R ?_
 cases h
 exact⟨κ,R,hE⟩
theorem kY {ab ad ac aa}{p0:Machine}{p1:Int}(g0_0:Rd (Rp.sl (Rp.int .i64)) κ w 0 ab ad p0.Next) (g0_1:Rd (Rp.sl (Rp.int .i64)) κ w 0 ac aa p0.Out){r:Int}(h:eE p0 p1=some r):Ret Tryz.prog 33 [.agg #[.slice ab p0.Next.length ad,.slice ac p0.Out.length aa],vi p1] w (Pvi κ w r):=by
 unfold eE at h
 refine Jk3 κ F33 R N33 R λhE=>Je [1,2] R<|Jf1 (κ:=κ) 2 R R R R R R R λb2 w1 K2 S3 f4=>Tv<|Jb 1 R<|Je [2,1,2,1,2] R<|Jd3 R U28 R Z26<|Jb3 R I26 (f4.ld 0 R R)<|Jn 1 R<|Ob h λx8 hx8 h=>Jh R R R C88 (kH (κ:=Mk K2) (Ji3<|g0_0.stp S3 R R) hx8) ?_
 rintro _ w6 ⟨k7,rfl,e8⟩
 obtain⟨K9,S10,m11⟩:=Ji e8 3 R
 refine Tv<|Jb 1 R<|Jq<|Je3 R ?_
 revert h
 cases ht13:decide (x8<0)
 refine JF λh=>Jy R<|Js<|Jp<|Je [2,1,2,1,2] R<|Jd3 R U28 R Z26<|Jb3 R I26 ((f4.stp S10 R R).ld 1 R R)<|Jn 1 R<|Ob h λx14 hx14 h=>Jh R R R C88 (kH (κ:=Mk K9) (Ji3<|g0_1.stp (S3.tr S10) R R) hx14) ?_
 rintro _ w17 ⟨k18,rfl,e19⟩
 obtain⟨K20,S21,m22⟩:=Ji e19 5 R
 refine Tv<|Jb 1 R<|Jq<|Je3 R ?_
 revert h
 cases ht24:decide (x14<0)
 refine JF λh=>Jy R<|Js<|Jp<|Je3 R<|Ju<|Ja2 (l:=[.tmp 4]) V33 (Jp2 R R) R ?_
 cases h
 exact⟨K20,R,(hE.stp (T3 S3 S10 S21) R R)⟩
 refine JT λh=>Jx R<|Je3 R<|Ju<|Jw<|Ja2 (l:=[.tmp 4]) V33 (Jp2 R R) R ?_
 cases h
 exact⟨K20,R,(hE.stp (T3 S3 S10 S21) R R)⟩
 refine JT λh=>Jx R<|Je3 R<|Ju<|Jw<|Ja2 (l:=[.tmp 4]) V33 (Jp2 R R) R ?_
 cases h
 exact⟨K9,R,(hE.stp (S3.tr S10) R R)⟩
end Go.Proofs.YtpcjbkgbnoocaaaGreat
