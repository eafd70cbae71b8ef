/- The walks, part 7. By program. -/
import Derived.Test.YtpcjbkgbnoocaaaGreatFns3MO
import Derived.Test.YtpcjbkgbnoocaaaGreatFns4MO
import Derived.Test.YtpcjbkgbnoocaaaGreatFns5MO
set_option linter.unusedVariables false
set_option linter.unusedSimpArgs false
open Go.IntKind renaming wrap → t0
open Sum renaming inr → xe, inl → xf
open Int renaming toNat → xh
namespace Go.Proofs.YtpcjbkgbnoocaaaGreat
open Go Go.Wk Go.Proofs
set_option maxRecDepth 100000
set_option maxHeartbeats 1000000
variable {w:World}{κ:Col}
theorem oY {a0 u0}{p0:(List Clause)}{p1:Int}(g0:Rd Clause.rp κ w 0 a0 u0 p0){r:Int}(h:jc p0 p1=some r):Ret Tryz.prog 17 [.slice a0 p0.length u0,vi p1] w (Pvi κ w r):=by
 unfold jc at h
 refine Jk3 κ F17 R N17 R λhE=>Je3 R<|Jg3 [2,2,2,2,2] 2 R<|Jn3 R U44 R R<|Jb 2 R<|Jq<|Je3 R ?_
 revert h
 cases ht1:decide ((IntKind.i64.wrap (p1-(p0.length:Int)))<0)
 refine JF λh=>Jy R<|Js<|Jp<|Jq<|Je3 R ?_
 have hN2:(p0.length:Int)<=9223372036854775807:=g0.len_le
 refine Ob h λq2 hq4 hK3=>?_
 clear h
 refine Jx1 (λL w'=>∃κ' s3,L=[(1,vi s3)]/\Stp [] κ w κ' w'/\q2=xe s3) ?_ ?_
 refine Jv<|Jy1 (λk L w'=>∃κ' v5 s1,L=[(0,.slice a0 p0.length u0),(1,vi s1),(5,vi v5)]/\Stp [] κ w κ' w'/\0<=v5/\xh ((p0.length:Int)-v5)=k/\cntM (ff p0) k v5 s1=some q2) ⟨_,_,⟨κ,0,((IntKind.i64.wrap<|p1-(p0.length:Int)):Int),R,Jj3,(by decide),(by simp),hq4⟩,(KM R)⟩ ?_
 rintro k _ w8 ⟨K9,v5,s1,rfl,S10,hj2,hJ2,h⟩
 rcases k with _ | k
 have hk11:=h;obtain⟨o2,h⟩:=bP (xe (xf s1):Int⊕((Int)⊕(Int)))
 have hc2:decide (v5<(p0.length:Int))=false:=Jo2 (by omega)
 refine Jq<|Jg3 [2,2,2,2] 2 R<|Jn3 R U44 R R<|Jb 1 R<|Jw2 R hc2<|Jc1<|Jt<|Jt ?_
 cases h
 have h:=hk11
 refine Jb1 ?_
 cases h
 exact Jw1 _ ⟨K9,s1,R,S10.wk R,R⟩<|KM R
 obtain⟨o2,h,hk11⟩:=BI h;unfold ff at h
 have hc2:decide (v5<(p0.length:Int))=true:=Jn2 (by omega)
 refine Jq<|Jg3 [2,2,2,2] 2 R<|Jn3 R U44 R R<|Jb 1 R<|Jv2 R hc2<|Js<|Jp<|Jq<|Jv<|Jg3 [2,2,2,1,2,1,2] 2 R<|Ob h λx20 hx20 h=>Jc3 R g0 hx20 U44 Z97 ?_
 obtain⟨cse13,hre13,hle13⟩:=((g0.stp S10 R R)).gSt hx20
 obtain⟨ae13_0,ue13_0,ae13_1,ue13_1,rfl,fe13_0,fe13_1⟩:=Clause.un hre13
 refine Jl tv R R R R (Jd2 (cs:=[vi x20.Kind,.slice ae13_0 x20.A.length ue13_0,.slice ae13_1 x20.B.length ue13_1]) I97 Z97 R R R<|haE hle13)<|Jn 1 R<|Ob h λx23 hx23 h=>Jh R R R C67 (qa (κ:=Mk K9) (p0:=x20) (Ji3 fe13_0) (Ji3 fe13_1) hx23) ?_
 rintro _ w14 ⟨k15,rfl,e16⟩
 obtain⟨K17,S18,m19⟩:=Ji e16 2 R
 refine Tv<|Jb 1 R<|Je3 R ?_
 revert h
 cases ht21:decide (x23<0)
 refine JF λh=>Jy R<|Js<|Jz<|Jp<|Jf3 R ?_
 have hw2:t0 .i64 (v5+1)=v5+1:=wr1 hj2 (Jm2 hc2) hN2
 rw[hw2]
 have hc2:=Jm2 hc2
 cases h
 exact Jz1 λa ha=>⟨k,_,Ja3 _,⟨K17,v5+1,x23,R,(S10.tr S18).wk R,by omega,by omega,hk11⟩,(ha.mm R)⟩
 refine JT λh=>Jx R<|Je3 R<|Ju<|Ja1<|Jw<|Jw ?_
 cases h
 obtain rfl:=Option.some.inj hk11
 have h:=yL hK3
 refine Ja1<|Jq2<|Jw<|Ja2 (l:=[.tmp 4]) V17 (Jp2 R R) R ?_
 cases h
 exact⟨K17,R,(hE.stp (S10.tr S18) R R)⟩
 rintro _ w5 ⟨K6,s3,rfl,S7,rfl⟩
 have h:=yI hK3
 refine Jp<|Je3 R<|Ju<|Ja2 (l:=[.tmp 4]) V17 (Jp2 R R) R ?_
 cases h
 exact⟨K6,R,(hE.stp S7 R R)⟩
 refine JT λh=>Jx R<|Je3 R<|Ju<|Jw<|Ja2 (l:=[.tmp 4]) V17 (Jp2 R R) R ?_
 cases h
 exact⟨κ,R,hE⟩
theorem nB {ab aa ac ad}{p0:Clause}{c0:Sig}{b1}(g0_1:Rd (Rp.int .i64) κ w 0 ab aa p0.A) (g0_2:Rd (Rp.int .i64) κ w 0 ac ad p0.B) (gb1:Bc κ w 0 b1 25 [vi c0.In,vi c0.Out]){r:Bool}(h:dS p0 c0=some r):Ret Tryz.prog 179 [.agg #[vi p0.Kind,.slice ab p0.A.length aa,.slice ac p0.B.length ad],.pointer (some ⟨b1,0,none⟩)] w (Pvb κ w r):=by
 unfold dS at h
 refine Jk3 κ F179 R N179 R λhE=>Je [1,2] R<|Jf1 (κ:=κ) 2 R R R R R R R λb2 w1 K2 S3 f4=>Tv<|Jb 1 R<|Je [1,1,1,2,2] R<|Jl tv R R R R (Jd2 (cs:=[vi c0.In,vi c0.Out]) I25 Z25 R R R<|haE (gb1.stp S3 R R).cells)<|Jl tv R R R R (Jd2 (cs:=[vi p0.Kind,.slice ab p0.A.length aa,.slice ac p0.B.length ad]) I119 Z119 R R R<|haE f4.cells)<|Ob h λx6 hx6 h=>Jh R R R C180 (qh (κ:=Mk K2) (p0:=c0) (p1:=p0) (Ji3<|g0_1.stp S3 R R) (Ji3<|g0_2.stp S3 R R) hx6) ?_
 rintro _ w8 ⟨k9,rfl,e10⟩
 obtain⟨K11,S12,m13⟩:=Ji e10 3 R
 refine Tv<|Jb 2 R<|Ju<|Ja2 (l:=[.tmp 3]) V179 (Jp2 R R) R ?_
 cases h
 exact⟨K11,R,(hE.stp (S3.tr S12) R R)⟩
theorem lQ {p0:Sig}{bd bc be bb}{p1:Clause}(g1_1:Rd (Rp.int .i64) κ w 0 bd bc p1.A) (g1_2:Rd (Rp.int .i64) κ w 0 be bb p1.B){r:Det}(h:jd p0 p1=some r):Ret Tryz.prog 132 [.agg #[vi p0.In,vi p0.Out],.agg #[vi p1.Kind,.slice bd p1.A.length bc,.slice be p1.B.length bb]] w (λv w'=>∃(κ':Col) (ra0:Option Addr) (ru0:Nat) (ra1:Option Addr) (ru1:Nat),v= .agg #[.slice ra0 r.Next.length ru0,.slice ra1 r.Pairs.length ru1]/\Ent κ w κ' w'/\Oc (Ep.own E6 2) 29 κ' w' 2 ra0 ru0 r.Next/\Oc Pair.ep154 154 κ' w' 3 ra1 ru1 r.Pairs):=by
 unfold jd at h
 refine Jk3 κ F132 R N132 R λhE=>Je [1,1,1] R<|Jf1 (κ:=κ) 2 R R R R R R R λb2 w1 K2 S3 f4=>Tv<|Jf1 (κ:=K2) 3 R R R R R R R λb3 w5 K6 S7 f8=>Tv<|Jg1 (κ:=K6) 4 R R R R R X100 R λb4 w9 K10 S11 f12=>Tv<|Jd<|Je3 R<|Je [2,1,1] R<|Jf R (bJ (parts:=[]) (cells:=[.slice none 0 0,.slice none 0 0]) R R (by kernel_rfl))<|Jg1 (κ:=K10) 5 R R R R R X154 R λb6 w13 K14 S15 f16=>Tv<|Jj1 (κ:=K14) 5 (vc:=[.slice none 0 0,.slice none 0 0]) R R R R R R R Z154 R R f16 R λw17 S18 f19=>Tv<|Jd<|Jq<|Je [2,1] R<|Jd3 R U119 R Z2 ?_
 have f20:=f8.stp (T3 S11 S15 S18) R R
 refine Jb3 R I2 (f20.ld 0 R R)<|Jd<|Jv<|Jq<|Je3 R<|Ob h λq1 h hK21=>Jx1 (λL w'=>∃κ',L=[(2,.pointer (some ⟨b2,0,none⟩)),(3,.pointer (some ⟨b3,0,none⟩)),(4,.pointer (some ⟨b4,0,none⟩)),(5,vi 2),(6,.pointer (some ⟨b6,0,none⟩)),(13,vi p1.Kind),(17,.bool q1)]/\Stp [] K14 w17 κ' w') ?_ ?_
 revert h
 cases ht25:(p1.Kind==1)
 refine JF λh=>Jy R<|Jf3 R ?_
 cases h
 exact Jw1 _ ⟨K14,R,Jj3⟩<|KM R
 refine JT λh=>Jx R<|Js ?_
 cases h
 exact Jw1 _ ⟨K14,R,Jj3⟩<|KM R
 rintro _ w22 ⟨K23,rfl,S24⟩
 have h:=hK21
 refine Jp<|Ob h λq2 h hK26=>Jx1 (λL w'=>∃κ' af ae ac ad,L=[(2,.pointer (some ⟨b2,0,none⟩)),(3,.pointer (some ⟨b3,0,none⟩)),(4,.pointer (some ⟨b4,0,none⟩)),(5,vi q2.1),(6,.pointer (some ⟨b6,0,none⟩))]/\Stp [5] K23 w22 κ' w'/\Oc E6 2 κ' w' 6 af ae q2.2.1/\Oc E6 2 κ' w' 7 ac ad q2.2.2/\Bc κ' w' 5 b6 154 [.slice af q2.2.1.length ae,.slice ac q2.2.2.length ad]) ?_ ?_
 revert h
 cases ht33:q1
 refine JF λh=>Jy R<|Je3 R<|Ob h λq3 h hK43=>Jx1 (λL w'=>∃κ' aB az aG ax,L=[(2,.pointer (some ⟨b2,0,none⟩)),(3,.pointer (some ⟨b3,0,none⟩)),(4,.pointer (some ⟨b4,0,none⟩)),(5,vi q3.1),(6,.pointer (some ⟨b6,0,none⟩))]/\Stp [5] K23 w22 κ' w'/\Oc E6 2 κ' w' 6 aB az q3.2.1/\Oc E6 2 κ' w' 7 aG ax q3.2.2/\Bc κ' w' 5 b6 154 [.slice aB q3.2.1.length az,.slice aG q3.2.2.length ax]) ?_ ?_
 revert h
 cases ht50:(p1.Kind==2)
 refine JF λh=>Jy R<|Je3 R<|Ob h λq4 h hK60=>Jx1 (λL w'=>∃κ' aA aE aC an,L=[(2,.pointer (some ⟨b2,0,none⟩)),(3,.pointer (some ⟨b3,0,none⟩)),(4,.pointer (some ⟨b4,0,none⟩)),(5,vi q4.1),(6,.pointer (some ⟨b6,0,none⟩))]/\Stp [5] K23 w22 κ' w'/\Oc E6 2 κ' w' 6 aA aE q4.2.1/\Oc E6 2 κ' w' 7 aC an q4.2.2/\Bc κ' w' 5 b6 154 [.slice aA q4.2.1.length aE,.slice aC q4.2.2.length an]) ?_ ?_
 revert h
 cases ht67:(p1.Kind==3)
 refine JF λh=>Jy R<|Je3 R<|Ob h λq5 h hK82=>Jx1 (λL w'=>∃κ' aD am aw av,L=[(2,.pointer (some ⟨b2,0,none⟩)),(3,.pointer (some ⟨b3,0,none⟩)),(4,.pointer (some ⟨b4,0,none⟩)),(5,vi q5.1),(6,.pointer (some ⟨b6,0,none⟩))]/\Stp [5] K23 w22 κ' w'/\Oc E6 2 κ' w' 6 aD am q5.2.1/\Oc E6 2 κ' w' 7 aw av q5.2.2/\Bc κ' w' 5 b6 154 [.slice aD q5.2.1.length am,.slice aw q5.2.2.length av]) ?_ ?_
 revert h
 cases ht89:(p1.Kind==4)
 refine JF λh=>Jy R<|Je3 R<|Ob h λq6 h hK104=>Jx1 (λL w'=>∃κ' ar aF aq ao,L=[(2,.pointer (some ⟨b2,0,none⟩)),(3,.pointer (some ⟨b3,0,none⟩)),(4,.pointer (some ⟨b4,0,none⟩)),(5,vi q6.1),(6,.pointer (some ⟨b6,0,none⟩))]/\Stp [5] K23 w22 κ' w'/\Oc E6 2 κ' w' 6 ar aF q6.2.1/\Oc E6 2 κ' w' 7 aq ao q6.2.2/\Bc κ' w' 5 b6 154 [.slice ar q6.2.1.length aF,.slice aq q6.2.2.length ao]) ?_ ?_
 revert h
 cases ht111:(p1.Kind==6)
 refine JF λh=>Jy R<|Je3 R<|Ja [1,1,2,1] R<|Jn1 (κ:=K23) (E:=E6) 6 [] (parts:=[(0,.const (vi 2)),(1,.const (vi 3))]) (cells:=[vi 2,vi 3]) (xs:=([2,3]:List Int)) R R R R R R Y29 bG R R R R R R R R R R ⟨[vi 2],[vi 3],Zl K23 w22 [],Zl K23 w22 [],R,Zl.sp (l1:=[]) (l2:=[]) R,Zl.sr (l1:=[]) (l2:=[]),R,⟨[vi 3],[],Zl K23 w22 [],Zl K23 w22 [],R,Zl.sp (l1:=[]) (l2:=[]) R,Zl.sr (l1:=[]) (l2:=[]),R,R⟩⟩ λaX aL w121 K122 S123 f124=>Tv<|Jn1 (κ:=K122) (E:=E6) 7 [] (parts:=[(0,.const (vi 1)),(1,.const (vi 3))]) (cells:=[vi 1,vi 3]) (xs:=([1,3]:List Int)) R R R R R R Y29 bG R R R R R R R R R R ⟨[vi 1],[vi 3],Zl K122 w121 [],Zl K122 w121 [],R,Zl.sp (l1:=[]) (l2:=[]) R,Zl.sr (l1:=[]) (l2:=[]),R,⟨[vi 3],[],Zl K122 w121 [],Zl K122 w121 [],R,Zl.sp (l1:=[]) (l2:=[]) R,Zl.sr (l1:=[]) (l2:=[]),R,R⟩⟩ λaT aP w125 K126 S127 f128=>Tv<|Jf R (bJ (parts:=[(0,.tmp 14),(1,.tmp 15)]) (cells:=[.slice aX ([2,3]:List Int).length aL,.slice aT ([1,3]:List Int).length aP]) R R (by kernel_rfl))<|Jj1 (κ:=K126) 5 (vc:=[.slice aX ([2,3]:List Int).length aL,.slice aT ([1,3]:List Int).length aP]) R R R R R R R Z154 R R (f19.stp (T3 S24 S123 S127) R R) R λw130 S131 f132=>Tv<|Jo ?_
 cases h
 exact Jw1 _ ⟨K126,aX,aL,aT,aP,R,(T3 S123 S127 S131).wk R,(f124.stp (S127.tr S131) R R),(f128.stp S131 R R),f132⟩<|KM R
 refine JT λh=>Jx R<|Ja [1,2,1] R<|Jn1 (κ:=K23) (E:=E6) 6 [] (parts:=[(0,.const (vi 0))]) (cells:=[vi 0]) (xs:=([0]:List Int)) R R R R R R Y29 bG R R R R R R R R R R ⟨[vi 0],[],Zl K23 w22 [],Zl K23 w22 [],R,Zl.sp (l1:=[]) (l2:=[]) R,Zl.sr (l1:=[]) (l2:=[]),R,R⟩ λaH aW w112 K113 S114 f115=>Tv<|Jd3 R U154 R Z29<|Ji1 (κ:=K113) 5 (off:=0) (vc:=[.slice aH ([0]:List Int).length aW]) (cs':=[.slice aH ([0]:List Int).length aW,.slice none 0 0]) R R R R R R R Z29 R R (f19.stp (S24.tr S114) R R) R R λw117 S118 f119=>Tv<|Jo ?_
 cases h
 exact Jw1 _ ⟨K113,aH,aW,none,0,R,(S114.tr S118).wk R,(f115.stp S118 R R),Ow.nil,f119⟩<|KM R
 rintro _ w105 ⟨K106,ar,aF,aq,ao,rfl,S107,f108,f109,f110⟩
 have h:=hK104
 cases h
 exact Jw1 _ ⟨K106,ar,aF,aq,ao,R,S107.wk R,f108,f109,f110⟩<|KM R
 refine JT λh=>Jx R<|Ja [1,1,2,1] R<|Jn1 (κ:=K23) (E:=E6) 6 [] (parts:=[(0,.const (vi 0)),(1,.const (vi 1))]) (cells:=[vi 0,vi 1]) (xs:=([0,1]:List Int)) R R R R R R Y29 bG R R R R R R R R R R ⟨[vi 0],[vi 1],Zl K23 w22 [],Zl K23 w22 [],R,Zl.sp (l1:=[]) (l2:=[]) R,Zl.sr (l1:=[]) (l2:=[]),R,⟨[vi 1],[],Zl K23 w22 [],Zl K23 w22 [],R,Zl.sp (l1:=[]) (l2:=[]) R,Zl.sr (l1:=[]) (l2:=[]),R,R⟩⟩ λaI aU w90 K91 S92 f93=>Tv<|Jn1 (κ:=K91) (E:=E6) 7 [] (parts:=[(0,.const (vi 1))]) (cells:=[vi 1]) (xs:=([1]:List Int)) R R R R R R Y29 bG R R R R R R R R R R ⟨[vi 1],[],Zl K91 w90 [],Zl K91 w90 [],R,Zl.sp (l1:=[]) (l2:=[]) R,Zl.sr (l1:=[]) (l2:=[]),R,R⟩ λba aR w94 K95 S96 f97=>Tv<|Jf R (bJ (parts:=[(0,.tmp 33),(1,.tmp 34)]) (cells:=[.slice aI ([0,1]:List Int).length aU,.slice ba ([1]:List Int).length aR]) R R (by kernel_rfl))<|Jj1 (κ:=K95) 5 (vc:=[.slice aI ([0,1]:List Int).length aU,.slice ba ([1]:List Int).length aR]) R R R R R R R Z154 R R (f19.stp (T3 S24 S92 S96) R R) R λw99 S100 f101=>Tv<|Jo ?_
 cases h
 exact Jw1 _ ⟨K95,aI,aU,ba,aR,R,(T3 S92 S96 S100).wk R,(f93.stp (S96.tr S100) R R),(f97.stp S100 R R),f101⟩<|KM R
 rintro _ w83 ⟨K84,aD,am,aw,av,rfl,S85,f86,f87,f88⟩
 have h:=hK82
 cases h
 exact Jw1 _ ⟨K84,aD,am,aw,av,R,S85.wk R,f86,f87,f88⟩<|KM R
 refine JT λh=>Jx R<|Ja [1,1,2,1] R<|Jn1 (κ:=K23) (E:=E6) 6 [] (parts:=[(0,.const (vi 1))]) (cells:=[vi 1]) (xs:=([1]:List Int)) R R R R R R Y29 bG R R R R R R R R R R ⟨[vi 1],[],Zl K23 w22 [],Zl K23 w22 [],R,Zl.sp (l1:=[]) (l2:=[]) R,Zl.sr (l1:=[]) (l2:=[]),R,R⟩ λaM aS w68 K69 S70 f71=>Tv<|Jn1 (κ:=K69) (E:=E6) 7 [] (parts:=[(0,.const (vi 0))]) (cells:=[vi 0]) (xs:=([0]:List Int)) R R R R R R Y29 bG R R R R R R R R R R ⟨[vi 0],[],Zl K69 w68 [],Zl K69 w68 [],R,Zl.sp (l1:=[]) (l2:=[]) R,Zl.sr (l1:=[]) (l2:=[]),R,R⟩ λaK aJ w72 K73 S74 f75=>Tv<|Jf R (bJ (parts:=[(0,.tmp 28),(1,.tmp 29)]) (cells:=[.slice aM ([1]:List Int).length aS,.slice aK ([0]:List Int).length aJ]) R R (by kernel_rfl))<|Jj1 (κ:=K73) 5 (vc:=[.slice aM ([1]:List Int).length aS,.slice aK ([0]:List Int).length aJ]) R R R R R R R Z154 R R (f19.stp (T3 S24 S70 S74) R R) R λw77 S78 f79=>Tv<|Jo ?_
 cases h
 exact Jw1 _ ⟨K73,aM,aS,aK,aJ,R,(T3 S70 S74 S78).wk R,(f71.stp (S74.tr S78) R R),(f75.stp S78 R R),f79⟩<|KM R
 rintro _ w61 ⟨K62,aA,aE,aC,an,rfl,S63,f64,f65,f66⟩
 have h:=hK60
 cases h
 exact Jw1 _ ⟨K62,aA,aE,aC,an,R,S63.wk R,f64,f65,f66⟩<|KM R
 refine JT λh=>Jx R<|Je3 R<|Ja [1,2,1] R<|Jn1 (κ:=K23) (E:=E6) 6 [] (parts:=[(0,.const (vi 2))]) (cells:=[vi 2]) (xs:=([2]:List Int)) R R R R R R Y29 bG R R R R R R R R R R ⟨[vi 2],[],Zl K23 w22 [],Zl K23 w22 [],R,Zl.sp (l1:=[]) (l2:=[]) R,Zl.sr (l1:=[]) (l2:=[]),R,R⟩ λaZ aN w51 K52 S53 f54=>Tv<|Jd3 R U154 R Z29<|Ji1 (κ:=K52) 5 (off:=0) (vc:=[.slice aZ ([2]:List Int).length aN]) (cs':=[.slice aZ ([2]:List Int).length aN,.slice none 0 0]) R R R R R R R Z29 R R (f19.stp (S24.tr S53) R R) R R λw56 S57 f58=>Tv<|Jo ?_
 cases h
 exact Jw1 _ ⟨K52,aZ,aN,none,0,R,(S53.tr S57).wk R,(f54.stp S57 R R),Ow.nil,f58⟩<|KM R
 rintro _ w44 ⟨K45,aB,az,aG,ax,rfl,S46,f47,f48,f49⟩
 have h:=hK43
 cases h
 exact Jw1 _ ⟨K45,aB,az,aG,ax,R,S46.wk R,f47,f48,f49⟩<|KM R
 refine JT λh=>Jx R<|Ja [1,2,1] R<|Jn1 (κ:=K23) (E:=E6) 6 [] (parts:=[(0,.const (vi 1))]) (cells:=[vi 1]) (xs:=([1]:List Int)) R R R R R R Y29 bG R R R R R R R R R R ⟨[vi 1],[],Zl K23 w22 [],Zl K23 w22 [],R,Zl.sp (l1:=[]) (l2:=[]) R,Zl.sr (l1:=[]) (l2:=[]),R,R⟩ λaO aV w34 K35 S36 f37=>Tv<|Jd3 R U154 R Z29<|Ji1 (κ:=K35) 5 (off:=0) (vc:=[.slice aO ([1]:List Int).length aV]) (cs':=[.slice aO ([1]:List Int).length aV,.slice none 0 0]) R R R R R R R Z29 R R (f19.stp (S24.tr S36) R R) R R λw39 S40 f41=>Tv<|Jo ?_
 cases h
 exact Jw1 _ ⟨K35,aO,aV,none,0,R,(S36.tr S40).wk R,(f37.stp S40 R R),Ow.nil,f41⟩<|KM R
 rintro _ w27 ⟨K28,af,ae,ac,ad,rfl,S29,f30,f31,f32⟩
 have h:=hK26
 refine Jz<|Jp<|Je [1,1,2,1,1] R<|Jl tv R R R R (Jd2 (cs:=[.slice af q2.2.1.length ae,.slice ac q2.2.2.length ad]) I154 Z154 R R R<|haE f32.cells)<|Jn1 (κ:=K28) (E:=Pair.ep154) 8 [6,7] (parts:=[(0,.tmp 40)]) (cells:=[.slice af q2.2.1.length ae,.slice ac q2.2.2.length ad]) (xs:=([(⟨q2.2.1,q2.2.2⟩:Pair)]:List Pair)) R R R R R R Y98 cv R R R R R R R R R R ⟨[.slice af q2.2.1.length ae,.slice ac q2.2.2.length ad],[],Zl K28 w27 [6,7],Zl K28 w27 [],R,Zl.sp (l1:=[6,7]) (l2:=[]) R,Zl.sr (l1:=[6,7]) (l2:=[]),⟨[.slice af q2.2.1.length ae],[.slice ac q2.2.2.length ad],Zl K28 w27 [6],Zl K28 w27 [7],R,Zl.sp (l1:=[6]) (l2:=[7]) R,Zl.sr (l1:=[6]) (l2:=[7]),⟨_,_,R,f30⟩,⟨_,_,R,f31⟩⟩,R⟩ λab aa w135 K136 S137 f138=>Tv<|Jf R (bJ (parts:=[(1,.tmp 41)]) (cells:=[.slice none 0 0,.slice ab ([(⟨q2.2.1,q2.2.2⟩:Pair)]:List Pair).length aa]) R R (by kernel_rfl))<|Jg1 (κ:=K136) 9 R R R R R X100 R λb7 w139 K140 S141 f142=>Tv<|Jj1 (κ:=K140) 9 (vc:=[.slice none 0 0,.slice ab ([(⟨q2.2.1,q2.2.2⟩:Pair)]:List Pair).length aa]) R R R R R R R Z100 R R f142 R λw143 S144 f145=>Tv<|Jd<|Jq<|Je3 R<|Ob h λ_ hr146 h=>?_
 have hN146:=iw hr146
 refine Ob h λq8 hq148 hK147=>?_
 clear h
 refine Jx1 (λL w'=>∃κ',∃s9:(List<|List Int),∃ai ah,L=[(4,.pointer (some ⟨b4,0,none⟩)),(7,.pointer (some ⟨b7,0,none⟩))]/\Stp [9,10,11,14] K140 w143 κ' w'/\Oc (Ep.own E6 2) 29 κ' w' 10 ai ah s9/\Bc κ' w' 9 b7 100 [.slice ai s9.length ah,.slice ab ([(⟨q2.2.1,q2.2.2⟩:Pair)]:List Pair).length aa]/\q8=xe s9) ?_ ?_
 refine Jv<|Jy1 (λk L w'=>∃κ' v44,∃s7:(List<|List Int),∃ap au,L=[(2,.pointer (some ⟨b2,0,none⟩)),(3,.pointer (some ⟨b3,0,none⟩)),(4,.pointer (some ⟨b4,0,none⟩)),(7,.pointer (some ⟨b7,0,none⟩)),(43,vi q2.1),(44,vi v44)]/\Stp [9,10,11,14] K140 w143 κ' w'/\Oc (Ep.own E6 2) 29 κ' w' 10 ap au s7/\Bc κ' w' 9 b7 100 [.slice ap s7.length au,.slice ab ([(⟨q2.2.1,q2.2.2⟩:Pair)]:List Pair).length aa]/\0<=v44/\xh (q2.1-v44)=k/\cntM (dZ p0 p1) k v44 s7=some q8) ⟨_,_,⟨K140,0,(([]:List (List Int)):(List<|List Int)),none,0,R,Jj3,Ow.nil,f145,(by decide),(by simp),hq148⟩,(KM R)⟩ ?_
 rintro k _ w154 ⟨K155,v44,s7,ap,au,rfl,S156,f157,f158,hj146,hJ146,h⟩
 rcases k with _ | k
 have hk159:=h;obtain⟨o146,h⟩:=bP (xe (xf s7):Det⊕(((List (List Int)))⊕((List (List Int)))))
 have hc146:decide (v44<q2.1)=false:=Jo2 (by omega)
 refine Je3 R<|Jq<|Jw2 R hc146<|Jc1<|Jt<|Jt ?_
 cases h
 have h:=hk159
 refine Jb1 ?_
 cases h
 exact Jw1 _ ⟨K155,s7,ap,au,R,S156.wk R,f157,f158,R⟩<|KM R
 obtain⟨o146,h,hk159⟩:=BI h;unfold dZ at h
 have hc146:decide (v44<q2.1)=true:=Jn2 (by omega)
 refine Je3 R<|Jq<|Jv2 R hc146<|Js<|Jp<|Jq<|Jv<|Je3 R<|Je [1,2] R<|Jo1 (κ:=K155) (E:=E6) 11 R R R R R Y29 bG R λbf bg w160 K161 S162 f163=>Tv<|Jb 1 R<|Jq<|Je [1,1,2] R<|Jl tv R R R R (Jd2 (cs:=[vi p0.In,vi p0.Out]) I25 Z25 R R R<|haE (f4.stp (T11 S7 S11 S15 S18 S24 S29 S137 S141 S144 S156 S162) R R).cells)<|Ob h λx49 hx49 h=>Jh R R R C130 (fb (κ:=Mk K161) (p0:=p0) hx49) ?_
 rintro _ w165 ⟨k166,rfl,e167⟩
 obtain⟨K168,S169,m170⟩:=Ji e167 12 R
 refine Tv<|Jb 1 R<|Ob h λ_ hr172 h=>?_
 have hN172:=iw hr172
 refine Ob h λq11 hq174 hK173=>?_
 clear h
 refine Jx1 (λL w'=>∃κ',∃s12:(List Int),∃ak aj,L=[(2,.pointer (some ⟨b2,0,none⟩)),(3,.pointer (some ⟨b3,0,none⟩)),(4,.pointer (some ⟨b4,0,none⟩)),(7,.pointer (some ⟨b7,0,none⟩)),(9,.slice ak s12.length aj),(43,vi q2.1),(44,vi v44)]/\Stp [11] K168 w165 κ' w'/\Oc E6 2 κ' w' 11 ak aj s12/\q11=xe s12) ?_ ?_
 refine Jv<|Jy1 (λk L w'=>∃κ' v50,∃s10:(List Int),∃al ay,L=[(2,.pointer (some ⟨b2,0,none⟩)),(3,.pointer (some ⟨b3,0,none⟩)),(4,.pointer (some ⟨b4,0,none⟩)),(7,.pointer (some ⟨b7,0,none⟩)),(8,vi v44),(9,.slice al s10.length ay),(43,vi q2.1),(44,vi v44),(49,vi x49),(50,vi v50)]/\Stp [11] K168 w165 κ' w'/\Oc E6 2 κ' w' 11 al ay s10/\0<=v50/\xh (x49-v50)=k/\cntM (d4 p1 v44) k v50 s10=some q11) ⟨_,_,⟨K168,0,(([]:List Int):(List Int)),bf,bg,R,Jj3,(f163.stp S169 R R),(by decide),(by simp),hq174⟩,(KM R)⟩ ?_
 rintro k _ w179 ⟨K180,v50,s10,al,ay,rfl,S181,f182,hj172,hJ172,h⟩
 rcases k with _ | k
 have hk184:=h;obtain⟨o172,h⟩:=bP (xe (xf s10):Det⊕(((List Int))⊕((List Int))))
 have hc172:decide (v50<x49)=false:=Jo2 (by omega)
 refine Je3 R<|Jq<|Jw2 R hc172<|Jc1<|Jt<|Jt ?_
 cases h
 have h:=hk184
 refine Jb1 ?_
 cases h
 exact Jw1 _ ⟨K180,s10,al,ay,R,S181.wk R,f182,R⟩<|KM R
 obtain⟨o172,h,hk184⟩:=BI h;unfold d4 at h
 have hc172:decide (v50<x49)=true:=Jn2 (by omega)
 refine Je3 R<|Jq<|Jv2 R hc172<|Js<|Jp<|Jq<|Jv<|Je3 R<|Js1 (κ:=K180) [3] none [(0,2),(1,2),(3,2),(4,2),(6,2),(8,2),(10,2),(2,0),(5,0),(9,0),(7,1),(11,1),(12,1),(13,1),(14,1),(15,2)] [] (by kernel_rfl) (by kernel_rfl) λw186 S185=>Jn 1 R<|Jd3 R U119 R Z2<|Jn 1 R<|Jd3 R U119 R Z29<|Jn 1 R<|Jd3 R U119 R Z29<|Jn 1 R ?_
 have f187:=f20.stp (T10 S24 S29 S137 S141 S144 S156 S162 S169 S181 S185) R R
 refine Jg R (Jc2 I2 R R<|hvC (f187.ld 0 R R) R)<|Jg R (Jc2 I29 R R<|hvC (f187.ld 1 R R) R)<|Jg R (Jc2 I29 R R<|hvC (f187.ld 2 R R) R)<|Ob h λx60 hx60 h=>Jh R R R C62 (ch (κ:=Mk K180) (Ji3<|g1_1.stp (T15 S3 S7 S11 S15 S18 S24 S29 S137 S141 S144 S156 S162 S169 S181 S185) R R) hx60) ?_
 rintro _ w189 ⟨k190,rfl,e191⟩
 obtain⟨K192,S193,m194⟩:=Ji e191 14 R
 refine⟨(S193.cl R),Ob h λx64 hx64 h=>Jh R R R C62 (ch (κ:=Mk K192) (Ji3<|g1_2.stp (T16 S3 S7 S11 S15 S18 S24 S29 S137 S141 S144 S156 S162 S169 S181 S185 S193) R R) hx64) ?_⟩
 rintro _ w197 ⟨k198,rfl,e199⟩
 obtain⟨K200,S201,m202⟩:=Ji e199 16 R
 refine⟨((S193.tr S201).cl R),Ob h λx65 hx65 h=>Jh R R R C182 (nH (κ:=Mk K200) hx65) ?_⟩
 rintro _ w204 ⟨k205,rfl,e206⟩
 obtain⟨K207,S208,m209⟩:=Ji e206 18 R
 have S001:=(T3 S193 S201 S208)
 refine⟨(S001.cl R),Jn1 (κ:=K207) (E:=E6) 20 [] (parts:=[(0,.tmp 65)]) (cells:=[vi x65]) (xs:=([x65]:List Int)) R R R R R R Y29 bG R R R R R R R R R R ⟨[vi x65],[],Zl K207 w204 [],Zl K207 w204 [],R,Zl.sp (l1:=[]) (l2:=[]) R,Zl.sr (l1:=[]) (l2:=[]),R,R⟩ λbj bk w211 K212 S213 f214=>⟨((S001.tr S213).cl R),Ob h λx67 hx67 h=>Jm1 (κ:=K212) (E:=E6) 11 [] R R R R R R R R R Y29 bG R R R R (f182.stp (T5 S185 S193 S201 S208 S213) R R) (Sl.srcP (bT _) f214.rdc) bK hx67 R λbi bh w216 K217 S218 f219=>⟨((T3 S001 S213 S218).cl R),Jn 1 R<|Jt1<|Jo<|Jz<|Jp<|Jf3 R ?_⟩⟩⟩
 have hw172:t0 .i64 (v50+1)=v50+1:=wr1 hj172 (Jm2 hc172) hN172
 rw[hw172]
 have hc172:=Jm2 hc172
 cases h
 exact Jz1 λa ha=>⟨k,_,Ja3 _,⟨K217,v50+1,x67,bi,bh,R,(T7 S181 S185 S193 S201 S208 S213 S218).wk R,f219,by omega,by omega,hk184⟩,(ha.mm R)⟩
 rintro _ w175 ⟨K176,s12,ak,aj,rfl,S177,f178,rfl⟩
 have h:=yI hK173
 refine Jp<|Ja [2,1,2,1,1,2,1] R<|Jd3 R U100 R Z26 ?_
 have f220:=f158.stp (T3 S162 S169 S177) R R
 refine Jb3 R I26 (f220.ld 0 R R)<|Jn 1 R<|Jn1 (κ:=K176) (E:=(Ep.own E6 2)) 14 [11] (parts:=[(0,.tmp 71)]) (cells:=[.slice ak s12.length aj]) (xs:=([s12]:List (List Int))) R R R R R R Y26 bN R R R R R R R R R R ⟨[.slice ak s12.length aj],[],Zl K176 w175 [11],Zl K176 w175 [],R,Zl.sp (l1:=[11]) (l2:=[]) R,Zl.sr (l1:=[11]) (l2:=[]),⟨_,_,R,f178⟩,R⟩ λbm bl w221 K222 S223 f224=>Tv<|Ob h λx73 hx73 h=>Jm1 (κ:=K222) (E:=(Ep.own E6 2)) 10 [14] R R R R R R R R R Y26 bN R R R R (f157.stp (T4 S162 S169 S177 S223) R R) f224.src (dd R) hx73 R λaY aQ w226 K227 S228 f229=>Tv<|Jd3 R U100 R Z26<|Ji1 (κ:=K227) 9 (off:=0) (vc:=[.slice aY x73.length aQ]) (cs':=[.slice aY x73.length aQ,.slice ab ([(⟨q2.2.1,q2.2.2⟩:Pair)]:List Pair).length aa]) R R R R R R R Z26 R R (f220.stp (S223.tr S228) R R) R R λw231 S232 f233=>Tv<|Jo<|Jz<|Jp<|Jf3 R ?_
 have hw146:t0 .i64 (v44+1)=v44+1:=wr1 hj146 (Jm2 hc146) hN146
 rw[hw146]
 have hc146:=Jm2 hc146
 cases h
 exact Jz1 λa ha=>⟨k,_,Ja3 _,⟨K227,v44+1,x73,aY,aQ,R,(T7 S156 S162 S169 S177 S223 S228 S232).wk R,(f229.stp S232 R R),f233,by omega,by omega,hk159⟩,(ha.mm R)⟩
 rintro _ w149 ⟨K150,s9,ai,ah,rfl,S151,f152,f153,rfl⟩
 have h:=yI hK147
 refine Jp<|Je [1,1] R<|Jl tv R R R R (Jd2 (cs:=[.slice ai s9.length ah,.slice ab ([(⟨q2.2.1,q2.2.2⟩:Pair)]:List Pair).length aa]) I100 Z100 R R R<|haE f153.cells)<|Jj1 (κ:=K150) 4 (vc:=[.slice ai s9.length ah,.slice ab ([(⟨q2.2.1,q2.2.2⟩:Pair)]:List Pair).length aa]) R R R R R R R Z100 R R (f12.stp (T8 S15 S18 S24 S29 S137 S141 S144 S151) R R) R λw236 S237 f238=>Tv<|Jd<|Ju<|Ja2 (l:=[.cell 4 100]) V132 (bL R f238 I100 Z100 R R) R ?_
 cases h
 exact⟨(λb=>ren [(10,2),(8,3)]<|K150 b),ai,ah,ab,aa,R,((hE.stp (T12 S3 S7 S11 S15 S18 S24 S29 S137 S141 S144 S151 S237) R R).map (ren [(10,2),(8,3)]) R R),((f152.stp S237 R R).map (ren [(10,2),(8,3)]) R R),((f138.stp (T4 S141 S144 S151 S237) R R).map (ren [(10,2),(8,3)]) R R)⟩
theorem du {a0 u0}{p0:(List Place)}{c1_0:Int}{aa ab}{c1_1:(List Int)}{b1_0 b1_1}(g0:Rd Place.rp κ w 0 a0 u0 p0) (g1_1:Rd (Rp.int .i64) κ w 0 aa ab c1_1) (gb1_0:Bc κ w 0 b1_0 2 [vi c1_0]) (gb1_1:Bc κ w 0 b1_1 29 [.slice aa c1_1.length ab]){r:Int}(h:bY p0 c1_0 c1_1=some r):Ret Tryz.prog 230 [.slice a0 p0.length u0,.func (.func 231) #[] #[.pointer (some ⟨b1_0,0,none⟩),.pointer (some ⟨b1_1,0,none⟩)]] w (Pvi κ w r):=by
 unfold bY at h
 refine Jk3 κ F230 R N230 R λhE=>Je3 R<|Jq<|Jg3 [2,2,2] 1 R<|Jn3 R U109 R R<|Jb 1 R ?_
 have hN1:(p0.length:Int)<=9223372036854775807:=g0.len_le
 refine Ob h λq2 hq3 hK2=>?_
 clear h
 refine Jx1 (λL w'=>∃κ',L=[(1,.func (.func 231) #[] #[.pointer (some ⟨b1_0,0,none⟩),.pointer (some ⟨b1_1,0,none⟩)])]/\Stp [] κ w κ' w'/\q2=xe ()) ?_ ?_
 refine Jv<|Jy1 (λk L w'=>∃κ' v8,L=[(0,.slice a0 p0.length u0),(1,.func (.func 231) #[] #[.pointer (some ⟨b1_0,0,none⟩),.pointer (some ⟨b1_1,0,none⟩)]),(7,vi (p0.length:Int)),(8,vi v8)]/\Stp [] κ w κ' w'/\0<=v8/\xh ((p0.length:Int)-v8)=k/\cntM (bW p0 c1_0 c1_1) k v8 ()=some q2) ⟨_,_,⟨κ,0,R,Jj3,(by decide),(by simp),hq3⟩,(KM R)⟩ ?_
 rintro k _ w7 ⟨K8,v8,rfl,S9,hj1,hJ1,h⟩
 rcases k with _ | k
 have hk10:=h;obtain⟨o1,h⟩:=bP (xe (xf ()):Int⊕((Unit)⊕(Unit)))
 have hc1:decide (v8<(p0.length:Int))=false:=Jo2 (by omega)
 refine Je3 R<|Jq<|Jw2 R hc1<|Jc1<|Jt<|Jt ?_
 cases h
 have h:=hk10
 refine Jb1 ?_
 cases h
 exact Jw1 _ ⟨K8,R,S9.wk R,R⟩<|KM R
 obtain⟨o1,h,hk10⟩:=BI h;unfold bW at h
 have hc1:decide (v8<(p0.length:Int))=true:=Jn2 (by omega)
 refine Je3 R<|Jq<|Jv2 R hc1<|Js<|Jp<|Jq<|Jv<|Je3 R<|Jg3 [2,2,2,2,1,1] 3 R<|Ob h λx14 hx14 h=>Jc3 R g0 hx14 U109 Z116 ?_
 obtain⟨cse12,hre12,hle12⟩:=((g0.stp S9 R R)).gSt hx14
 obtain⟨ae12_0,ue12_0,rfl,fe12_0⟩:=Place.un hre12
 refine Jl tv R R R R (Jd2 (cs:=[vi x14.At,.slice ae12_0 x14.Record.length ue12_0]) I116 Z116 R R R<|haE hle12)<|Ob h λx16 hx16 h=>WO.callV R R R R R R R R C231 (oN (κ:=Mk K8) (p0:=x14) (Ji3 fe12_0) (Ji3<|g1_1.stp S9 R R) ((gb1_0.stp S9 R R).map (mp [] 0) R R) ((gb1_1.stp S9 R R).map (mp [] 0) R R) hx16) ?_
 rintro _ w16 ⟨k17,rfl,e18⟩
 obtain⟨K19,S20,m21⟩:=Ji e18 2 R
 refine Tv<|Jd ?_
 revert h
 cases ht23:x16
 refine JF λh=>Jy R<|Js<|Jz<|Jp<|Jf3 R ?_
 have hw1:t0 .i64 (v8+1)=v8+1:=wr1 hj1 (Jm2 hc1) hN1
 rw[hw1]
 have hc1:=Jm2 hc1
 cases h
 exact Jz1 λa ha=>⟨k,_,Ja3 _,⟨K19,v8+1,R,(S9.tr S20).wk R,by omega,by omega,hk10⟩,(ha.mm R)⟩
 refine JT λh=>Jx R<|Je3 R<|Ju<|Ja1<|Jw<|Jw ?_
 cases h
 obtain rfl:=Option.some.inj hk10
 have h:=yL hK2
 refine Ja1<|Jq2<|Jw<|Ja2 (l:=[.tmp 4]) V230 (Jp2 R R) R ?_
 cases h
 exact⟨K19,R,(hE.stp (S9.tr S20) R R)⟩
 rintro _ w4 ⟨K5,rfl,S6,rfl⟩
 have h:=yI hK2
 refine Jp<|Je3 R<|Ju<|Ja2 (l:=[.tmp 4]) V230 (Jp2 R R) R ?_
 cases h
 exact⟨K5,R,(hE.stp S6 R R)⟩
theorem oz (n:Nat):∀{w:World}{κ:Col}{ak ah ae af aj ai al am}{p0:solver}{a1 u1}{p1:(List Bool)}{b0}(g0_0_0_0:Rd (Rp.int .i64) κ w 0 ak ah p0.game.Arena.Owner) (g0_0_0_1:Rd (Rp.sl (Rp.int .i64)) κ w 0 ae af p0.game.Arena.Next) (g0_0_1:Rd (Rp.int .i64) κ w 0 aj ai p0.game.Prio) (g0_1:Rd (Rp.sl (Rp.int .i64)) κ w 0 al am p0.preds) (g1:Rd Rp.bool κ w 0 a1 u1 p1) (gb0:Bc κ w 0 b0 208 [.slice ak p0.game.Arena.Owner.length ah,.slice ae p0.game.Arena.Next.length af,.slice aj p0.game.Prio.length ai,.slice al p0.preds.length am]){r:(List Bool)×Int}(h:db n p0 p1=some r),Ret Tryz.prog 189 [.pointer (some ⟨b0,0,none⟩),.slice a1 p1.length u1] w (λv w'=>∃(κ':Col) (ra0:Option Addr) (ru0:Nat),v= .tuple #[.slice ra0 r.1.length ru0,vi r.2]/\Ent κ w κ' w'/\Rd Rp.bool κ' w' 0 ra0 ru0 r.1):=by
 induction n with
 | zero=>
  intro w κ ak ah ae af aj ai al am p0 a1 u1 p1 b0 g0_0_0_0 g0_0_0_1 g0_0_1 g0_1 g1 gb0 r h
  cases h
 | succ n ih=>
  intro w κ ak ah ae af aj ai al am p0 a1 u1 p1 b0 g0_0_0_0 g0_0_0_1 g0_0_1 g0_1 g1 gb0 r h
  have h:di (db n) p0 p1=some r:=h
  unfold di at h
  refine Jk3 κ F189 R N189 R λhE=>Je3 R<|Jg3 [2,1,2] 1 R<|Ob h λx17 hx17 h=>Jh R R R C190 (gx (κ:=Mk κ) (Ji3 g1) hx17) ?_
  rintro _ w1 ⟨k2,az,aC,rfl,e3,f4⟩
  obtain⟨K5,S6,m7⟩:=Ji e3 2 R
  refine Tv<|Jb 1 R<|Jq<|Jg3 [2,2,2] 1 R<|Jn3 R U29 R R<|Jb 1 R ?_
  revert h
  cases ht10:((x17.length:Int)==0)
  refine JF λh=>Jy R<|Js<|Jp<|Jg3 [2,2,2,1,2,1,2] 1 R<|Jf R (i8 R R)<|Jd3 R U208 R Z108 ?_
  have f13:=gb0.stp S6 R R
  refine Jl tv R R R R (Jd2 (cs:=[.slice ak p0.game.Arena.Owner.length ah,.slice ae p0.game.Arena.Next.length af,.slice aj p0.game.Prio.length ai]) I108 Z108 R R R<|haE<|f13.lds 0 3 R)<|Jn 1 R<|Ob h λx27 hx27 h=>?_
  have f14:=g0_0_0_0.stp S6 R R
  have f15:=g0_0_0_1.stp S6 R R
  have f16:=g0_0_1.stp S6 R R
  refine Jh R R R C232 (tb (κ:=Mk K5) (p0:=p0.game) (Ji3 f14) (Ji3 f15) (Ji3 f16) (Ji3 (f4.mx (bI _) m7 R (R:2+2=4)).rdc) hx27) ?_
  rintro _ w17 ⟨k18,rfl,e19⟩
  obtain⟨K20,S21,m22⟩:=Ji e19 5 R
  refine Tv<|Jb 1 R<|Jg3 [2,2,2] 1 R<|Jf R (uZ R R R (by decide))<|Jb 1 R<|Je [1,2,1,2] R<|Jo1 (κ:=K20) (E:=Ep.bool) 7 R R R R R Y193 cX R λaA aD w24 K25 S26 f27=>Tv<|Jn 1 R<|Ob h λx32 hx32 h=>Jm1 (κ:=K25) (E:=Ep.bool) 7 [] R R R R R R R R R Y193 cX R R R R f27 (Sl.srcP tR<|g1.stp (T3 S6 S21 S26) R R) bK hx32 R λar av w29 K30 S31 f32=>Tv<|Jb 1 R<|Ob h λq2 hq35 hK34=>?_
  clear h
  refine Jv<|Jy1 (λk L w'=>∃κ',∃s1:(List Bool),∃ab aa,L=[(0,.pointer (some ⟨b0,0,none⟩)),(1,.slice a1 p1.length u1),(7,vi x27),(8,vi<|Int.tmod x27 2),(9,.slice ab s1.length aa)]/\Stp [8,14,20,25] K30 w29 κ' w'/\Oc Ep.bool 4 κ' w' 7 ab aa s1/\bZ (eC (db n) p0 p1 x27) k s1=some q2) ⟨_,_,⟨K30,x32,ar,av,R,Jj3,f32,hq35⟩,(KM R)⟩ ?_
  rintro k _ w36 ⟨K37,s1,ab,aa,rfl,S38,f39,h⟩
  rcases k with _ | k
  cases h
  obtain⟨o33,h,hk40⟩:=BI h;unfold eC at h
  refine Jv<|Jg3 [2,2,1,2] 1 R<|Jn3 R U193 R R<|Ob h λx35 hx35 h=>Jl1 (κ:=K37) (E:=Ep.bool) (z:=(false:Bool)) 8 R R R R R R R Y193 cX R R R R R (λ_ _ _=>R) (Ju2 hx35) λac ad w41 K42 S43 f44=>Tv<|Jb 1 R<|Jq<|Jg3 [2,2,2] 1 R<|Jn3 R U193 R R<|Jb 1 R ?_
  have hN45:(x35.length:Int)<=9223372036854775807:=f44.len_le
  refine Ob h λq5 hq47 hK46=>?_
  clear h
  refine Jx1 (λL w'=>∃κ',∃s6:(List Bool),L=[(0,.pointer (some ⟨b0,0,none⟩)),(1,.slice a1 p1.length u1),(7,vi x27),(8,vi<|Int.tmod x27 2),(9,.slice ab s1.length aa),(10,.slice ac x35.length ad)]/\Stp [8] K42 w41 κ' w'/\Oc Ep.bool 4 κ' w' 8 ac ad s6/\x35.length=s6.length/\q5=xe s6) ?_ ?_
  refine Jv<|Jy1 (λk L w'=>∃κ' v38,∃s4:(List Bool),L=[(0,.pointer (some ⟨b0,0,none⟩)),(1,.slice a1 p1.length u1),(7,vi x27),(8,vi<|Int.tmod x27 2),(9,.slice ab s1.length aa),(10,.slice ac x35.length ad),(37,vi (x35.length:Int)),(38,vi v38)]/\Stp [8] K42 w41 κ' w'/\Oc Ep.bool 4 κ' w' 8 ac ad s4/\x35.length=s4.length/\0<=v38/\xh ((x35.length:Int)-v38)=k/\cntM (eB p0 x27 s1) k v38 s4=some q5) ⟨_,_,⟨K42,0,x35,R,Jj3,f44,R,(by decide),(by simp),hq47⟩,(KM R)⟩ ?_
  rintro k _ w53 ⟨K54,v38,s4,rfl,S55,f56,hn57,hj45,hJ45,h⟩
  rcases k with _ | k
  have hk58:=h;obtain⟨o45,h⟩:=bP (xe (xf s4):((List Bool)×Int)⊕(((List Bool))⊕((List Bool))))
  have hc45:decide (v38<(x35.length:Int))=false:=Jo2 (by omega)
  refine Je3 R<|Jq<|Jw2 R hc45<|Jc1<|Jt<|Jt ?_
  cases h
  have h:=hk58
  refine Jb1 ?_
  cases h
  exact Jw1 _ ⟨K54,s4,R,S55.wk R,f56,hn57,R⟩<|KM R
  obtain⟨o45,h,hk58⟩:=BI h;unfold eB at h
  have hc45:decide (v38<(x35.length:Int))=true:=Jn2 (by omega)
  refine Je3 R<|Jq<|Jv2 R hc45<|Js<|Jp<|Jq<|Jv<|Je3 R<|Jh3 [2,2,2,2,2,1,2,2,2,2,2,1,2,2,1,2,2,2,2,1] 4 R<|Ob h λx45 hx45 h=>Jc3 R f39.rdc hx45 U193 Z4<|Jb3 R I4 ((f39.stp (S43.tr S55) R R).rdc.gBool hx45)<|Jn 1 R<|Ob h λp58 h hK60=>Ju1 [(7,2),(8,2),(9,2),(10,2),(11,1),(12,2),(13,2),(14,1),(15,2),(16,2),(17,2)] [(18,2),(19,1)] (λL w'=>L=[(0,.pointer (some ⟨b0,0,none⟩)),(1,.slice a1 p1.length u1),(7,vi x27),(8,vi<|Int.tmod x27 2),(9,.slice ab s1.length aa),(10,.slice ac x35.length ad),(37,vi (x35.length:Int)),(38,vi v38),(41,.slice ac x35.length ad),(42,vi v38),(58,.bool p58)]/\∃κ',Stp [] K54 w53 κ' w') tv ?_ ?_
  revert h
  cases ht61:x45
  refine JF λh=>Jn 4 R<|Jd1 R R R R<|Jn 2 R<|Jd1 R R R R<|Jn 3 R ?_
  cases h
  exact Jv1 _ tv ⟨R,_,Jj3⟩<|KM R
  have S001:=(T6 S21 S26 S31 S38 S43 S55)
  refine JT λh=>Jn 1 R<|Jf R (i8 R R)<|Jd3 R U208 R Z108<|Jd3 R U108 R Z29<|Jb3 R I29 ((f13.stp S001 R R).ld 2 R R)<|Jn 1 R<|Ob h λx54 hx54 h=>Jc3 R f16 hx54 U29 Z2<|Jb3 R I2 ((f16.stp S001 R R).gInt hx54)<|Jn 3 R ?_
  cases h
  exact Jv1 _ tv ⟨R,_,Jj3⟩<|KM R
  rintro _ w64 _ ⟨rfl,K65,S66⟩
  have h:=hK60
  refine Ob h λx59 hx59 h=>Jf R (Jf2 f56.rdc hx59 U193 Z4 R R hn57 R)<|Ob h λy375 hy375 h=>Jk1 (κ:=K65) (E:=Ep.bool) 8 [] R R R R R R R R Z4 R R R R (f56.stp S66 R R) hy375 λw68 K69 S70 f71=>Tv<|?_
  have hn72:x35.length=y375.length:=hn57.trans (Jt2 hy375).2.2.2.symm
  refine Jo<|Jz<|Jp<|Jf3 R ?_
  have hw45:t0 .i64 (v38+1)=v38+1:=wr1 hj45 (Jm2 hc45) hN45
  rw[hw45]
  have hc45:=Jm2 hc45
  cases h
  exact Jz1 λa ha=>⟨k,_,Ja3 _,⟨K69,v38+1,y375,R,(T3 S55 S66 S70).wk R,f71,hn72,by omega,by omega,hk58⟩,(ha.mm R)⟩
  rintro _ w48 ⟨K49,s6,rfl,S50,f51,hn52,rfl⟩
  have h:=yI hK46
  refine Jp<|Jg3 [2,2,2,2,2,1,1,2] 5 R<|Ob h λx66 hx66 h=>?_
  have f73:=f14.stp (T6 S21 S26 S31 S38 S43 S50) R R
  have f74:=f15.stp (T6 S21 S26 S31 S38 S43 S50) R R
  have f75:=f16.stp (T6 S21 S26 S31 S38 S43 S50) R R
  have f76:=g0_1.stp (T7 S6 S21 S26 S31 S38 S43 S50) R R
  have f77:=f39.stp (S43.tr S50) R R
  have f78:=f13.stp (T6 S21 S26 S31 S38 S43 S50) R R
  refine Jh R R R C233 (Ret.cast (by simp only[hn52,List.cons_append,List.nil_append])<|kJ (κ:=Mk K49) (p0:=p0) (Ji3 f73) (Ji3 f74) (Ji3 f75) (Ji3 f76) (Ji3 f77.rdc) (Ji3 f51.rdc) (f78.map (mp [] 0) R R) hx66) ?_
  rintro _ w79 ⟨k80,aF,aB,rfl,e81,f82⟩
  obtain⟨K83,S84,m85⟩:=Ji e81 9 R
  refine Tv<|Ob h λx67 hx67 h=>?_
  have f88:=f77.stp S84 R R
  refine Jh R R R C191 (gR (κ:=Mk K83) (Ji3 f88.rdc) (Ji3 (f82.mx da m85 R (R:9+2=11)).rdc) hx67) ?_
  rintro _ w89 ⟨k90,aE,aG,rfl,e91,f92⟩
  obtain⟨K93,S94,m95⟩:=Ji e91 12 R
  refine Tv<|Jb 1 R<|Jg3 [2,2,1,2,2,2,2,2] 2 R ?_
  obtain⟨K98,S99,z100⟩:=ea K93 w89 14
  have f101:=Sl.st z100 (f92.mx da m95 R (R:12+2=14)).rdc
  refine Ob h λx71 hx71 h=>?_
  have f102:=f73.stp (T3 S84 S94 S99) R R
  have f103:=f74.stp (T3 S84 S94 S99) R R
  have f104:=f75.stp (T3 S84 S94 S99) R R
  have f105:=f76.stp (T3 S84 S94 S99) R R
  have f106:=f78.stp (T3 S84 S94 S99) R R
  refine Jh R R R C189 (ih (κ:=λb=>mp [] 1<|K98 b) (p0:=p0) (Jl2 f102 (mp [] 1) R R) (Jl2 f103 (mp [] 1) R R) (Jl2 f104 (mp [] 1) R R) (Jl2 f105 (mp [] 1) R R) (Jl2 f101 (mp [] 1) R R) (f106.map (mp [] 1) R R) hx71) ?_
  rintro _ w107 ⟨k108,au,ay,rfl,e109,f110⟩
  obtain⟨K111,S112,m113,z114⟩:=Jj e109 15 R
  refine Tv<|?_
  have f115:=f110.mx z114
  refine Jb 5 R<|Je3 R<|Jq<|Je3 R<|Ob h λq7 h hK116=>Jx1 (λL w'=>∃κ' ao an,L=[(0,.pointer (some ⟨b0,0,none⟩)),(1,.slice a1 p1.length u1),(7,vi x27),(8,vi<|Int.tmod x27 2),(9,.slice ab s1.length aa),(15,.slice ao q7.length an)]/\Stp [20] K111 w107 κ' w'/\Rd Rp.bool κ' w' 0 ao an q7) ?_ ?_
  revert h
  cases ht121:(x71.2==(Int.tmod x27 2))
  refine JF λh=>Jy R<|Js ?_
  cases h
  exact Jw1 _ ⟨K111,au,ay,R,Jj3,f115⟩<|KM R
  refine JT λh=>Jx R<|Jh3 [2,2,1,2] 2 R<|Ob h λx80 hx80 h=>Jh R R R C191 (gR (κ:=Mk K111) (Ji3<|f101.stp S112 R R) (Ji3 f115) hx80) ?_
  rintro _ w123 ⟨k124,aw,ax,rfl,e125,f126⟩
  obtain⟨K127,S128,m129⟩:=Ji e125 18 R
  refine Tv<|Jc 1 R ?_
  obtain⟨K132,S133,z134⟩:=ea K127 w123 20
  cases h
  exact Jw1 _ ⟨K132,aw,ax,R,(S128.tr S133).wk R,(Sl.st z134 (f126.mx da m129 R (R:18+2=20)).rdc)⟩<|KM R
  rintro _ w117 ⟨K118,ao,an,rfl,S119,f120⟩
  have h:=hK116
  refine Jp<|Jq<|Jg3 [2,1,2] 1 R<|Ob h λx82 hx82 h=>Jh R R R C234 (ez (κ:=Mk K118) (Ji3 f120) hx82) ?_
  rintro _ w136 ⟨k137,rfl,e138⟩
  obtain⟨K139,S140,m141⟩:=Ji e138 18 R
  refine Tv<|Jb 1 R ?_
  revert h
  cases ht143:(!x82)
  refine JF λh=>Jy R<|Js<|Jp<|Jg3 [2,2,2,2,2,2,1,1,2] 6 R<|Ob h λx92 hx92 h=>?_
  have f156:=f88.stp (T5 S94 S99 S112 S119 S140) R R
  have S002:=(T3 S112 S119 S140)
  refine Jh R R R C233 (kJ (κ:=Mk K139) (p0:=p0) (Ji3<|f102.stp S002 R R) (Ji3<|f103.stp S002 R R) (Ji3<|f104.stp S002 R R) (Ji3<|f105.stp S002 R R) (Ji3 f156.rdc) (Ji3<|f120.stp S140 R R) ((f106.stp S002 R R).map (mp [] 0) R R) hx92) ?_
  rintro _ w159 ⟨k160,aH,aI,rfl,e161,f162⟩
  obtain⟨K163,S164,m165⟩:=Ji e161 20 R
  refine Tv<|Ob h λx93 hx93 h=>Jh R R R C191 (gR (κ:=Mk K163) (Ji3 (f156.stp S164 R R).rdc) (Ji3 (f162.mx da m165 R (R:20+2=22)).rdc) hx93) ?_
  rintro _ w169 ⟨k170,aq,ap,rfl,e171,f172⟩
  obtain⟨K173,S174,m175⟩:=Ji e171 23 R
  refine Tv<|?_
  have f177:=f172.mx da m175 R (R:23+2=25)
  refine Jb 1 R<|Jg3 [2,1,2] 1 R<|Ob h λx95 hx95 h=>Jh R R R C234 (ez (κ:=Mk K173) (Ji3 f177.rdc) hx95) ?_
  rintro _ w178 ⟨k179,rfl,e180⟩
  obtain⟨K181,S182,m183⟩:=Ji e180 26 R
  refine Tv<|Jb 1 R ?_
  revert h
  cases ht185:(!x95)
  refine JF λh=>Jy R<|Js<|Jz ?_
  cases h
  exact Jz1 λa ha=>⟨k,_,Ja3 _,⟨(λb=>ren [(25,7)]<|K181 b),x93,aq,ap,R,(Jy2 ((T12 S38 S43 S50 S84 S94 S99 S112 S119 S140 S164 S174 S182).wk R) [(25,7)] R),((f177.stp S182 R R).map (ren [(25,7)]) R R),hk40⟩,(ha.mm R)⟩
  refine JT λh=>Jx R<|Je3 R<|Ju<|Ja1<|Jw ?_
  cases h
  obtain rfl:=Option.some.inj hk40
  have h:=yL hK34
  refine Ja1 ?_
  obtain⟨K187,S188,z189⟩:=ea K181 w178 25
  refine Ja2 (l:=[.tmp 4,.tmp 5]) V189 (Jp2 R<|Jp2 R R) R ?_
  cases h
  exact⟨K187,aq,ap,R,(hE.stp (S6.tr<|S21.tr<|S26.tr<|S31.tr<|S38.tr<|S43.tr<|S50.tr<|S84.tr<|S94.tr<|S99.tr<|S112.tr<|S119.tr<|S140.tr<|S164.tr<|S174.tr<|S182.tr S188) R R),(Sl.st z189 (f177.stp S182 R R).rdc)⟩
  refine JT λh=>Jx R<|Je3 R<|Ju<|Jw<|Ja1<|Jw ?_
  cases h
  obtain rfl:=Option.some.inj hk40
  have h:=yL hK34
  refine Ja1 ?_
  obtain⟨K146,S147,z148⟩:=ea K139 w136 7
  refine Ja2 (l:=[.tmp 4,.tmp 5]) V189 (Jp2 R<|Jp2 R R) R ?_
  cases h
  exact⟨K146,ab,aa,R,(hE.stp (T14 S6 S21 S26 S31 S38 S43 S50 S84 S94 S99 S112 S119 S140 S147) R R),(Sl.st z148 (f88.stp (T5 S94 S99 S112 S119 S140) R R).rdc)⟩
  refine JT λh=>Jx R<|Je3 R<|Ju<|Jw<|Ja2 (l:=[.tmp 4,.tmp 5]) V189 (Jp2 R<|Jp2 R R) R ?_
  cases h
  exact⟨K5,a1,u1,R,(hE.stp S6 R R),(g1.stp S6 R R)⟩
theorem pW {ac ae af ad ab aa}{p0:Parity}(g0_0_0:Rd (Rp.int .i64) κ w 0 ac ae p0.Arena.Owner) (g0_0_1:Rd (Rp.sl (Rp.int .i64)) κ w 0 af ad p0.Arena.Next) (g0_1:Rd (Rp.int .i64) κ w 0 ab aa p0.Prio){r:Bool}(h:j8 p0=some r):Ret Tryz.prog 147 [.agg #[.slice ac p0.Arena.Owner.length ae,.slice af p0.Arena.Next.length ad,.slice ab p0.Prio.length aa]] w (Pvb κ w r):=by
 unfold j8 at h
 refine Jk3 κ F147 R N147 R λhE=>Je [1,2] R<|Jf1 (κ:=κ) 2 R R R R R R R λb1 w1 K2 S3 f4=>Tv<|Jb 1 R<|Jq<|Je [2,1,1,2,2,2,1,2,2,2,1,2,2,2] R<|Jd3 R U108 R Z104<|Jl tv R R R R (Jd2 (cs:=[.slice ac p0.Arena.Owner.length ae,.slice af p0.Arena.Next.length ad]) I104 Z104 R R R<|haE<|f4.lds 0 2 R)<|Ob h λx7 hx7 h=>Jh R R R C194 (rh (κ:=Mk K2) (p0:=p0.Arena) (Ji3<|g0_0_0.stp S3 R R) (Ji3<|g0_0_1.stp S3 R R) hx7) ?_
 rintro _ w7 ⟨k8,rfl,e9⟩
 obtain⟨K10,S11,m12⟩:=Ji e9 3 R
 refine Tv<|Jn 2 R<|Ob h λp18 h hK14=>Ju1 [(5,2),(6,1),(7,2),(8,2),(9,2),(10,1),(11,2),(12,2),(13,2)] [] (λL w'=>L=[(1,.pointer (some ⟨b1,0,none⟩)),(18,.bool p18)]/\∃κ',Stp [] K10 w7 κ' w') tv ?_ ?_
 revert h
 cases ht15:(!x7)
 refine JF λh=>Jd3 R U108 R Z29 ?_
 have f16:=f4.stp S11 R R
 refine Jb3 R I29 (f16.ld 2 R R)<|Jn3 R U29 R R<|Jd3 R U108 R Z104<|Jd3 R U104 R Z29<|Jb3 R I29 (f16.ld 0 R R)<|Jn3 R U29 R R<|Jn 2 R ?_
 cases h
 exact Jv1 _ tv ⟨R,_,Jj3⟩<|KM R
 refine JT λh=>Jn 1 R<|Jd1 R R R R<|Jn 3 R<|Jd1 R R R R<|Jn 3 R ?_
 cases h
 exact Jv1 _ tv ⟨R,_,Jj3⟩<|KM R
 rintro _ w17 _ ⟨rfl,K18,S19⟩
 have h:=hK14
 refine Jd ?_
 revert h
 cases ht20:p18
 refine JF λh=>Jy R<|Js<|Jp<|Jq<|Je [2,1,2,2] R<|Jd3 R U108 R Z29<|Jb3 R I29 ((f4.stp (S11.tr S19) R R).ld 2 R R)<|Jn3 R U29 R R<|Jb 1 R ?_
 have hN23:(p0.Prio.length:Int)<=9223372036854775807:=g0_1.len_le
 refine Ob h λq2 hq25 hK24=>?_
 clear h
 refine Jx1 (λL w'=>∃κ',L=[]/\Stp [] K18 w17 κ' w'/\q2=xe ()) ?_ ?_
 refine Jv<|Jy1 (λk L w'=>∃κ' v22,L=[(20,.slice ab p0.Prio.length aa),(21,vi (p0.Prio.length:Int)),(22,vi v22)]/\Stp [] K18 w17 κ' w'/\0<=v22/\xh ((p0.Prio.length:Int)-v22)=k/\cntM (ga p0) k v22 ()=some q2) ⟨_,_,⟨K18,0,R,Jj3,(by decide),(by simp),hq25⟩,(KM R)⟩ ?_
 rintro k _ w29 ⟨K30,v22,rfl,S31,hj23,hJ23,h⟩
 rcases k with _ | k
 have hk32:=h;obtain⟨o23,h⟩:=bP (xe (xf ()):Bool⊕((Unit)⊕(Unit)))
 have hc23:decide (v22<(p0.Prio.length:Int))=false:=Jo2 (by omega)
 refine Je3 R<|Jq<|Jw2 R hc23<|Jc1<|Jt<|Jt ?_
 cases h
 have h:=hk32
 refine Jb1 ?_
 cases h
 exact Jw1 _ ⟨K30,R,S31.wk R,R⟩ KN
 obtain⟨o23,h,hk32⟩:=BI h;unfold ga at h
 have hc23:decide (v22<(p0.Prio.length:Int))=true:=Jn2 (by omega)
 refine Je3 R<|Jq<|Jv2 R hc23<|Js<|Jp<|Jq<|Jv<|Je [2,1,2] R<|Ob h λx24 hx24 h=>Jc3 R g0_1 hx24 U29 Z2<|Jb3 R I2 ((g0_1.stp (T4 S3 S11 S19 S31) R R).gInt hx24)<|Jb 1 R<|Jg3 [2,2,2,2,2,2] 3 R<|Ob h λp31 h hK34=>Ju1 [(3,2),(4,2),(5,2)] [] (λL w'=>L=[(20,.slice ab p0.Prio.length aa),(21,vi (p0.Prio.length:Int)),(22,vi v22),(31,.bool p31)]/\∃κ',Stp [] K30 w29 κ' w') tv ?_ ?_
 revert h
 cases ht35:decide (x24<0)
 refine JF λh=>Jn 3 R ?_
 cases h
 exact Jv1 _ tv ⟨R,_,Jj3⟩<|KM R
 refine JT λh=>Jn 3 R ?_
 cases h
 exact Jv1 _ tv ⟨R,_,Jj3⟩<|KM R
 rintro _ w36 _ ⟨rfl,K37,S38⟩
 have h:=hK34
 refine Jd ?_
 revert h
 cases ht39:p31
 refine JF λh=>Jy R<|Js<|Jz<|Jp<|Jf3 R ?_
 have hw23:t0 .i64 (v22+1)=v22+1:=wr1 hj23 (Jm2 hc23) hN23
 rw[hw23]
 have hc23:=Jm2 hc23
 cases h
 exact Jz1 λa ha=>⟨k,_,Ja3 _,⟨K37,v22+1,R,(S31.tr S38).wk R,by omega,by omega,hk32⟩,(ha.mm R)⟩
 refine JT λh=>Jx R<|Je3 R<|Ju<|Ja1<|Jw<|Jw ?_
 cases h
 obtain rfl:=Option.some.inj hk32
 have h:=yL hK24
 refine Ja1<|Jq2<|Jw<|Ja2 (l:=[.tmp 2]) V147 (Jp2 R R) R ?_
 cases h
 exact⟨K37,R,(hE.stp (T5 S3 S11 S19 S31 S38) R R)⟩
 rintro _ w26 ⟨K27,rfl,S28,rfl⟩
 have h:=yI hK24
 refine Jp<|Je3 R<|Ju<|Ja2 (l:=[.tmp 2]) V147 (Jp2 R R) R ?_
 cases h
 exact⟨K27,R,(hE.stp (T4 S3 S11 S19 S28) R R)⟩
 refine JT λh=>Jx R<|Je3 R<|Ju<|Jw<|Ja2 (l:=[.tmp 2]) V147 (Jp2 R R) R ?_
 cases h
 exact⟨K18,R,(hE.stp (T3 S3 S11 S19) R R)⟩
theorem nF {ae ai ah af}{p0:Arena}{a1 u1}{p1:(List Int)}(g0_0:Rd (Rp.int .i64) κ w 0 ae ai p0.Owner) (g0_1:Rd (Rp.sl (Rp.int .i64)) κ w 0 ah af p0.Next) (g1:Rd (Rp.int .i64) κ w 0 a1 u1 p1){r:Arena}(h:kA p0 p1=some r):Ret Tryz.prog 235 [.agg #[.slice ae p0.Owner.length ai,.slice ah p0.Next.length af],.slice a1 p1.length u1] w (λv w'=>∃(κ':Col) (ra0:Option Addr) (ru0:Nat) (ra1:Option Addr) (ru1:Nat),v= .agg #[.slice ra0 r.Owner.length ru0,.slice ra1 r.Next.length ru1]/\Ent κ w κ' w'/\Oc E6 2 κ' w' 2 ra0 ru0 r.Owner/\Oc (Ep.own E6 2) 29 κ' w' 3 ra1 ru1 r.Next):=by
 unfold kA at h
 refine Jk3 κ F235 R N235 R λhE=>Je [1,1] R<|Jf1 (κ:=κ) 2 R R R R R R R λb2 w1 K2 S3 f4=>Tv<|Jg1 (κ:=K2) 3 R R R R R X104 R λb4 w5 K6 S7 f8=>Tv<|Jd<|Je [1,1,1,1] R<|Jl tv R R R R (Jd2 (cs:=[.slice ae p0.Owner.length ai,.slice ah p0.Next.length af]) I104 Z104 R R R<|haE (f4.stp S7 R R).cells)<|Ob h λx9 hx9 h=>Jh R R R C250 (pR (κ:=Mk K6) (p0:=p0) (Ji3<|g0_0.stp (S3.tr S7) R R) (Ji3<|g0_1.stp (S3.tr S7) R R) hx9) ?_
 rintro _ w12 ⟨k13,ac,ad,ab,aa,rfl,e14,f15,f16⟩
 obtain⟨K17,S18,m19⟩:=Ji e14 4 R
 refine Tv<|Jg1 (κ:=K17) 8 R R R R R X104 R λb5 w23 K24 S25 f26=>Tv<|Jj1 (κ:=K24) 8 (vc:=[.slice ac x9.Owner.length ad,.slice ab x9.Next.length aa]) R R R R R R R Z104 R R f26 R λw27 S28 f29=>Tv<|Jd<|Jq<|Jg3 [2,2,2] 1 R<|Jn3 R U29 R R<|Jb 1 R ?_
 have hN30:(p1.length:Int)<=9223372036854775807:=g1.len_le
 refine Ob h λq2 hq32 hK31=>?_
 clear h
 refine Jx1 (λL w'=>∃κ',∃s3:(List<|List Int),L=[(4,.pointer (some ⟨b4,0,none⟩)),(5,.pointer (some ⟨b5,0,none⟩))]/\Stp [7,9] K24 w27 κ' w'/\Oc (Ep.own E6 2) 29 κ' w' 7 ab aa s3/\x9.Next.length=s3.length/\q2=xe s3) ?_ ?_
 refine Jv<|Jy1 (λk L w'=>∃κ' v12,∃s1:(List<|List Int),L=[(4,.pointer (some ⟨b4,0,none⟩)),(5,.pointer (some ⟨b5,0,none⟩)),(10,.slice a1 p1.length u1),(11,vi (p1.length:Int)),(12,vi v12)]/\Stp [7,9] K24 w27 κ' w'/\Oc (Ep.own E6 2) 29 κ' w' 7 ab aa s1/\x9.Next.length=s1.length/\0<=v12/\xh ((p1.length:Int)-v12)=k/\cntM (gM p1) k v12 s1=some q2) ⟨_,_,⟨K24,0,x9.Next,R,Jj3,((f16.mx (cm (bI _) _) m19 R (R:4+3=7)).stp (S25.tr S28) R R),R,(by decide),(by simp),hq32⟩,(KM R)⟩ ?_
 rintro k _ w38 ⟨K39,v12,s1,rfl,S40,f41,hn42,hj30,hJ30,h⟩
 rcases k with _ | k
 have hk44:=h;obtain⟨o30,h⟩:=bP (xe (xf s1):Arena⊕(((List (List Int)))⊕((List (List Int)))))
 have hc30:decide (v12<(p1.length:Int))=false:=Jo2 (by omega)
 refine Je3 R<|Jq<|Jw2 R hc30<|Jc1<|Jt<|Jt ?_
 cases h
 have h:=hk44
 refine Jb1 ?_
 cases h
 exact Jw1 _ ⟨K39,s1,R,S40.wk R,f41,hn42,R⟩<|KM R
 obtain⟨o30,h,hk44⟩:=BI h;unfold gM at h
 have hc30:decide (v12<(p1.length:Int))=true:=Jn2 (by omega)
 refine Je3 R<|Jq<|Jv2 R hc30<|Js<|Jp<|Jq<|Jv<|Jg3 [2,2,1,2,2] 1 R<|Ob h λx15 hx15 h=>Jc3 R g1 hx15 U29 Z2<|Jb3 R I2 ((g1.stp (T6 S3 S7 S18 S25 S28 S40) R R).gInt hx15)<|Jb 2 R<|Je3 R<|Ob h λq4 h hK46=>Jx1 (λL w'=>∃κ',L=[(4,.pointer (some ⟨b4,0,none⟩)),(5,.pointer (some ⟨b5,0,none⟩)),(10,.slice a1 p1.length u1),(11,vi (p1.length:Int)),(12,vi v12)]/\Stp [7,9] K39 w38 κ' w'/\Oc (Ep.own E6 2) 29 κ' w' 7 ab aa q4/\x9.Next.length=q4.length) ?_ ?_
 revert h
 cases ht52:decide (0<=x15)
 refine JF λh=>Jy R<|Js ?_
 cases h
 exact Jw1 _ ⟨K39,R,Jj3,f41,hn42⟩<|KM R
 refine JT λh=>Jx R<|Ja [2,1,2,2,1,2,1] R<|Jd3 R U104 R Z26<|Jb3 R I26 ((f29.stp S40 R R).ld 1 R R)<|Jn 2 R<|Jn1 (κ:=K39) (E:=E6) 9 [] (parts:=[(0,.tmp 22)]) (cells:=[vi x15]) (xs:=([x15]:List Int)) R R R R R R Y29 bG R R R R R R R R R R ⟨[vi x15],[],Zl K39 w38 [],Zl K39 w38 [],R,Zl.sp (l1:=[]) (l2:=[]) R,Zl.sr (l1:=[]) (l2:=[]),R,R⟩ λaj ak w54 K55 S56 f57=>Tv<|Ob h λx24 hx24 h=>Jf R (Jf2 f41.rdc hx24 U26 Z29 R R hn42 R)<|Ob h λy424 hy424 h=>Jk1 (κ:=K55) (E:=(Ep.own E6 2)) 7 [9] R R R R R R R R Z29 R ⟨_,_,R,f57⟩ R R (f41.stp S56 R R) hy424 λw59 K60 S61 f62=>Tv<|?_
 have hn63:x9.Next.length=y424.length:=hn42.trans (Jt2 hy424).2.2.2.symm
 refine Jo ?_
 cases h
 exact Jw1 _ ⟨K60,R,(S56.tr S61).wk R,f62,hn63⟩<|KM R
 rintro _ w47 ⟨K48,rfl,S49,f50,hn51⟩
 have h:=hK46
 refine Jz<|Jp<|Jf3 R ?_
 have hw30:t0 .i64 (v12+1)=v12+1:=wr1 hj30 (Jm2 hc30) hN30
 rw[hw30]
 have hc30:=Jm2 hc30
 cases h
 exact Jz1 λa ha=>⟨k,_,Ja3 _,⟨K48,v12+1,q4,R,(S40.tr S49).wk R,f50,hn51,by omega,by omega,hk44⟩,(ha.mm R)⟩
 rintro _ w33 ⟨K34,s3,rfl,S35,f36,hn37,rfl⟩
 have h:=yI hK31
 refine Jp<|Je [1,1] R<|Jl tv R R R R (Jd2 (cs:=[.slice ac x9.Owner.length ad,.slice ab x9.Next.length aa]) I104 Z104 R R R<|haE (f29.stp S35 R R).cells)<|Jj1 (κ:=K34) 3 (vc:=[.slice ac x9.Owner.length ad,.slice ab x9.Next.length aa]) R R R R R R R Z104 R R (f8.stp (T4 S18 S25 S28 S35) R R) R λw66 S67 f68=>Tv<|Jd<|Ju<|Ja2 (l:=[.cell 4 104]) V235 (bL R f68 I104 Z104 R R) R ?_
 cases h
 exact⟨(λb=>ren [(6,2),(7,3)]<|K34 b),ac,ad,ab,aa,(by simp only[hn37]),((hE.stp (T7 S3 S7 S18 S25 S28 S35 S67) R R).map (ren [(6,2),(7,3)]) R R),(((f15.mx (bI _) m19 R (R:4+2=6)).stp (T4 S25 S28 S35 S67) R R).map (ren [(6,2),(7,3)]) R R),((f36.stp S67 R R).map (ren [(6,2),(7,3)]) R R)⟩
end Go.Proofs.YtpcjbkgbnoocaaaGreat
