/- The walks, part 5. By program. -/
import Derived.Test.YtleekpaohfpooaaGreatFns2KE
import Derived.Test.YtleekpaohfpooaaGreatFns3KE
set_option linter.unusedVariables false
set_option linter.unusedSimpArgs false
open Go.IntKind renaming wrap → yC
open Sum renaming inr → yD, inl → yE
open Int renaming toNat → yG
namespace Go.Proofs.YtleekpaohfpooaaGreat
open Go Go.Wk Go.Proofs
set_option maxRecDepth 100000
set_option maxHeartbeats 1000000
variable {w:World}{κ:Col}
theorem nB {ad aa ab ac}{p0:Clause}{c0:Sig}{b1}(g0_1:Rd (Rp.int .i64) κ w 0 ad aa p0.A) (g0_2:Rd (Rp.int .i64) κ w 0 ab ac p0.B) (gb1:Bc κ w 0 b1 28 [vi c0.In,vi c0.Out]){r:Bool}(h:ek p0 c0=some r):Ret Tryz.prog 127 [.agg #[vi p0.Kind,.slice ad p0.A.length aa,.slice ab p0.B.length ac],.pointer (some ⟨b1,0,none⟩)] w (Pvb κ w r):=by
 unfold ek at h
 refine Jk3 κ F127 R N127 R λhE=>Je [1,2] R<|Js3 (κ:=κ) 2 R λb2 w1 K2 S3 f4=>Tv<|Jb 1 R<|Je [1,1,1,2,2] R<|Jb4 tv R (Jc4 (haE (gb1.stp S3).cells) I28 Z28 R)<|Jb4 tv R (Jc4 (haE f4.cells) I67 Z67 R)<|Ob h λx6 hx6 h=>Jr3 R C128 (qB (κ:=Mk K2) (p0:=c0) (p1:=p0) (Ji3<|g0_1.stp S3) (Ji3<|g0_2.stp S3) hx6) ?_
 rintro _ w8 ⟨k9,rfl,e10⟩
 obtain⟨K11,S12,m13⟩:=Ji e10 3 R
 refine Tv<|Jb 2 R<|Ju<|Ja2 (l:=[.tmp 3]) V127 (Jp2 R R) R ?_
 cases h
 exact⟨K11,R,(hE.stp<|S3.tr S12)⟩
theorem mD {p0:Sig}{be bd bb bc}{p1:Clause}(g1_1:Rd (Rp.int .i64) κ w 0 be bd p1.A) (g1_2:Rd (Rp.int .i64) κ w 0 bb bc p1.B){r:Det}(h:jf p0 p1=some r):Ret Tryz.prog 105 [.agg #[vi p0.In,vi p0.Out],.agg #[vi p1.Kind,.slice be p1.A.length bd,.slice bb p1.B.length bc]] w (λv w'=>∃(κ':Col) (ra0:Option Addr) (ru0:Nat) (ra1:Option Addr) (ru1:Nat),v= .agg #[.slice ra0 r.Next.length ru0,.slice ra1 r.Pairs.length ru1]/\Ent κ w κ' w'/\Oc (Ep.own E6 2) 37 κ' w' 2 ra0 ru0 r.Next/\Oc Pair.ep127 127 κ' w' 3 ra1 ru1 r.Pairs):=by
 unfold jf at h
 refine Jk3 κ F105 R N105 R λhE=>Je [1,1,1] R<|Js3 (κ:=κ) 2 R λb2 w1 K2 S3 f4=>Tv<|Js3 (κ:=K2) 3 R λb3 w5 K6 S7 f8=>Tv<|Jt3 (κ:=K6) 4 R X71 R λb4 w9 K10 S11 f12=>Tv<|Jd<|Je3 R<|Je [2,1,1] R<|Jf R (bK (parts:=[]) (cells:=[.slice none 0 0,.slice none 0 0]) R R (by kernel_rfl))<|Jt3 (κ:=K10) 5 R X127 R λb6 w13 K14 S15 f16=>Tv<|Jv3 (κ:=K14) 5 (vc:=[.slice none 0 0,.slice none 0 0]) R Z127 R f16 R λw17 S18 f19=>Tv<|Jd<|Jq<|Je [2,1] R<|Jd3 R U67 R Z2 ?_
 have f20:=f8.stp (T3 S11 S15 S18)
 refine Jb3 R I2 (f20.ld 0 R R)<|Jd<|Jv<|Jq<|Je3 R<|Ob h λq1 h hK21=>Jo3 [2,3,4,5,6,13] (λE L w'=>∃κ',L=(17,.bool q1)::E/\Stp [] K14 w17 κ' w') ?_ ?_
 revert h
 cases ht25:(p1.Kind==1)
 refine JF λh=>Jy R<|Jf3 R ?_
 cases h
 exact Jw1 _ ⟨K14,R,Jj3⟩<|KM R
 refine JT λh=>Jx R<|Js ?_
 cases h
 exact Jw1 _ ⟨K14,R,Jj3⟩<|KM R
 rintro _ w22 ⟨K23,rfl,S24⟩
 have h:=hK21
 refine Jp<|Ob h λq2 h hK26=>Jo3 [2,3,4,6] (λE L w'=>∃κ' ae af ac ad,L=(5,vi q2.1)::E/\Stp [5] K23 w22 κ' w'/\Oc E6 2 κ' w' 6 ae af q2.2.1/\Oc E6 2 κ' w' 7 ac ad q2.2.2/\Bc κ' w' 5 b6 127 [.slice ae q2.2.1.length af,.slice ac q2.2.2.length ad]) ?_ ?_
 revert h
 cases ht33:q1
 refine JF λh=>Jy R<|Je3 R<|Ob h λq3 h hK43=>Jo3 [2,3,4,6] (λE L w'=>∃κ' aw aq ay ao,L=(5,vi q3.1)::E/\Stp [5] K23 w22 κ' w'/\Oc E6 2 κ' w' 6 aw aq q3.2.1/\Oc E6 2 κ' w' 7 ay ao q3.2.2/\Bc κ' w' 5 b6 127 [.slice aw q3.2.1.length aq,.slice ay q3.2.2.length ao]) ?_ ?_
 revert h
 cases ht50:(p1.Kind==2)
 refine JF λh=>Jy R<|Je3 R<|Ob h λq4 h hK60=>Jo3 [2,3,4,6] (λE L w'=>∃κ' aG al ap ar,L=(5,vi q4.1)::E/\Stp [5] K23 w22 κ' w'/\Oc E6 2 κ' w' 6 aG al q4.2.1/\Oc E6 2 κ' w' 7 ap ar q4.2.2/\Bc κ' w' 5 b6 127 [.slice aG q4.2.1.length al,.slice ap q4.2.2.length ar]) ?_ ?_
 revert h
 cases ht67:(p1.Kind==3)
 refine JF λh=>Jy R<|Je3 R<|Ob h λq5 h hK82=>Jo3 [2,3,4,6] (λE L w'=>∃κ' am aC aB an,L=(5,vi q5.1)::E/\Stp [5] K23 w22 κ' w'/\Oc E6 2 κ' w' 6 am aC q5.2.1/\Oc E6 2 κ' w' 7 aB an q5.2.2/\Bc κ' w' 5 b6 127 [.slice am q5.2.1.length aC,.slice aB q5.2.2.length an]) ?_ ?_
 revert h
 cases ht89:(p1.Kind==4)
 refine JF λh=>Jy R<|Je3 R<|Ob h λq6 h hK104=>Jo3 [2,3,4,6] (λE L w'=>∃κ' au av aA aF,L=(5,vi q6.1)::E/\Stp [5] K23 w22 κ' w'/\Oc E6 2 κ' w' 6 au av q6.2.1/\Oc E6 2 κ' w' 7 aA aF q6.2.2/\Bc κ' w' 5 b6 127 [.slice au q6.2.1.length av,.slice aA q6.2.2.length aF]) ?_ ?_
 revert h
 cases ht111:(p1.Kind==6)
 refine JF λh=>Jy R<|Je3 R<|Ja [1,1,2,1] R<|Jw3 (κ:=K23) (E:=E6) 6 [] (parts:=[(0,.const (vi 2)),(1,.const (vi 3))]) (cells:=[vi 2,vi 3]) (xs:=([2,3]:List Int)) R Y37 bG R ⟨[vi 2],[vi 3],Zl K23 w22 [],Zl K23 w22 [],R,Zl.sp (l1:=[]) (l2:=[]) R,Zl.sr (l1:=[]) (l2:=[]),R,⟨[vi 3],[],Zl K23 w22 [],Zl K23 w22 [],R,Zl.sp (l1:=[]) (l2:=[]) R,Zl.sr (l1:=[]) (l2:=[]),R,R⟩⟩ λaU aH w121 K122 S123 f124=>Tv<|Jw3 (κ:=K122) (E:=E6) 7 [] (parts:=[(0,.const (vi 1)),(1,.const (vi 3))]) (cells:=[vi 1,vi 3]) (xs:=([1,3]:List Int)) R Y37 bG R ⟨[vi 1],[vi 3],Zl K122 w121 [],Zl K122 w121 [],R,Zl.sp (l1:=[]) (l2:=[]) R,Zl.sr (l1:=[]) (l2:=[]),R,⟨[vi 3],[],Zl K122 w121 [],Zl K122 w121 [],R,Zl.sp (l1:=[]) (l2:=[]) R,Zl.sr (l1:=[]) (l2:=[]),R,R⟩⟩ λaX aN w125 K126 S127 f128=>Tv<|Jf R (bK (parts:=[(0,.tmp 14),(1,.tmp 15)]) (cells:=[.slice aU ([2,3]:List Int).length aH,.slice aX ([1,3]:List Int).length aN]) R R (by kernel_rfl))<|Jv3 (κ:=K126) 5 (vc:=[.slice aU ([2,3]:List Int).length aH,.slice aX ([1,3]:List Int).length aN]) R Z127 R (f19.stp<|T3 S24 S123 S127) R λw130 S131 f132=>Tv<|Jo ?_
 cases h
 exact Jw1 _ ⟨K126,aU,aH,aX,aN,R,(T3 S123 S127 S131).wk R,(f124.stp<|S127.tr S131),(f128.stp S131),f132⟩<|KM R
 refine JT λh=>Jx R<|Ja [1,2,1] R<|Jw3 (κ:=K23) (E:=E6) 6 [] (parts:=[(0,.const (vi 0))]) (cells:=[vi 0]) (xs:=([0]:List Int)) R Y37 bG R ⟨[vi 0],[],Zl K23 w22 [],Zl K23 w22 [],R,Zl.sp (l1:=[]) (l2:=[]) R,Zl.sr (l1:=[]) (l2:=[]),R,R⟩ λaW aQ w112 K113 S114 f115=>Tv<|Jd3 R U127 R Z37<|Ju3 (κ:=K113) 5 (off:=0) (vc:=[.slice aW ([0]:List Int).length aQ]) (cs':=[.slice aW ([0]:List Int).length aQ,.slice none 0 0]) R Z37 R (f19.stp<|S24.tr S114) R λw117 S118 f119=>Tv<|Jo ?_
 cases h
 exact Jw1 _ ⟨K113,aW,aQ,none,0,R,(S114.tr S118).wk R,(f115.stp S118),Ow.nil,f119⟩<|KM R
 rintro _ w105 ⟨K106,au,av,aA,aF,rfl,S107,f108,f109,f110⟩
 have h:=hK104
 cases h
 exact Jw1 _ ⟨K106,au,av,aA,aF,R,S107.wk R,f108,f109,f110⟩<|KM R
 refine JT λh=>Jx R<|Ja [1,1,2,1] R<|Jw3 (κ:=K23) (E:=E6) 6 [] (parts:=[(0,.const (vi 0)),(1,.const (vi 1))]) (cells:=[vi 0,vi 1]) (xs:=([0,1]:List Int)) R Y37 bG R ⟨[vi 0],[vi 1],Zl K23 w22 [],Zl K23 w22 [],R,Zl.sp (l1:=[]) (l2:=[]) R,Zl.sr (l1:=[]) (l2:=[]),R,⟨[vi 1],[],Zl K23 w22 [],Zl K23 w22 [],R,Zl.sp (l1:=[]) (l2:=[]) R,Zl.sr (l1:=[]) (l2:=[]),R,R⟩⟩ λaP aS w90 K91 S92 f93=>Tv<|Jw3 (κ:=K91) (E:=E6) 7 [] (parts:=[(0,.const (vi 1))]) (cells:=[vi 1]) (xs:=([1]:List Int)) R Y37 bG R ⟨[vi 1],[],Zl K91 w90 [],Zl K91 w90 [],R,Zl.sp (l1:=[]) (l2:=[]) R,Zl.sr (l1:=[]) (l2:=[]),R,R⟩ λaY aJ w94 K95 S96 f97=>Tv<|Jf R (bK (parts:=[(0,.tmp 33),(1,.tmp 34)]) (cells:=[.slice aP ([0,1]:List Int).length aS,.slice aY ([1]:List Int).length aJ]) R R (by kernel_rfl))<|Jv3 (κ:=K95) 5 (vc:=[.slice aP ([0,1]:List Int).length aS,.slice aY ([1]:List Int).length aJ]) R Z127 R (f19.stp<|T3 S24 S92 S96) R λw99 S100 f101=>Tv<|Jo ?_
 cases h
 exact Jw1 _ ⟨K95,aP,aS,aY,aJ,R,(T3 S92 S96 S100).wk R,(f93.stp<|S96.tr S100),(f97.stp S100),f101⟩<|KM R
 rintro _ w83 ⟨K84,am,aC,aB,an,rfl,S85,f86,f87,f88⟩
 have h:=hK82
 cases h
 exact Jw1 _ ⟨K84,am,aC,aB,an,R,S85.wk R,f86,f87,f88⟩<|KM R
 refine JT λh=>Jx R<|Ja [1,1,2,1] R<|Jw3 (κ:=K23) (E:=E6) 6 [] (parts:=[(0,.const (vi 1))]) (cells:=[vi 1]) (xs:=([1]:List Int)) R Y37 bG R ⟨[vi 1],[],Zl K23 w22 [],Zl K23 w22 [],R,Zl.sp (l1:=[]) (l2:=[]) R,Zl.sr (l1:=[]) (l2:=[]),R,R⟩ λaT aM w68 K69 S70 f71=>Tv<|Jw3 (κ:=K69) (E:=E6) 7 [] (parts:=[(0,.const (vi 0))]) (cells:=[vi 0]) (xs:=([0]:List Int)) R Y37 bG R ⟨[vi 0],[],Zl K69 w68 [],Zl K69 w68 [],R,Zl.sp (l1:=[]) (l2:=[]) R,Zl.sr (l1:=[]) (l2:=[]),R,R⟩ λaL aI w72 K73 S74 f75=>Tv<|Jf R (bK (parts:=[(0,.tmp 28),(1,.tmp 29)]) (cells:=[.slice aT ([1]:List Int).length aM,.slice aL ([0]:List Int).length aI]) R R (by kernel_rfl))<|Jv3 (κ:=K73) 5 (vc:=[.slice aT ([1]:List Int).length aM,.slice aL ([0]:List Int).length aI]) R Z127 R (f19.stp<|T3 S24 S70 S74) R λw77 S78 f79=>Tv<|Jo ?_
 cases h
 exact Jw1 _ ⟨K73,aT,aM,aL,aI,R,(T3 S70 S74 S78).wk R,(f71.stp<|S74.tr S78),(f75.stp S78),f79⟩<|KM R
 rintro _ w61 ⟨K62,aG,al,ap,ar,rfl,S63,f64,f65,f66⟩
 have h:=hK60
 cases h
 exact Jw1 _ ⟨K62,aG,al,ap,ar,R,S63.wk R,f64,f65,f66⟩<|KM R
 refine JT λh=>Jx R<|Je3 R<|Ja [1,2,1] R<|Jw3 (κ:=K23) (E:=E6) 6 [] (parts:=[(0,.const (vi 2))]) (cells:=[vi 2]) (xs:=([2]:List Int)) R Y37 bG R ⟨[vi 2],[],Zl K23 w22 [],Zl K23 w22 [],R,Zl.sp (l1:=[]) (l2:=[]) R,Zl.sr (l1:=[]) (l2:=[]),R,R⟩ λaR aZ w51 K52 S53 f54=>Tv<|Jd3 R U127 R Z37<|Ju3 (κ:=K52) 5 (off:=0) (vc:=[.slice aR ([2]:List Int).length aZ]) (cs':=[.slice aR ([2]:List Int).length aZ,.slice none 0 0]) R Z37 R (f19.stp<|S24.tr S53) R λw56 S57 f58=>Tv<|Jo ?_
 cases h
 exact Jw1 _ ⟨K52,aR,aZ,none,0,R,(S53.tr S57).wk R,(f54.stp S57),Ow.nil,f58⟩<|KM R
 rintro _ w44 ⟨K45,aw,aq,ay,ao,rfl,S46,f47,f48,f49⟩
 have h:=hK43
 cases h
 exact Jw1 _ ⟨K45,aw,aq,ay,ao,R,S46.wk R,f47,f48,f49⟩<|KM R
 refine JT λh=>Jx R<|Ja [1,2,1] R<|Jw3 (κ:=K23) (E:=E6) 6 [] (parts:=[(0,.const (vi 1))]) (cells:=[vi 1]) (xs:=([1]:List Int)) R Y37 bG R ⟨[vi 1],[],Zl K23 w22 [],Zl K23 w22 [],R,Zl.sp (l1:=[]) (l2:=[]) R,Zl.sr (l1:=[]) (l2:=[]),R,R⟩ λaK aO w34 K35 S36 f37=>Tv<|Jd3 R U127 R Z37<|Ju3 (κ:=K35) 5 (off:=0) (vc:=[.slice aK ([1]:List Int).length aO]) (cs':=[.slice aK ([1]:List Int).length aO,.slice none 0 0]) R Z37 R (f19.stp<|S24.tr S36) R λw39 S40 f41=>Tv<|Jo ?_
 cases h
 exact Jw1 _ ⟨K35,aK,aO,none,0,R,(S36.tr S40).wk R,(f37.stp S40),Ow.nil,f41⟩<|KM R
 rintro _ w27 ⟨K28,ae,af,ac,ad,rfl,S29,f30,f31,f32⟩
 have h:=hK26
 refine Jz<|Jp<|Je [1,1,2,1,1] R<|Jb4 tv R (Jc4 (haE f32.cells) I127 Z127 R)<|Jw3 (κ:=K28) (E:=Pair.ep127) 8 [6,7] (parts:=[(0,.tmp 40)]) (cells:=[.slice ae q2.2.1.length af,.slice ac q2.2.2.length ad]) (xs:=([(⟨q2.2.1,q2.2.2⟩:Pair)]:List Pair)) R Y69 cw R ⟨[.slice ae q2.2.1.length af,.slice ac q2.2.2.length ad],[],Zl K28 w27 [6,7],Zl K28 w27 [],R,Zl.sp (l1:=[6,7]) (l2:=[]) R,Zl.sr (l1:=[6,7]) (l2:=[]),⟨[.slice ae q2.2.1.length af],[.slice ac q2.2.2.length ad],Zl K28 w27 [6],Zl K28 w27 [7],R,Zl.sp (l1:=[6]) (l2:=[7]) R,Zl.sr (l1:=[6]) (l2:=[7]),⟨_,_,R,f30⟩,⟨_,_,R,f31⟩⟩,R⟩ λab aa w135 K136 S137 f138=>Tv<|Jf R (bK (parts:=[(1,.tmp 41)]) (cells:=[.slice none 0 0,.slice ab ([(⟨q2.2.1,q2.2.2⟩:Pair)]:List Pair).length aa]) R R (by kernel_rfl))<|Jt3 (κ:=K136) 9 R X71 R λb7 w139 K140 S141 f142=>Tv<|Jv3 (κ:=K140) 9 (vc:=[.slice none 0 0,.slice ab ([(⟨q2.2.1,q2.2.2⟩:Pair)]:List Pair).length aa]) R Z71 R f142 R λw143 S144 f145=>Tv<|Jd<|Jq<|Je3 R<|Ob h λ_ hr146 h=>?_
 have hN146:=jo hr146
 refine Ob h λq8 hq148 hK147=>?_
 clear h
 refine Jo3 [4,7] (λE L w'=>∃κ',∃s9:(List<|List Int),∃ai ah,L=E/\Stp [9,10,11,14] K140 w143 κ' w'/\Oc (Ep.own E6 2) 37 κ' w' 10 ai ah s9/\Bc κ' w' 9 b7 71 [.slice ai s9.length ah,.slice ab ([(⟨q2.2.1,q2.2.2⟩:Pair)]:List Pair).length aa]/\q8=yD s9) ?_ ?_
 refine Jv<|Jp3 [2,3,4,7,43] (λk E L w'=>∃κ' v44,∃s7:(List<|List Int),∃ax aD,L=(44,vi v44)::E/\Stp [9,10,11,14] K140 w143 κ' w'/\Oc (Ep.own E6 2) 37 κ' w' 10 ax aD s7/\Bc κ' w' 9 b7 71 [.slice ax s7.length aD,.slice ab ([(⟨q2.2.1,q2.2.2⟩:Pair)]:List Pair).length aa]/\0<=v44/\yG (q2.1-v44)=k/\cntM (d9 p0 p1) k v44 s7=some q8) ⟨_,_,⟨K140,0,(([]:List (List Int)):(List<|List Int)),none,0,R,Jj3,Ow.nil,f145,(by decide),(by simp),hq148⟩,(KM R)⟩ ?_
 rintro k _ w154 ⟨K155,v44,s7,ax,aD,rfl,S156,f157,f158,hj146,hJ146,h⟩
 rcases k with _ | k
 have hk159:=h;obtain⟨o146,h⟩:=bT (yD (yE s7):Det⊕(((List (List Int)))⊕((List (List Int)))))
 have hc146:decide (v44<q2.1)=false:=Jo2 (by omega)
 refine Je3 R<|Jq<|Jw2 R hc146<|Jc1<|Jt<|Jt ?_
 cases h
 have h:=hk159
 refine Jb1 ?_
 cases h
 exact Jw1 _ ⟨K155,s7,ax,aD,R,S156.wk R,f157,f158,R⟩<|KM R
 obtain⟨o146,h,hk159⟩:=BI h;unfold d9 at h
 have hc146:decide (v44<q2.1)=true:=Jn2 (by omega)
 refine Je3 R<|Jq<|Jv2 R hc146<|Js<|Jp<|Jq<|Jv<|Je3 R<|Je [1,2] R<|Jx3 (κ:=K155) (E:=E6) 11 R Y37 bG R λbf bg w160 K161 S162 f163=>Tv<|Jb 1 R<|Jq<|Je [1,1,2] R<|Jb4 tv R (Jc4 (haE (f4.stp<|T11 S7 S11 S15 S18 S24 S29 S137 S141 S144 S156 S162).cells) I28 Z28 R)<|Ob h λx49 hx49 h=>Jr3 R C103 (fO (κ:=Mk K161) (p0:=p0) hx49) ?_
 rintro _ w165 ⟨k166,rfl,e167⟩
 obtain⟨K168,S169,m170⟩:=Ji e167 12 R
 refine Tv<|Jb 1 R<|Ob h λ_ hr172 h=>?_
 have hN172:=jo hr172
 refine Ob h λq11 hq174 hK173=>?_
 clear h
 refine Jo3 [2,3,4,7,43,44] (λE L w'=>∃κ',∃s12:(List Int),∃ak aj,L=(9,.slice ak s12.length aj)::E/\Stp [11] K168 w165 κ' w'/\Oc E6 2 κ' w' 11 ak aj s12/\q11=yD s12) ?_ ?_
 refine Jv<|Jp3 [2,3,4,7,8,43,44,49] (λk E L w'=>∃κ' v50,∃s10:(List Int),∃az aE,L=(9,.slice az s10.length aE)::(50,vi v50)::E/\Stp [11] K168 w165 κ' w'/\Oc E6 2 κ' w' 11 az aE s10/\0<=v50/\yG (x49-v50)=k/\cntM (eh p1 v44) k v50 s10=some q11) ⟨_,_,⟨K168,0,(([]:List Int):(List Int)),bf,bg,R,Jj3,(f163.stp S169),(by decide),(by simp),hq174⟩,(KM R)⟩ ?_
 rintro k _ w179 ⟨K180,v50,s10,az,aE,rfl,S181,f182,hj172,hJ172,h⟩
 rcases k with _ | k
 have hk184:=h;obtain⟨o172,h⟩:=bT (yD (yE s10):Det⊕(((List Int))⊕((List Int))))
 have hc172:decide (v50<x49)=false:=Jo2 (by omega)
 refine Je3 R<|Jq<|Jw2 R hc172<|Jc1<|Jt<|Jt ?_
 cases h
 have h:=hk184
 refine Jb1 ?_
 cases h
 exact Jw1 _ ⟨K180,s10,az,aE,R,S181.wk R,f182,R⟩<|KM R
 obtain⟨o172,h,hk184⟩:=BI h;unfold eh at h
 have hc172:decide (v50<x49)=true:=Jn2 (by omega)
 refine Je3 R<|Jq<|Jv2 R hc172<|Js<|Jp<|Jq<|Jv<|Je3 R<|Js1 (κ:=K180) [3] none [(0,2),(1,2),(3,2),(4,2),(6,2),(8,2),(10,2),(2,0),(5,0),(9,0),(7,1),(11,1),(12,1),(13,1),(14,1),(15,2)] [] (by kernel_rfl) (by kernel_rfl) λw186 S185=>Jn 1 R<|Jd3 R U67 R Z2<|Jn 1 R<|Jd3 R U67 R Z37<|Jn 1 R<|Jd3 R U67 R Z37<|Jn 1 R ?_
 have f187:=f20.stp (T10 S24 S29 S137 S141 S144 S156 S162 S169 S181 S185)
 refine Jg R (Jc2 I2 R R<|hvC (f187.ld 0 R R) R)<|Jg R (Jc2 I37 R R<|hvC (f187.ld 1 R R) R)<|Jg R (Jc2 I37 R R<|hvC (f187.ld 2 R R) R)<|Ob h λx60 hx60 h=>Jr3 R C89 (ch (κ:=Mk K180) (Ji3<|g1_1.stp<|T15 S3 S7 S11 S15 S18 S24 S29 S137 S141 S144 S156 S162 S169 S181 S185) hx60) ?_
 rintro _ w189 ⟨k190,rfl,e191⟩
 obtain⟨K192,S193,m194⟩:=Ji e191 14 R
 refine⟨(S193.cl R),Ob h λx64 hx64 h=>Jr3 R C89 (ch (κ:=Mk K192) (Ji3<|g1_2.stp<|T16 S3 S7 S11 S15 S18 S24 S29 S137 S141 S144 S156 S162 S169 S181 S185 S193) hx64) ?_⟩
 rintro _ w197 ⟨k198,rfl,e199⟩
 obtain⟨K200,S201,m202⟩:=Ji e199 16 R
 refine⟨((S193.tr S201).cl R),Ob h λx65 hx65 h=>Jr3 R C171 (oA (κ:=Mk K200) hx65) ?_⟩
 rintro _ w204 ⟨k205,rfl,e206⟩
 obtain⟨K207,S208,m209⟩:=Ji e206 18 R
 have S001:=(T3 S193 S201 S208)
 refine⟨(S001.cl R),Jw3 (κ:=K207) (E:=E6) 20 [] (parts:=[(0,.tmp 65)]) (cells:=[vi x65]) (xs:=([x65]:List Int)) R Y37 bG R ⟨[vi x65],[],Zl K207 w204 [],Zl K207 w204 [],R,Zl.sp (l1:=[]) (l2:=[]) R,Zl.sr (l1:=[]) (l2:=[]),R,R⟩ λbj bk w211 K212 S213 f214=>⟨((S001.tr S213).cl R),Ob h λx67 hx67 h=>Jy3 (κ:=K212) (E:=E6) 11 [] R Y37 bG R (f182.stp<|T5 S185 S193 S201 S208 S213) (Sl.srcP (bP _) f214.rdc) bI hx67 R λbi bh w216 K217 S218 f219=>⟨((T3 S001 S213 S218).cl R),Jn 1 R<|Jt1<|Jo<|Jz<|Jp<|Jf3 R ?_⟩⟩⟩
 have hw172:yC .i64 (v50+1)=v50+1:=wr1 hj172 (Jm2 hc172) hN172
 rw[hw172]
 have hc172:=Jm2 hc172
 cases h
 exact Jz1 λa ha=>⟨k,_,Ja3 _,⟨K217,v50+1,x67,bi,bh,R,(T7 S181 S185 S193 S201 S208 S213 S218).wk R,f219,by omega,by omega,hk184⟩,(ha.mm R)⟩
 rintro _ w175 ⟨K176,s12,ak,aj,rfl,S177,f178,rfl⟩
 have h:=yI hK173
 refine Jp<|Ja [2,1,2,1,1,2,1] R<|Jd3 R U71 R Z31 ?_
 have f220:=f158.stp (T3 S162 S169 S177)
 refine Jb3 R I31 (f220.ld 0 R R)<|Jn 1 R<|Jw3 (κ:=K176) (E:=(Ep.own E6 2)) 14 [11] (parts:=[(0,.tmp 71)]) (cells:=[.slice ak s12.length aj]) (xs:=([s12]:List (List Int))) R Y31 bQ R ⟨[.slice ak s12.length aj],[],Zl K176 w175 [11],Zl K176 w175 [],R,Zl.sp (l1:=[11]) (l2:=[]) R,Zl.sr (l1:=[11]) (l2:=[]),⟨_,_,R,f178⟩,R⟩ λbm bl w221 K222 S223 f224=>Tv<|Ob h λx73 hx73 h=>Jy3 (κ:=K222) (E:=(Ep.own E6 2)) 10 [14] R Y31 bQ R (f157.stp<|T4 S162 S169 S177 S223) f224.src (dE R) hx73 R λaV ba w226 K227 S228 f229=>Tv<|Jd3 R U71 R Z31<|Ju3 (κ:=K227) 9 (off:=0) (vc:=[.slice aV x73.length ba]) (cs':=[.slice aV x73.length ba,.slice ab ([(⟨q2.2.1,q2.2.2⟩:Pair)]:List Pair).length aa]) R Z31 R (f220.stp<|S223.tr S228) R λw231 S232 f233=>Tv<|Jo<|Jz<|Jp<|Jf3 R ?_
 have hw146:yC .i64 (v44+1)=v44+1:=wr1 hj146 (Jm2 hc146) hN146
 rw[hw146]
 have hc146:=Jm2 hc146
 cases h
 exact Jz1 λa ha=>⟨k,_,Ja3 _,⟨K227,v44+1,x73,aV,ba,R,(T7 S156 S162 S169 S177 S223 S228 S232).wk R,(f229.stp S232),f233,by omega,by omega,hk159⟩,(ha.mm R)⟩
 rintro _ w149 ⟨K150,s9,ai,ah,rfl,S151,f152,f153,rfl⟩
 have h:=yI hK147
 refine Jp<|Je [1,1] R<|Jb4 tv R (Jc4 (haE f153.cells) I71 Z71 R)<|Jv3 (κ:=K150) 4 (vc:=[.slice ai s9.length ah,.slice ab ([(⟨q2.2.1,q2.2.2⟩:Pair)]:List Pair).length aa]) R Z71 R (f12.stp<|T8 S15 S18 S24 S29 S137 S141 S144 S151) R λw236 S237 f238=>Tv<|Jd<|Ju<|Ja2 (l:=[.cell 4 71]) V105 (bM R f238 I71 Z71 R R) R ?_
 cases h
 exact⟨(λb=>ren [(10,2),(8,3)]<|K150 b),ai,ah,ab,aa,R,((hE.stp<|T12 S3 S7 S11 S15 S18 S24 S29 S137 S141 S144 S151 S237).map (ren [(10,2),(8,3)]) R R),((f152.stp S237).map (ren [(10,2),(8,3)]) R R),((f138.stp<|T4 S141 S144 S151 S237).map (ren [(10,2),(8,3)]) R R)⟩
theorem oQ {a0 u0}{p0:(List Pair)}{a1 u1}{p1:(List Int)}{p2:Int}(g0:Rd Pair.rp κ w 0 a0 u0 p0) (g1:Rd (Rp.int .i64) κ w 0 a1 u1 p1){r:(List Int)}(h:ik p0 p1 p2=some r):Ret Tryz.prog 111 [.slice a0 p0.length u0,.slice a1 p1.length u1,vi p2] w (Pvs E6 2 κ w r):=by
 unfold ik at h
 refine Jk3 κ F111 R N111 R λhE=>Je3 R<|Je [1,1,2,2] R<|Jx3 (κ:=κ) (E:=E6) 2 R Y37 bG R λau ay w1 K2 S3 f4=>Tv<|Jx3 (κ:=K2) (E:=E6) 3 R Y37 bG R λao an w5 K6 S7 f8=>Tv<|Jb 2 R<|Jq<|Jg3 [2,2,2] 1 R<|Jn3 R U37 R R<|Jb 1 R ?_
 have hN9:(p1.length:Int)<=9223372036854775807:=g1.len_le
 refine Ob h λq2 hq11 hK10=>?_
 clear h
 refine Jx1 (λL w'=>∃κ',∃s3:(List Int)×(List Int),∃ak al aj am,L=[(7,.slice ak s3.1.length al),(8,.slice aj s3.2.length am)]/\Stp [2,3] K6 w5 κ' w'/\Oc E6 2 κ' w' 2 ak al s3.1/\Oc E6 2 κ' w' 3 aj am s3.2/\q2=yD s3) ?_ ?_
 refine Jv<|Jp3 [0,2,13,14] (λk E L w'=>∃κ' v15,∃s1:(List Int)×(List Int),∃ab aa ac ad,L=(7,.slice ab s1.1.length aa)::(8,.slice ac s1.2.length ad)::(15,vi v15)::E/\Stp [2,3] K6 w5 κ' w'/\Oc E6 2 κ' w' 2 ab aa s1.1/\Oc E6 2 κ' w' 3 ac ad s1.2/\0<=v15/\yG ((p1.length:Int)-v15)=k/\cntM (eQ p0 p1 p2) k v15 s1=some q2) ⟨_,_,⟨K6,0,((([]:List Int):(List Int)),(([]:List Int):(List Int))),au,ay,ao,an,R,Jj3,(f4.stp S7),f8,(by decide),(by simp),hq11⟩,(KM R)⟩ ?_
 rintro k _ w17 ⟨K18,v15,s1,ab,aa,ac,ad,rfl,S19,f20,f21,hj9,hJ9,h⟩
 rcases k with _ | k
 have hk23:=h;obtain⟨o9,h⟩:=bT (yD (yE s1):(List Int)⊕(((List Int)×(List Int))⊕((List Int)×(List Int))))
 have hc9:decide (v15<(p1.length:Int))=false:=Jo2 (by omega)
 refine Je3 R<|Jq<|Jw2 R hc9<|Jc1<|Jt<|Jt ?_
 cases h
 have h:=hk23
 refine Jb1 ?_
 cases h
 exact Jw1 _ ⟨K18,(s1.1,s1.2),ab,aa,ac,ad,R,S19.wk R,f20,f21,R⟩<|KM R
 obtain⟨o9,h,hk23⟩:=BI h;unfold eQ at h
 have hc9:decide (v15<(p1.length:Int))=true:=Jn2 (by omega)
 refine Je3 R<|Jq<|Jv2 R hc9<|Js<|Jp<|Jq<|Jv<|Je [2,1,2] R<|Ob h λx17 hx17 h=>Jc3 R g1 hx17 U37 Z2<|Jb3 R I2 ((g1.stp<|T3 S3 S7 S19).gInt hx17)<|Jb 1 R<|Jg3 [2,2,2,2,1,2,1] 2 R<|Ob h λx21 hx21 h=>Jc3 R g0 hx21 U69 Z127<|Jd3 R U127 R Z37 ?_
 obtain⟨cse26,hre26,hle26⟩:=((g0.stp (T3 S3 S7 S19))).gSt hx21
 obtain⟨ae26_0,ue26_0,ae26_1,ue26_1,rfl,fe26_0,fe26_1⟩:=Pair.un hre26
 refine Jb3 R I37 (λw' hw'=>hle26 w' hw' 1 _ R)<|Jn 1 R<|Ob h λx25 hx25 h=>Jr3 R C89 (ch (κ:=Mk K18) (Ji3 fe26_1) hx25) ?_
 rintro _ w27 ⟨k28,rfl,e29⟩
 obtain⟨K30,S31,m32⟩:=Ji e29 4 R
 refine Tv<|Jd<|Ob h λq4 h hK34=>Jo3 [0,2,13,14,15] (λE L w'=>∃κ' ai ae af ah,L=(7,.slice ai q4.1.length ae)::(8,.slice af q4.2.length ah)::E/\Stp [2,3] K30 w27 κ' w'/\Oc E6 2 κ' w' 2 ai ae q4.1/\Oc E6 2 κ' w' 3 af ah q4.2) ?_ ?_
 revert h
 cases ht40:x25
 refine JF λh=>Jy R<|Jh3 [2,2,1,1,2] 2 R<|Jw3 (κ:=K30) (E:=E6) 6 [] (parts:=[(0,.tmp 31)]) (cells:=[vi x17]) (xs:=([x17]:List Int)) R Y37 bG R ⟨[vi x17],[],Zl K30 w27 [],Zl K30 w27 [],R,Zl.sp (l1:=[]) (l2:=[]) R,Zl.sr (l1:=[]) (l2:=[]),R,R⟩ λaA aB w51 K52 S53 f54=>Tv<|Ob h λx33 hx33 h=>Jy3 (κ:=K52) (E:=E6) 3 [] R Y37 bG R (f21.stp<|S31.tr S53) (Sl.srcP (bP _) f54.rdc) bI hx33 R λav aw w56 K57 S58 f59=>Tv<|Jc 1 R ?_
 cases h
 exact Jw1 _ ⟨K57,ab,aa,av,aw,R,(S53.tr S58).wk R,(f20.stp<|T3 S31 S53 S58),f59⟩<|KM R
 refine JT λh=>Jx R<|Jh3 [2,2,1,1,2] 2 R<|Jw3 (κ:=K30) (E:=E6) 6 [] (parts:=[(0,.tmp 27)]) (cells:=[vi x17]) (xs:=([x17]:List Int)) R Y37 bG R ⟨[vi x17],[],Zl K30 w27 [],Zl K30 w27 [],R,Zl.sp (l1:=[]) (l2:=[]) R,Zl.sr (l1:=[]) (l2:=[]),R,R⟩ λaC az w41 K42 S43 f44=>Tv<|Ob h λx29 hx29 h=>Jy3 (κ:=K42) (E:=E6) 2 [] R Y37 bG R (f20.stp<|S31.tr S43) (Sl.srcP (bP _) f44.rdc) bI hx29 R λar aq w46 K47 S48 f49=>Tv<|Jc 1 R ?_
 cases h
 exact Jw1 _ ⟨K47,ar,aq,ac,ad,R,(S43.tr S48).wk R,f49,(f21.stp<|T3 S31 S43 S48)⟩<|KM R
 rintro _ w35 ⟨K36,ai,ae,af,ah,rfl,S37,f38,f39⟩
 have h:=hK34
 refine Jz<|Jp<|Jf3 R ?_
 have hw9:yC .i64 (v15+1)=v15+1:=wr1 hj9 (Jm2 hc9) hN9
 rw[hw9]
 have hc9:=Jm2 hc9
 cases h
 exact Jz1 λa ha=>⟨k,_,Ja3 _,⟨K36,v15+1,(q4.1,q4.2),ai,ae,af,ah,R,(T3 S19 S31 S37).wk R,f38,f39,by omega,by omega,hk23⟩,(ha.mm R)⟩
 rintro _ w12 ⟨K13,s3,ak,al,aj,am,rfl,S14,f15,f16,rfl⟩
 have h:=yI hK10
 refine Jp<|Jg3 [2,2,1,2] 2 R<|Ob h λx37 hx37 h=>Jy3 (κ:=K13) (E:=E6) 2 [] R Y37 bG R f15 (Sl.srcP (bP _) f16.rdc) bI hx37 R λax ap w61 K62 S63 f64=>Tv<|Jb 1 R<|Ju<|Ja2 (l:=[.tmp 6]) V111 (Jp2 R R) R ?_
 cases h
 exact⟨K62,ax,ap,R,(hE.stp<|T4 S3 S7 S14 S63),f64⟩
theorem dC {a0 u0}{p0:(List Place)}{c1_0:Int}{ab aa}{c1_1:(List Int)}{b1_0 b1_1}(g0:Rd Place.rp κ w 0 a0 u0 p0) (g1_1:Rd (Rp.int .i64) κ w 0 ab aa c1_1) (gb1_0:Bc κ w 0 b1_0 2 [vi c1_0]) (gb1_1:Bc κ w 0 b1_1 37 [.slice ab c1_1.length aa]){r:Int}(h:bZ p0 c1_0 c1_1=some r):Ret Tryz.prog 241 [.slice a0 p0.length u0,.func (.func 242) #[] #[.pointer (some ⟨b1_0,0,none⟩),.pointer (some ⟨b1_1,0,none⟩)]] w (Pvi κ w r):=by
 unfold bZ at h
 refine Jk3 κ F241 R N241 R λhE=>Je3 R<|Jq<|Jg3 [2,2,2] 1 R<|Jn3 R U80 R R<|Jb 1 R ?_
 have hN1:(p0.length:Int)<=9223372036854775807:=g0.len_le
 refine Ob h λq2 hq3 hK2=>?_
 clear h
 refine Jo3 [1] (λE L w'=>∃κ',L=E/\Stp [] κ w κ' w'/\q2=yD ()) ?_ ?_
 refine Jv<|Jp3 [0,1,7] (λk E L w'=>∃κ' v8,L=(8,vi v8)::E/\Stp [] κ w κ' w'/\0<=v8/\yG ((p0.length:Int)-v8)=k/\cntM (bW p0 c1_0 c1_1) k v8 ()=some q2) ⟨_,_,⟨κ,0,R,Jj3,(by decide),(by simp),hq3⟩,(KM R)⟩ ?_
 rintro k _ w7 ⟨K8,v8,rfl,S9,hj1,hJ1,h⟩
 rcases k with _ | k
 have hk10:=h;obtain⟨o1,h⟩:=bT (yD (yE ()):Int⊕((Unit)⊕(Unit)))
 have hc1:decide (v8<(p0.length:Int))=false:=Jo2 (by omega)
 refine Je3 R<|Jq<|Jw2 R hc1<|Jc1<|Jt<|Jt ?_
 cases h
 have h:=hk10
 refine Jb1 ?_
 cases h
 exact Jw1 _ ⟨K8,R,S9.wk R,R⟩<|KM R
 obtain⟨o1,h,hk10⟩:=BI h;unfold bW at h
 have hc1:decide (v8<(p0.length:Int))=true:=Jn2 (by omega)
 refine Je3 R<|Jq<|Jv2 R hc1<|Js<|Jp<|Jq<|Jv<|Je3 R<|Jg3 [2,2,2,2,1,1] 3 R<|Ob h λx14 hx14 h=>Jc3 R g0 hx14 U80 Z88 ?_
 obtain⟨cse12,hre12,hle12⟩:=((g0.stp S9)).gSt hx14
 obtain⟨ae12_0,ue12_0,rfl,fe12_0⟩:=Place.un hre12
 refine Jb4 tv R (Jc4 (haE hle12) I88 Z88 R)<|Ob h λx16 hx16 h=>WO.callV R R R R R R R R C242 (pD (κ:=Mk K8) (p0:=x14) (Ji3 fe12_0) (Ji3<|g1_1.stp S9) ((gb1_0.stp S9).map (mp [] 0) R R) ((gb1_1.stp S9).map (mp [] 0) R R) hx16) ?_
 rintro _ w16 ⟨k17,rfl,e18⟩
 obtain⟨K19,S20,m21⟩:=Ji e18 2 R
 refine Tv<|Jd ?_
 revert h
 cases ht23:x16
 refine JF λh=>Jy R<|Js<|Jz<|Jp<|Jf3 R ?_
 have hw1:yC .i64 (v8+1)=v8+1:=wr1 hj1 (Jm2 hc1) hN1
 rw[hw1]
 have hc1:=Jm2 hc1
 cases h
 exact Jz1 λa ha=>⟨k,_,Ja3 _,⟨K19,v8+1,R,(S9.tr S20).wk R,by omega,by omega,hk10⟩,(ha.mm R)⟩
 refine JT λh=>Jx R<|Je3 R<|Ju<|Ja1<|Jw<|Jw ?_
 cases h
 obtain rfl:=Option.some.inj hk10
 have h:=yL hK2
 refine Ja1<|Jq2<|Jw<|Ja2 (l:=[.tmp 4]) V241 (Jp2 R R) R ?_
 cases h
 exact⟨K19,R,(hE.stp<|S9.tr S20)⟩
 rintro _ w4 ⟨K5,rfl,S6,rfl⟩
 have h:=yI hK2
 refine Jp<|Je3 R<|Ju<|Ja2 (l:=[.tmp 4]) V241 (Jp2 R R) R ?_
 cases h
 exact⟨K5,R,(hE.stp S6)⟩
theorem o6 {a0 u0}{p0:(List Pair)}{a1 u1}{p1:(List Int)}{p2:Int}(g0:Rd Pair.rp κ w 0 a0 u0 p0) (g1:Rd (Rp.int .i64) κ w 0 a1 u1 p1){r:Int}(h:ip p0 p1 p2=some r):Ret Tryz.prog 113 [.slice a0 p0.length u0,.slice a1 p1.length u1,vi p2] w (Pvi κ w r):=by
 unfold ip at h
 refine Jk3 κ F113 R N113 R λhE=>Je3 R<|Je3 R<|Jq<|Jg3 [2,2,2] 1 R<|Jn3 R U37 R R<|Jb 1 R ?_
 have hN1:(p1.length:Int)<=9223372036854775807:=g1.len_le
 refine Ob h λq2 hq3 hK2=>?_
 clear h
 refine Jx1 (λL w'=>∃κ',∃s3:Int×Int,L=[(7,vi s3.1),(8,vi s3.2)]/\Stp [] κ w κ' w'/\q2=yD s3) ?_ ?_
 refine Jv<|Jp3 [0,2,11,12] (λk E L w'=>∃κ' v13,∃s1:Int×Int,L=(7,vi s1.1)::(8,vi s1.2)::(13,vi v13)::E/\Stp [] κ w κ' w'/\0<=v13/\yG ((p1.length:Int)-v13)=k/\cntM (eR p0 p1 p2) k v13 s1=some q2) ⟨_,_,⟨κ,0,(((-1):Int),((-1):Int)),R,Jj3,(by decide),(by simp),hq3⟩,(KM R)⟩ ?_
 rintro k _ w7 ⟨K8,v13,s1,rfl,S9,hj1,hJ1,h⟩
 rcases k with _ | k
 have hk10:=h;obtain⟨o1,h⟩:=bT (yD (yE s1):Int⊕((Int×Int)⊕(Int×Int)))
 have hc1:decide (v13<(p1.length:Int))=false:=Jo2 (by omega)
 refine Je3 R<|Jq<|Jw2 R hc1<|Jc1<|Jt<|Jt ?_
 cases h
 have h:=hk10
 refine Jb1 ?_
 cases h
 exact Jw1 _ ⟨K8,(s1.1,s1.2),R,S9.wk R,R⟩<|KM R
 obtain⟨o1,h,hk10⟩:=BI h;unfold eR at h
 have hc1:decide (v13<(p1.length:Int))=true:=Jn2 (by omega)
 refine Je3 R<|Jq<|Jv2 R hc1<|Js<|Jp<|Jq<|Jv<|Jg3 [2,2,1,2,2] 1 R<|Ob h λx16 hx16 h=>Jc3 R g1 hx16 U37 Z2<|Jb3 R I2 ((g1.stp S9).gInt hx16)<|Jb 2 R<|Jq<|Jg3 [2,2,2,2,1,2,1] 2 R<|Ob h λx20 hx20 h=>Jc3 R g0 hx20 U69 Z127<|Jd3 R U127 R Z37 ?_
 have f12:=g0.stp S9
 obtain⟨cse13,hre13,hle13⟩:=(f12).gSt hx20
 obtain⟨ae13_0,ue13_0,ae13_1,ue13_1,rfl,fe13_0,fe13_1⟩:=Pair.un hre13
 refine Jb3 R I37 (λw' hw'=>hle13 w' hw' 0 _ R)<|Jn 1 R<|Ob h λx24 hx24 h=>Jr3 R C89 (ch (κ:=Mk K8) (Ji3 fe13_0) hx24) ?_
 rintro _ w14 ⟨k15,rfl,e16⟩
 obtain⟨K17,S18,m19⟩:=Ji e16 2 R
 refine Tv<|Jd<|Ob h λq4 h hK21=>Jo3 [0,2,8,9,10,11,12,13] (λE L w'=>∃κ',L=(7,vi q4)::E/\Stp [] K17 w14 κ' w') ?_ ?_
 revert h
 cases ht25:x24
 refine JF λh=>Jy R<|Js ?_
 cases h
 exact Jw1 _ ⟨K17,R,Jj3⟩<|KM R
 refine JT λh=>Jx R<|Jf3 R ?_
 cases h
 exact Jw1 _ ⟨K17,R,Jj3⟩<|KM R
 rintro _ w22 ⟨K23,rfl,S24⟩
 have h:=hK21
 refine Jp<|Jg3 [2,2,2,2,1,2,1] 2 R<|Ob h λx28 hx28 h=>Jc3 R f12 hx28 U69 Z127<|Jd3 R U127 R Z37 ?_
 obtain⟨cse27,hre27,hle27⟩:=((f12.stp (S18.tr S24))).gSt hx28
 obtain⟨ae27_0,ue27_0,ae27_1,ue27_1,rfl,fe27_0,fe27_1⟩:=Pair.un hre27
 refine Jb3 R I37 (λw' hw'=>hle27 w' hw' 1 _ R)<|Jn 1 R<|Ob h λx32 hx32 h=>Jr3 R C89 (ch (κ:=Mk K23) (Ji3 fe27_1) hx32) ?_
 rintro _ w28 ⟨k29,rfl,e30⟩
 obtain⟨K31,S32,m33⟩:=Ji e30 4 R
 refine Tv<|Jd<|Ob h λq5 h hK35=>Jo3 [0,2,7,11,12,13] (λE L w'=>∃κ',L=(8,vi q5)::E/\Stp [] K31 w28 κ' w') ?_ ?_
 revert h
 cases ht39:x32
 refine JF λh=>Jy R<|Js ?_
 cases h
 exact Jw1 _ ⟨K31,R,Jj3⟩<|KM R
 refine JT λh=>Jx R<|Jf3 R ?_
 cases h
 exact Jw1 _ ⟨K31,R,Jj3⟩<|KM R
 rintro _ w36 ⟨K37,rfl,S38⟩
 have h:=hK35
 refine Jz<|Jp<|Jf3 R ?_
 have hw1:yC .i64 (v13+1)=v13+1:=wr1 hj1 (Jm2 hc1) hN1
 rw[hw1]
 have hc1:=Jm2 hc1
 cases h
 exact Jz1 λa ha=>⟨k,_,Ja3 _,⟨K37,v13+1,(q4,q5),R,(T5 S9 S18 S24 S32 S38).wk R,by omega,by omega,hk10⟩,(ha.mm R)⟩
 rintro _ w4 ⟨K5,s3,rfl,S6,rfl⟩
 have h:=yI hK2
 refine Jp<|Jq<|Jv<|Jg3 [2,2,2,2,2,2,2] 3 R<|Ob h λp41 h hK40=>Jq3 [7,8] (λE L w'=>L=(41,.bool p41)::E/\∃κ',Stp [] K5 w4 κ' w') [(3,2),(4,2),(5,2)] [(6,2)] tv ?_ ?_
 revert h
 cases ht41:decide (s3.1<0)
 refine JF λh=>Jn 3 R ?_
 cases h
 exact Jv1 _ tv ⟨R,_,Jj3⟩<|KM R
 refine JT λh=>Jn 3 R ?_
 cases h
 exact Jv1 _ tv ⟨R,_,Jj3⟩<|KM R
 rintro _ w42 _ ⟨rfl,K43,S44⟩
 have h:=hK40
 refine Jb 1 R ?_
 revert h
 cases ht45:p41
 refine JF λh=>Jy R<|Je3 R ?_
 revert h
 cases ht47:decide (s3.2<s3.1)
 refine JF λh=>Jy R<|Js<|Jz<|Jp<|Je3 R<|Ju<|Ja2 (l:=[.tmp 6]) V113 (Jp2 R R) R ?_
 cases h
 exact⟨K43,R,(hE.stp<|S6.tr S44)⟩
 refine JT λh=>Jx R<|Je3 R<|Ju<|Ja1<|Jw<|Ja2 (l:=[.tmp 6]) V113 (Jp2 R R) R ?_
 cases h
 exact⟨K43,R,(hE.stp<|S6.tr S44)⟩
 refine JT λh=>Jx R<|Je3 R<|Ju<|Ja1<|Jw<|Ja2 (l:=[.tmp 6]) V113 (Jp2 R R) R ?_
 cases h
 exact⟨K43,R,(hE.stp<|S6.tr S44)⟩
theorem o7 (n:Nat):∀{w:World}{κ:Col}{ai ad af aj aa ac ab ak}{p0:solver}{a1 u1}{p1:(List Bool)}{b0}(g0_0_0_0:Rd (Rp.int .i64) κ w 0 ai ad p0.game.Arena.Owner) (g0_0_0_1:Rd (Rp.sl (Rp.int .i64)) κ w 0 af aj p0.game.Arena.Next) (g0_0_1:Rd (Rp.int .i64) κ w 0 aa ac p0.game.Prio) (g0_1:Rd (Rp.sl (Rp.int .i64)) κ w 0 ab ak p0.preds) (g1:Rd Rp.bool κ w 0 a1 u1 p1) (gb0:Bc κ w 0 b0 193 [.slice ai p0.game.Arena.Owner.length ad,.slice af p0.game.Arena.Next.length aj,.slice aa p0.game.Prio.length ac,.slice ab p0.preds.length ak]){r:(List Bool)×Int}(h:dk n p0 p1=some r),Ret Tryz.prog 178 [.pointer (some ⟨b0,0,none⟩),.slice a1 p1.length u1] w (λv w'=>∃(κ':Col) (ra0:Option Addr) (ru0:Nat),v= .tuple #[.slice ra0 r.1.length ru0,vi r.2]/\Ent κ w κ' w'/\Rd Rp.bool κ' w' 0 ra0 ru0 r.1):=by
 induction n with
 | zero=>
  intro w κ ai ad af aj aa ac ab ak p0 a1 u1 p1 b0 g0_0_0_0 g0_0_0_1 g0_0_1 g0_1 g1 gb0 r h
  cases h
 | succ n ih=>
  intro w κ ai ad af aj aa ac ab ak p0 a1 u1 p1 b0 g0_0_0_0 g0_0_0_1 g0_0_1 g0_1 g1 gb0 r h
  have h:dx (dk n) p0 p1=some r:=h
  unfold dx at h
  refine Jk3 κ F178 R N178 R λhE=>Je3 R<|Jg3 [2,1,2] 1 R<|Ob h λx17 hx17 h=>Jr3 R C179 (gH (κ:=Mk κ) (Ji3 g1) hx17) ?_
  rintro _ w1 ⟨k2,aE,aI,rfl,e3,f4⟩
  obtain⟨K5,S6,m7⟩:=Ji e3 2 R
  refine Tv<|Jb 1 R<|Jq<|Jg3 [2,2,2] 1 R<|Jn3 R U37 R R<|Jb 1 R ?_
  revert h
  cases ht10:((x17.length:Int)==0)
  refine JF λh=>Jy R<|Js<|Jp<|Jg3 [2,2,2,1,2,1,2] 1 R<|Jf R (cr R R)<|Jd3 R U193 R Z79 ?_
  have f13:=gb0.stp S6
  refine Jb4 tv R (Jc4 (haE<|f13.lds 0 3 R) I79 Z79 R)<|Jn 1 R<|Ob h λx27 hx27 h=>?_
  have f14:=g0_0_0_0.stp S6
  have f15:=g0_0_0_1.stp S6
  have f16:=g0_0_1.stp S6
  refine Jr3 R C243 (tY (κ:=Mk K5) (p0:=p0.game) (Ji3 f14) (Ji3 f15) (Ji3 f16) (Ji3 (f4.mx (bL _) m7 R (R:2+2=4)).rdc) hx27) ?_
  rintro _ w17 ⟨k18,rfl,e19⟩
  obtain⟨K20,S21,m22⟩:=Ji e19 5 R
  refine Tv<|Jb 1 R<|Jg3 [2,2,2] 1 R<|Jf R (tJ R R R (by decide))<|Jb 1 R<|Je [1,2,1,2] R<|Jx3 (κ:=K20) (E:=Ep.bool) 7 R Y178 du R λaF az w24 K25 S26 f27=>Tv<|Jn 1 R<|Ob h λx32 hx32 h=>Jy3 (κ:=K25) (E:=Ep.bool) 7 [] R Y178 du R f27 (Sl.srcP uu<|g1.stp<|T3 S6 S21 S26) bI hx32 R λau av w29 K30 S31 f32=>Tv<|Jb 1 R<|Ob h λq2 hq35 hK34=>?_
  clear h
  refine Jv<|Jp3 [0,1,7,8] (λk E L w'=>∃κ',∃s1:(List Bool),∃ah ae,L=(9,.slice ah s1.length ae)::E/\Stp [8,14,20,25] K30 w29 κ' w'/\Oc Ep.bool 4 κ' w' 7 ah ae s1/\ca (eS (dk n) p0 p1 x27) k s1=some q2) ⟨_,_,⟨K30,x32,au,av,R,Jj3,f32,hq35⟩,(KM R)⟩ ?_
  rintro k _ w36 ⟨K37,s1,ah,ae,rfl,S38,f39,h⟩
  rcases k with _ | k
  cases h
  obtain⟨o33,h,hk40⟩:=BI h;unfold eS at h
  refine Jv<|Jg3 [2,2,1,2] 1 R<|Jn3 R U178 R R<|Ob h λx35 hx35 h=>Jl1 (κ:=K37) (E:=Ep.bool) (z:=(false:Bool)) 8 R R R R R R R Y178 du R R R R R (λ_ _ _=>R) (Ju2 hx35) λaq ao w41 K42 S43 f44=>Tv<|Jb 1 R<|Jq<|Jg3 [2,2,2] 1 R<|Jn3 R U178 R R<|Jb 1 R ?_
  have hN45:(x35.length:Int)<=9223372036854775807:=f44.len_le
  refine Ob h λq5 hq47 hK46=>?_
  clear h
  refine Jo3 [0,1,7,8,9,10] (λE L w'=>∃κ',∃s6:(List Bool),L=E/\Stp [8] K42 w41 κ' w'/\Oc Ep.bool 4 κ' w' 8 aq ao s6/\x35.length=s6.length/\q5=yD s6) ?_ ?_
  refine Jv<|Jp3 [0,1,7,8,9,10,37] (λk E L w'=>∃κ' v38,∃s4:(List Bool),L=(38,vi v38)::E/\Stp [8] K42 w41 κ' w'/\Oc Ep.bool 4 κ' w' 8 aq ao s4/\x35.length=s4.length/\0<=v38/\yG ((x35.length:Int)-v38)=k/\cntM (eT p0 x27 s1) k v38 s4=some q5) ⟨_,_,⟨K42,0,x35,R,Jj3,f44,R,(by decide),(by simp),hq47⟩,(KM R)⟩ ?_
  rintro k _ w53 ⟨K54,v38,s4,rfl,S55,f56,hn57,hj45,hJ45,h⟩
  rcases k with _ | k
  have hk58:=h;obtain⟨o45,h⟩:=bT (yD (yE s4):((List Bool)×Int)⊕(((List Bool))⊕((List Bool))))
  have hc45:decide (v38<(x35.length:Int))=false:=Jo2 (by omega)
  refine Je3 R<|Jq<|Jw2 R hc45<|Jc1<|Jt<|Jt ?_
  cases h
  have h:=hk58
  refine Jb1 ?_
  cases h
  exact Jw1 _ ⟨K54,s4,R,S55.wk R,f56,hn57,R⟩<|KM R
  obtain⟨o45,h,hk58⟩:=BI h;unfold eT at h
  have hc45:decide (v38<(x35.length:Int))=true:=Jn2 (by omega)
  refine Je3 R<|Jq<|Jv2 R hc45<|Js<|Jp<|Jq<|Jv<|Je3 R<|Jh3 [2,2,2,2,2,1,2,2,2,2,2,1,2,2,1,2,2,2,2,1] 4 R<|Ob h λx45 hx45 h=>Jc3 R f39.rdc hx45 U178 Z4<|Jb3 R I4 ((f39.stp<|S43.tr S55).rdc.gBool hx45)<|Jn 1 R<|Ob h λp58 h hK60=>Jq3 [0,1,7,8,9,10,37,38,41,42] (λE L w'=>L=(58,.bool p58)::E/\∃κ',Stp [] K54 w53 κ' w') [(7,2),(8,2),(9,2),(10,2),(11,1),(12,2),(13,2),(14,1),(15,2),(16,2),(17,2)] [(18,2),(19,1)] tv ?_ ?_
  revert h
  cases ht61:x45
  refine JF λh=>Jn 4 R<|Jz3 R<|Jn 2 R<|Jz3 R<|Jn 3 R ?_
  cases h
  exact Jv1 _ tv ⟨R,_,Jj3⟩<|KM R
  have S001:=(T6 S21 S26 S31 S38 S43 S55)
  refine JT λh=>Jn 1 R<|Jf R (cr R R)<|Jd3 R U193 R Z79<|Jd3 R U79 R Z37<|Jb3 R I37 ((f13.stp S001).ld 2 R R)<|Jn 1 R<|Ob h λx54 hx54 h=>Jc3 R f16 hx54 U37 Z2<|Jb3 R I2 ((f16.stp S001).gInt hx54)<|Jn 3 R ?_
  cases h
  exact Jv1 _ tv ⟨R,_,Jj3⟩<|KM R
  rintro _ w64 _ ⟨rfl,K65,S66⟩
  have h:=hK60
  refine Ob h λx59 hx59 h=>Jf R (Jf2 f56.rdc hx59 U178 Z4 R R hn57 R)<|Ob h λy128 hy128 h=>Jk1 (κ:=K65) (E:=Ep.bool) 8 [] R R R R R R R R Z4 R R R R (f56.stp S66) hy128 λw68 K69 S70 f71=>Tv<|?_
  have hn72:x35.length=y128.length:=hn57.trans (Jt2 hy128).2.2.2.symm
  refine Jo<|Jz<|Jp<|Jf3 R ?_
  have hw45:yC .i64 (v38+1)=v38+1:=wr1 hj45 (Jm2 hc45) hN45
  rw[hw45]
  have hc45:=Jm2 hc45
  cases h
  exact Jz1 λa ha=>⟨k,_,Ja3 _,⟨K69,v38+1,y128,R,(T3 S55 S66 S70).wk R,f71,hn72,by omega,by omega,hk58⟩,(ha.mm R)⟩
  rintro _ w48 ⟨K49,s6,rfl,S50,f51,hn52,rfl⟩
  have h:=yI hK46
  refine Jp<|Jg3 [2,2,2,2,2,1,1,2] 5 R<|Ob h λx66 hx66 h=>?_
  have f73:=f14.stp (T6 S21 S26 S31 S38 S43 S50)
  have f74:=f15.stp (T6 S21 S26 S31 S38 S43 S50)
  have f75:=f16.stp (T6 S21 S26 S31 S38 S43 S50)
  have f76:=g0_1.stp (T7 S6 S21 S26 S31 S38 S43 S50)
  have f77:=f39.stp (S43.tr S50)
  have f78:=f13.stp (T6 S21 S26 S31 S38 S43 S50)
  refine Jr3 R C244 (Ret.cast (by simp only[hn52,List.cons_append,List.nil_append])<|kK (κ:=Mk K49) (p0:=p0) (Ji3 f73) (Ji3 f74) (Ji3 f75) (Ji3 f76) (Ji3 f77.rdc) (Ji3 f51.rdc) (f78.map (mp [] 0) R R) hx66) ?_
  rintro _ w79 ⟨k80,aB,aD,rfl,e81,f82⟩
  obtain⟨K83,S84,m85⟩:=Ji e81 9 R
  refine Tv<|Ob h λx67 hx67 h=>?_
  have f88:=f77.stp S84
  refine Jr3 R C180 (iv (κ:=Mk K83) (Ji3 f88.rdc) (Ji3 (f82.mx dU m85 R (R:9+2=11)).rdc) hx67) ?_
  rintro _ w89 ⟨k90,aC,aH,rfl,e91,f92⟩
  obtain⟨K93,S94,m95⟩:=Ji e91 12 R
  refine Tv<|Jb 1 R<|Jg3 [2,2,1,2,2,2,2,2] 2 R ?_
  obtain⟨K98,S99,z100⟩:=fV K93 w89 14
  have f101:=Sl.st z100 (f92.mx dU m95 R (R:12+2=14)).rdc
  refine Ob h λx71 hx71 h=>?_
  have f102:=f73.stp (T3 S84 S94 S99)
  have f103:=f74.stp (T3 S84 S94 S99)
  have f104:=f75.stp (T3 S84 S94 S99)
  have f105:=f76.stp (T3 S84 S94 S99)
  have f106:=f78.stp (T3 S84 S94 S99)
  refine Jr3 R C178 (ih (κ:=λb=>mp [] 1<|K98 b) (p0:=p0) (Jl2 f102 (mp [] 1) R R) (Jl2 f103 (mp [] 1) R R) (Jl2 f104 (mp [] 1) R R) (Jl2 f105 (mp [] 1) R R) (Jl2 f101 (mp [] 1) R R) (f106.map (mp [] 1) R R) hx71) ?_
  rintro _ w107 ⟨k108,aw,ar,rfl,e109,f110⟩
  obtain⟨K111,S112,m113,z114⟩:=Jj e109 15 R
  refine Tv<|?_
  have f115:=f110.mx z114
  refine Jb 5 R<|Je3 R<|Jq<|Je3 R<|Ob h λq7 h hK116=>Jo3 [0,1,7,8,9] (λE L w'=>∃κ' am al,L=(15,.slice am q7.length al)::E/\Stp [20] K111 w107 κ' w'/\Rd Rp.bool κ' w' 0 am al q7) ?_ ?_
  revert h
  cases ht121:(x71.2==(Int.tmod x27 2))
  refine JF λh=>Jy R<|Js ?_
  cases h
  exact Jw1 _ ⟨K111,aw,ar,R,Jj3,f115⟩<|KM R
  refine JT λh=>Jx R<|Jh3 [2,2,1,2] 2 R<|Ob h λx80 hx80 h=>Jr3 R C180 (iv (κ:=Mk K111) (Ji3<|f101.stp S112) (Ji3 f115) hx80) ?_
  rintro _ w123 ⟨k124,ay,ax,rfl,e125,f126⟩
  obtain⟨K127,S128,m129⟩:=Ji e125 18 R
  refine Tv<|Jc 1 R ?_
  obtain⟨K132,S133,z134⟩:=fV K127 w123 20
  cases h
  exact Jw1 _ ⟨K132,ay,ax,R,(S128.tr S133).wk R,(Sl.st z134 (f126.mx dU m129 R (R:18+2=20)).rdc)⟩<|KM R
  rintro _ w117 ⟨K118,am,al,rfl,S119,f120⟩
  have h:=hK116
  refine Jp<|Jq<|Jg3 [2,1,2] 1 R<|Ob h λx82 hx82 h=>Jr3 R C245 (eO (κ:=Mk K118) (Ji3 f120) hx82) ?_
  rintro _ w136 ⟨k137,rfl,e138⟩
  obtain⟨K139,S140,m141⟩:=Ji e138 18 R
  refine Tv<|Jb 1 R ?_
  revert h
  cases ht143:(!x82)
  refine JF λh=>Jy R<|Js<|Jp<|Jg3 [2,2,2,2,2,2,1,1,2] 6 R<|Ob h λx92 hx92 h=>?_
  have f156:=f88.stp (T5 S94 S99 S112 S119 S140)
  have S002:=(T3 S112 S119 S140)
  refine Jr3 R C244 (kK (κ:=Mk K139) (p0:=p0) (Ji3<|f102.stp S002) (Ji3<|f103.stp S002) (Ji3<|f104.stp S002) (Ji3<|f105.stp S002) (Ji3 f156.rdc) (Ji3<|f120.stp S140) ((f106.stp S002).map (mp [] 0) R R) hx92) ?_
  rintro _ w159 ⟨k160,aG,aA,rfl,e161,f162⟩
  obtain⟨K163,S164,m165⟩:=Ji e161 20 R
  refine Tv<|Ob h λx93 hx93 h=>Jr3 R C180 (iv (κ:=Mk K163) (Ji3 (f156.stp S164).rdc) (Ji3 (f162.mx dU m165 R (R:20+2=22)).rdc) hx93) ?_
  rintro _ w169 ⟨k170,ap,an,rfl,e171,f172⟩
  obtain⟨K173,S174,m175⟩:=Ji e171 23 R
  refine Tv<|?_
  have f177:=f172.mx dU m175 R (R:23+2=25)
  refine Jb 1 R<|Jg3 [2,1,2] 1 R<|Ob h λx95 hx95 h=>Jr3 R C245 (eO (κ:=Mk K173) (Ji3 f177.rdc) hx95) ?_
  rintro _ w178 ⟨k179,rfl,e180⟩
  obtain⟨K181,S182,m183⟩:=Ji e180 26 R
  refine Tv<|Jb 1 R ?_
  revert h
  cases ht185:(!x95)
  refine JF λh=>Jy R<|Js<|Jz ?_
  cases h
  exact Jz1 λa ha=>⟨k,_,Ja3 _,⟨(λb=>ren [(25,7)]<|K181 b),x93,ap,an,R,(Jy2 ((T12 S38 S43 S50 S84 S94 S99 S112 S119 S140 S164 S174 S182).wk R) [(25,7)] R),((f177.stp S182).map (ren [(25,7)]) R R),hk40⟩,(ha.mm R)⟩
  refine JT λh=>Jx R<|Je3 R<|Ju<|Ja1<|Jw ?_
  cases h
  obtain rfl:=Option.some.inj hk40
  have h:=yL hK34
  refine Ja1 ?_
  obtain⟨K187,S188,z189⟩:=fV K181 w178 25
  refine Ja2 (l:=[.tmp 4,.tmp 5]) V178 (Jp2 R<|Jp2 R R) R ?_
  cases h
  exact⟨K187,ap,an,R,(hE.stp<|S6.tr<|S21.tr<|S26.tr<|S31.tr<|S38.tr<|S43.tr<|S50.tr<|S84.tr<|S94.tr<|S99.tr<|S112.tr<|S119.tr<|S140.tr<|S164.tr<|S174.tr<|S182.tr S188),(Sl.st z189 (f177.stp S182).rdc)⟩
  refine JT λh=>Jx R<|Je3 R<|Ju<|Jw<|Ja1<|Jw ?_
  cases h
  obtain rfl:=Option.some.inj hk40
  have h:=yL hK34
  refine Ja1 ?_
  obtain⟨K146,S147,z148⟩:=fV K139 w136 7
  refine Ja2 (l:=[.tmp 4,.tmp 5]) V178 (Jp2 R<|Jp2 R R) R ?_
  cases h
  exact⟨K146,ah,ae,R,(hE.stp<|T14 S6 S21 S26 S31 S38 S43 S50 S84 S94 S99 S112 S119 S140 S147),(Sl.st z148 (f88.stp<|T5 S94 S99 S112 S119 S140).rdc)⟩
  refine JT λh=>Jx R<|Je3 R<|Ju<|Jw<|Ja2 (l:=[.tmp 4,.tmp 5]) V178 (Jp2 R<|Jp2 R R) R ?_
  cases h
  exact⟨K5,a1,u1,R,(hE.stp S6),(g1.stp S6)⟩
theorem mc {p0:Sig}{a1 u1}{p1:(List Int)}(g1:Rd (Rp.int .i64) κ w 0 a1 u1 p1){r:Bool}(h:gG p0 p1=some r):Ret Tryz.prog 54 [.agg #[vi p0.In,vi p0.Out],.slice a1 p1.length u1] w (Pvb κ w r):=by
 unfold gG at h
 refine Jk3 κ F54 R N54 R λhE=>Je [1,2] R<|Js3 (κ:=κ) 2 R λb2 w1 K2 S3 f4=>Tv<|Jb 1 R<|Jg3 [2,2,2,2,2,1,1,1,2,2] 1 R<|Jn3 R U37 R R<|Jn 2 R<|Ob h λp13 h hK5=>Jq3 [4] (λE L w'=>L=(13,.bool p13)::E/\∃κ',Stp [] K2 w1 κ' w') [(4,2),(5,1),(6,1),(7,1),(8,2)] [(9,2)] tv ?_ ?_
 revert h
 cases ht6:decide ((p1.length:Int)<=600)
 refine JF λh=>Jn 1 R<|Jz3 R<|Jz3 R<|Jz3 R<|Jn 1 R ?_
 cases h
 exact Jv1 _ tv ⟨R,_,Jj3⟩<|KM R
 refine JT λh=>Jn 1 R<|Jb4 tv R (Jc4 (haE f4.cells) I28 Z28 R)<|Ob h λx11 hx11 h=>Jr3 R C60 (my (κ:=Mk K2) (p0:=p0) hx11) ?_
 rintro _ w7 ⟨k8,rfl,e9⟩
 obtain⟨K10,S11,m12⟩:=Ji e9 3 R
 refine Tv<|Ob h λx12 hx12 h=>Jr3 R C61 (eW (κ:=Mk K10) (Ji3<|g1.stp<|S3.tr S11) hx12) ?_
 rintro _ w15 ⟨k16,rfl,e17⟩
 obtain⟨K18,S19,m20⟩:=Ji e17 5 R
 refine Tv<|Jn 1 R ?_
 cases h
 exact Jv1 _ tv ⟨R,_,(S11.tr S19).wk R⟩<|KM R
 rintro _ w22 _ ⟨rfl,K23,S24⟩
 have h:=hK5
 refine Jb 1 R<|Ju<|Ja2 (l:=[.tmp 4]) V54 (Jp2 R R) R ?_
 cases h
 exact⟨K23,R,(hE.stp<|S3.tr S24)⟩
theorem lO {p0:Sig}{af ai ae ah}{p1:Machine}{p2:Int}{a3 u3}{p3:(List Int)}(g1_0:Rd (Rp.sl (Rp.int .i64)) κ w 0 af ai p1.Next) (g1_1:Rd (Rp.sl (Rp.int .i64)) κ w 0 ae ah p1.Out) (g3:Rd (Rp.int .i64) κ w 0 a3 u3 p3){r:(List Int)}(h:fR p0 p1 p2 p3=some r):Ret Tryz.prog 57 [.agg #[vi p0.In,vi p0.Out],.agg #[.slice af p1.Next.length ai,.slice ae p1.Out.length ah],vi p2,.slice a3 p3.length u3] w (Pvs E6 2 κ w r):=by
 unfold fR at h
 refine Jk3 κ F57 R N57 R λhE=>Je [1,1,2] R<|Js3 (κ:=κ) 2 R λb4 w1 K2 S3 f4=>Tv<|Js3 (κ:=K2) 3 R λb5 w5 K6 S7 f8=>Tv<|Jb 1 R<|Je [1,2] R<|Jx3 (κ:=K6) (E:=E6) 4 R Y37 bG R λam ak w9 K10 S11 f12=>Tv<|Jb 1 R<|Jq<|Je3 R ?_
 have hN13:(p3.length:Int)<=9223372036854775807:=g3.len_le
 refine Ob h λq2 hq15 hK14=>?_
 clear h
 refine Jx1 (λL w'=>∃κ',∃s3:Int×(List Int),∃ad ab,L=[(9,.slice ad s3.2.length ab)]/\Stp [4] K10 w9 κ' w'/\Oc E6 2 κ' w' 4 ad ab s3.2/\q2=yD s3) ?_ ?_
 refine Jv<|Jp3 [3,4,5] (λk E L w'=>∃κ' v10,∃s1:Int×(List Int),∃ac aa,L=(2,vi s1.1)::(9,.slice ac s1.2.length aa)::(10,vi v10)::E/\Stp [4] K10 w9 κ' w'/\Oc E6 2 κ' w' 4 ac aa s1.2/\0<=v10/\yG ((p3.length:Int)-v10)=k/\cntM (eN p0 p1 p3) k v10 s1=some q2) ⟨_,_,⟨K10,0,(p2,(([]:List Int):(List Int))),am,ak,R,Jj3,f12,(by decide),(by simp),hq15⟩,(KM R)⟩ ?_
 rintro k _ w20 ⟨K21,v10,s1,ac,aa,rfl,S22,f23,hj13,hJ13,h⟩
 rcases k with _ | k
 have hk24:=h;obtain⟨o13,h⟩:=bT (yD (yE s1):(List Int)⊕((Int×(List Int))⊕(Int×(List Int))))
 have hc13:decide (v10<(p3.length:Int))=false:=Jo2 (by omega)
 refine Jq<|Jg3 [2,2,2,2] 2 R<|Jn3 R U37 R R<|Jb 1 R<|Jw2 R hc13<|Jc1<|Jt<|Jt ?_
 cases h
 have h:=hk24
 refine Jb1 ?_
 cases h
 exact Jw1 _ ⟨K21,(s1.1,s1.2),ac,aa,R,S22.wk R,f23,R⟩<|KM R
 obtain⟨o13,h,hk24⟩:=BI h;unfold eN at h
 have hc13:decide (v10<(p3.length:Int))=true:=Jn2 (by omega)
 refine Jq<|Jg3 [2,2,2,2] 2 R<|Jn3 R U37 R R<|Jb 1 R<|Jv2 R hc13<|Js<|Jp<|Jq<|Jv<|Jq<|Js1 (κ:=K21) [0,2,3] none [(0,2),(1,2),(3,2),(6,2),(7,2),(8,2),(15,2),(16,2),(17,2),(2,0),(4,2),(5,0),(9,0),(10,2),(11,0),(12,0),(18,0),(13,1),(14,2),(19,2),(20,1),(21,1),(22,2)] [] (by kernel_rfl) (by kernel_rfl) λw26 S25=>Jn 1 R<|Jd3 R U33 R Z31<|Jn 3 R<|Ob h λx26 hx26 h=>Jc3 R g3 hx26 U37 Z2<|Jn 2 R<|Ob h λx35 hx35 h=>Jc3 R g3 hx35 U37 Z2 ?_
 have f27:=f8.stp (T3 S11 S22 S25)
 refine Jg R (Jc2 I31 R R<|hvC (f27.ld 1 R R) R)<|Ob h λx22 hx22 h=>Jc3 R g1_1 hx22 U31 Z37 ?_
 obtain⟨ax22,ux22,f29,hl30⟩:=(g1_1.stp (T5 S3 S7 S11 S22 S25)).gSl hx22
 refine Jg R (Jc2 I37 R R<|hvC hl30 R) ?_
 have f31:=g3.stp (T5 S3 S7 S11 S22 S25)
 refine Jg R (Jc2 I2 R R<|hvC (f31.gInt hx26) R)<|Ob h λx28 hx28 h=>Jc3 R f29 hx28 U37 Z2<|Jg R (Jc2 I2 R R<|hvC (f29.gInt hx28) R)<|Jg R (Jc4 (haC (f4.stp<|T4 S7 S11 S22 S25).cells R) I28 Z28 R)<|Jg R (Jc2 I2 R R<|hvC (f31.gInt hx35) R)<|Ob h λx31 hx31 h=>Jr3 R C60 (my (κ:=Mk K21) (p0:=p0) hx31) ?_
 rintro _ w33 ⟨k34,rfl,e35⟩
 obtain⟨K36,S37,m38⟩:=Ji e35 5 R
 refine⟨(S37.cl R),Jn 2 R<|Jw3 (κ:=K36) (E:=E6) 7 [] (parts:=[(0,.tmp 37)]) (cells:=[vi<|IntKind.i64.wrap ((IntKind.i64.wrap<|x28 * x31)+x35)]) (xs:=([(IntKind.i64.wrap ((IntKind.i64.wrap<|x28 * x31)+x35))]:List Int)) R Y37 bG R ⟨[vi<|IntKind.i64.wrap ((IntKind.i64.wrap<|x28 * x31)+x35)],[],Zl K36 w33 [],Zl K36 w33 [],R,Zl.sp (l1:=[]) (l2:=[]) R,Zl.sr (l1:=[]) (l2:=[]),R,R⟩ λan ao w40 K41 S42 f43=>⟨((S37.tr S42).cl R),Ob h λx39 hx39 h=>Jy3 (κ:=K41) (E:=E6) 4 [] R Y37 bG R (f23.stp<|T3 S25 S37 S42) (Sl.srcP (bP _) f43.rdc) bI hx39 R λal aj w45 K46 S47 f48=>⟨((T3 S37 S42 S47).cl R),Jn 1 R<|Jt1<|Jd<|Js1 (κ:=K46) [0,3] none [(0,2),(2,2),(5,2),(6,2),(7,2),(1,0),(3,2),(4,0),(8,0),(9,2),(10,0),(11,2)] [] (by kernel_rfl) (by kernel_rfl) λw50 S49=>Jd3 R U33 R Z31<|Jn 3 R<|Ob h λx47 hx47 h=>Jc3 R f31 hx47 U37 Z2<|Jg R (Jc2 I31 R R<|hvC ((f27.stp<|T4 S37 S42 S47 S49).ld 0 R R) R)<|Ob h λx43 hx43 h=>Jc3 R g1_0 hx43 U31 Z37 ?_⟩⟩⟩
 obtain⟨ax43,ux43,f53,hl54⟩:=(g1_0.stp (T9 S3 S7 S11 S22 S25 S37 S42 S47 S49)).gSl hx43
 refine Jg R (Jc2 I37 R R<|hvC hl54 R)<|Jg R (Jc2 I2 R R<|hvC ((f31.stp<|T4 S37 S42 S47 S49).gInt hx47) R)<|Ob h λx49 hx49 h=>Jc3 R f53 hx49 U37 Z2<|Jg R (Jc2 I2 R R<|hvC (f53.gInt hx49) R)<|Jn 1 R<|Jt1<|Jo<|Jz<|Jp<|Jf3 R ?_
 have hw13:yC .i64 (v10+1)=v10+1:=wr1 hj13 (Jm2 hc13) hN13
 rw[hw13]
 have hc13:=Jm2 hc13
 cases h
 exact Jz1 λa ha=>⟨k,_,Ja3 _,⟨K46,v10+1,(x49,x39),al,aj,R,(T6 S22 S25 S37 S42 S47 S49).wk R,(f48.stp S49),by omega,by omega,hk24⟩,(ha.mm R)⟩
 rintro _ w16 ⟨K17,s3,ad,ab,rfl,S18,f19,rfl⟩
 have h:=yI hK14
 refine Jp<|Je3 R<|Ju<|Ja2 (l:=[.tmp 8]) V57 (Jp2 R R) R ?_
 cases h
 exact⟨(λb=>ren [(4,2)]<|K17 b),ad,ab,R,((hE.stp<|T4 S3 S7 S11 S18).map (ren [(4,2)]) R R),(f19.map (ren [(4,2)]) R R)⟩
end Go.Proofs.YtleekpaohfpooaaGreat
