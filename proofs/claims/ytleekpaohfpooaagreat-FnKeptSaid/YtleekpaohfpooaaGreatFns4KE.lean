/- The walks, part 4. By program. -/
import Derived.Test.YtleekpaohfpooaaGreatFns2KE
import Derived.Test.YtleekpaohfpooaaGreatFns3KE
set_option linter.unusedVariables false
set_option linter.unusedSimpArgs false
open Go.IntKind renaming wrap → yC
open Sum renaming inr → yD, inl → yE
open Int renaming toNat → yG
namespace Go.Proofs.YtleekpaohfpooaaGreat
open Go Go.Wk Go.Proofs
set_option maxRecDepth 100000
set_option maxHeartbeats 1000000
variable {w:World}{κ:Col}
theorem jE {aF aK aG aS}{p0:Det}{ap aB ax aq}{p1:Det}(g0_0:Rd (Rp.sl (Rp.int .i64)) κ w 0 aF aK p0.Next) (g0_1:Rd Pair.rp κ w 0 aG aS p0.Pairs) (g1_0:Rd (Rp.sl (Rp.int .i64)) κ w 0 ap aB p1.Next) (g1_1:Rd Pair.rp κ w 0 ax aq p1.Pairs){r:Det×Bool}(h:gL p0 p1=some r):Ret Tryz.prog 104 [.agg #[.slice aF p0.Next.length aK,.slice aG p0.Pairs.length aS],.agg #[.slice ap p1.Next.length aB,.slice ax p1.Pairs.length aq]] w (λv w'=>∃(κ':Col) (ra0:Option Addr) (ru0:Nat) (ra1:Option Addr) (ru1:Nat),v= .tuple #[.agg #[.slice ra0 r.1.Next.length ru0,.slice ra1 r.1.Pairs.length ru1],.bool r.2]/\Ent κ w κ' w'/\Oc (Ep.own E6 2) 37 κ' w' 2 ra0 ru0 r.1.Next/\Oc Pair.ep127 127 κ' w' 3 ra1 ru1 r.1.Pairs):=by
 unfold gL at h
 refine Jk3 κ F104 R N104 R λhE=>Je [1,1,1,2] R<|Js3 (κ:=κ) 2 R λb2 w1 K2 S3 f4=>Tv<|Js3 (κ:=K2) 3 R λb3 w5 K6 S7 f8=>Tv<|Jt3 (κ:=K6) 4 R X71 R λb4 w9 K10 S11 f12=>Tv<|Jb 1 R<|Jq<|Je [2,1,2,2,1,2,2,2] R<|Jd3 R U71 R Z69 ?_
 have f13:=f4.stp (S7.tr S11)
 refine Jb3 R I69 (f13.ld 1 R R)<|Jn3 R U69 R R<|Jd3 R U71 R Z69 ?_
 have f14:=f8.stp S11
 refine Jb3 R I69 (f14.ld 1 R R)<|Jn3 R U69 R R<|Jb 2 R ?_
 revert h
 cases ht15:decide (4<(IntKind.i64.wrap ((p0.Pairs.length:Int)+(p1.Pairs.length:Int))))
 refine JF λh=>Jy R<|Js<|Jp<|Je [2,1,2] R<|Jf R (bK (parts:=[(0,.const (vi 0)),(1,.const (vi 0))]) (cells:=[vi 0,vi 0]) R R (by kernel_rfl))<|Jw3 (κ:=K10) (E:=(Ep.pair E6 E6)) 5 [] (parts:=[(0,.tmp 30)]) (cells:=[vi 0,vi 0]) (xs:=([(0,0)]:List (Int×Int))) R Y123 l9 R ⟨[vi 0,vi 0],[],Zl K10 w9 [],Zl K10 w9 [],R,Zl.sp (l1:=[]) (l2:=[]) R,Zl.sr (l1:=[]) (l2:=[]),⟨[vi 0],[vi 0],Zl K10 w9 [],Zl K10 w9 [],R,Zl.sp (l1:=[]) (l2:=[]) R,Zl.sr (l1:=[]) (l2:=[]),R,R⟩,R⟩ λbj bf w20 K21 S22 f23=>Tv<|Jb 1 R<|Je [2,1,1] R<|Jf R (bK (parts:=[]) (cells:=[.slice none 0 0,.slice none 0 0]) R R (by kernel_rfl))<|Jt3 (κ:=K21) 6 R X71 R λb7 w24 K25 S26 f27=>Tv<|Jv3 (κ:=K25) 6 (vc:=[.slice none 0 0,.slice none 0 0]) R Z71 R f27 R λw28 S29 f30=>Tv<|Jd<|Jq<|Je3 R<|Ob h λq2 hq33 hK32=>?_
 clear h
 refine Jo3 [2,3,4,7] (λE L w'=>∃κ',∃s3:(List<|Int×Int)×Int×(List<|List Int),∃ba bb aa ab,L=(6,.slice ba s3.1.length bb)::E/\Stp [5,6,7,8,9] K25 w28 κ' w'/\Oc (Ep.pair E6 E6) 120 κ' w' 5 ba bb s3.1/\Oc (Ep.own E6 2) 37 κ' w' 7 aa ab s3.2.2/\Bc κ' w' 6 b7 71 [.slice aa s3.2.2.length ab,.slice none 0 0]/\q2=yD s3) ?_ ?_
 refine Jv<|Jp3 [2,3,4,7] (λk E L w'=>∃κ',∃s1:(List<|Int×Int)×Int×(List<|List Int),∃au am aP aQ,L=(6,.slice au s1.1.length am)::(8,vi s1.2.1)::E/\Stp [5,6,7,8,9] K25 w28 κ' w'/\Oc (Ep.pair E6 E6) 120 κ' w' 5 au am s1.1/\Oc (Ep.own E6 2) 37 κ' w' 7 aP aQ s1.2.2/\Bc κ' w' 6 b7 71 [.slice aP s1.2.2.length aQ,.slice none 0 0]/\ca (fv p0 p1) k s1=some q2) ⟨_,_,⟨K25,((([(0,0)]:List (Int×Int)):(List<|Int×Int)),(0:Int),(([]:List (List Int)):(List<|List Int))),bj,bf,none,0,R,Jj3,(f23.stp<|S26.tr S29),Ow.nil,f30,hq33⟩,(KM R)⟩ ?_
 rintro k _ w40 ⟨K41,s1,au,am,aP,aQ,rfl,S42,f43,f44,f45,h⟩
 rcases k with _ | k
 cases h
 obtain⟨o31,h,hk47⟩:=BI h;unfold fv at h
 refine Jq<|Jg3 [2,2,2,2] 2 R<|Jn3 R U123 R R<|Jb 1 R ?_
 revert h
 cases ht48:decide (s1.2.1<(s1.1.length:Int))
 refine JF λh=>Jy R<|Jc1<|Jt<|Jt ?_
 cases h
 have h:=hk47
 refine Jb1 ?_
 cases h
 exact Jw1 _ ⟨K41,(s1.1,s1.2.1,s1.2.2),au,am,aP,aQ,R,S42.wk R,f43,f44,f45,R⟩<|KM R
 refine JT λh=>Jx R<|Js<|Jp<|Jq<|Jv<|Je [1,2] R<|Jx3 (κ:=K41) (E:=E6) 8 R Y37 bG R λbl bg w49 K50 S51 f52=>Tv<|Jb 1 R<|Jq<|Jq<|Js1 (κ:=K50) [0,2,5] none [(0,2),(2,2),(3,2),(4,2),(5,2),(10,2),(1,0),(6,0),(7,2),(8,0),(9,2)] [] (by kernel_rfl) (by kernel_rfl) λw54 S53=>Jd3 R U71 R Z31<|Jn 2 R<|Ob h λx44 hx44 h=>Jc3 R f43.rdc hx44 U123 Z120<|Jf R (oz U120 Z2 R R R R)<|Jn 1 R<|Jg R (Jc2 I31 R R<|hvC ((f13.stp<|T6 S22 S26 S29 S42 S51 S53).ld 0 R R) R) ?_
 have f56:=f43.stp (S51.tr S53)
 obtain⟨cse57,hre57,hle57⟩:=(f56.rdc).gSt hx44
 obtain⟨_,_,rfl,rfl,rfl⟩:=hre57
 refine Jg R (Jc2 I2 R R<|hvC (λw' hw'=>hle57 w' hw' 0 _ R) R)<|Ob h λx47 hx47 h=>Jc3 R g0_0 hx47 U31 Z37 ?_
 obtain⟨ax47,ux47,f59,hl60⟩:=(g0_0.stp (T9 S3 S7 S11 S22 S26 S29 S42 S51 S53)).gSl hx47
 refine Jg R (Jc2 I37 R R<|hvC hl60 R)<|Jn3 R U37 R R<|Jt1<|Jd ?_
 have hN61:(x47.length:Int)<=9223372036854775807:=f59.len_le
 refine Ob h λq5 hq63 hK62=>?_
 clear h
 refine Jo3 [2,3,4,7,8] (λE L w'=>∃κ',∃s6:(List<|Int×Int)×(List Int),∃aU aT ay ao,L=(6,.slice aU s6.1.length aT)::(9,.slice ay s6.2.length ao)::E/\Stp [5,8,9] K50 w54 κ' w'/\Oc (Ep.pair E6 E6) 120 κ' w' 5 aU aT s6.1/\Oc E6 2 κ' w' 8 ay ao s6.2/\q5=yD s6) ?_ ?_
 refine Jv<|Jp3 [2,3,4,7,8,48,49] (λk E L w'=>∃κ' v50,∃s4:(List<|Int×Int)×(List Int),∃av an aE aM,L=(6,.slice av s4.1.length an)::(9,.slice aE s4.2.length aM)::(50,vi v50)::E/\Stp [5,8,9] K50 w54 κ' w'/\Oc (Ep.pair E6 E6) 120 κ' w' 5 av an s4.1/\Oc E6 2 κ' w' 8 aE aM s4.2/\0<=v50/\yG ((x47.length:Int)-v50)=k/\cntM (ec p1 s1 x47) k v50 s4=some q5) ⟨_,_,⟨K50,0,(s1.1,(([]:List Int):(List Int))),au,am,bl,bg,R,Jj3,f56,(f52.stp S53),(by decide),(by simp),hq63⟩,(KM R)⟩ ?_
 rintro k _ w69 ⟨K70,v50,s4,av,an,aE,aM,rfl,S71,f72,f73,hj61,hJ61,h⟩
 rcases k with _ | k
 have hk75:=h;obtain⟨o61,h⟩:=bT (yD (yE s4):(Det×Bool)⊕(((List (Int×Int))×(List Int))⊕((List (Int×Int))×(List Int))))
 have hc61:decide (v50<(x47.length:Int))=false:=Jo2 (by omega)
 refine Je3 R<|Jq<|Jw2 R hc61<|Jc1<|Jt<|Jt ?_
 cases h
 have h:=hk75
 refine Jb1 ?_
 cases h
 exact Jw1 _ ⟨K70,(s4.1,s4.2),av,an,aE,aM,R,S71.wk R,f72,f73,R⟩<|KM R
 obtain⟨o61,h,hk75⟩:=BI h;unfold ec at h
 have hc61:decide (v50<(x47.length:Int))=true:=Jn2 (by omega)
 refine Je3 R<|Jq<|Jv2 R hc61<|Js<|Jp<|Jq<|Jv<|Jg3 [2,2,1,2,2] 1 R<|Ob h λx53 hx53 h=>Jc3 R f59 hx53 U37 Z2<|Jb3 R I2 ((f59.stp S71).gInt hx53)<|Jb 2 R<|Jq<|Js1 (κ:=K70) [0,3,5] none [(0,2),(1,2),(3,2),(4,2),(5,2),(6,2),(10,2),(2,0),(7,0),(8,2),(9,0),(11,2),(12,0),(13,2),(14,1),(15,1)] [] (by kernel_rfl) (by kernel_rfl) λw78 S77=>Jn 1 R<|Jd3 R U71 R Z31<|Jn 2 R<|Ob h λx60 hx60 h=>Jc3 R f72.rdc hx60 U123 Z120<|Jf R (oz U120 Z2 R R R R)<|Jn 1 R<|Jg R (Jc2 I31 R R<|hvC ((f14.stp<|T8 S22 S26 S29 S42 S51 S53 S71 S77).ld 0 R R) R) ?_
 have f80:=f72.stp S77
 obtain⟨cse81,hre81,hle81⟩:=(f80.rdc).gSt hx60
 obtain⟨_,_,rfl,rfl,rfl⟩:=hre81
 refine Jg R (Jc2 I2 R R<|hvC (λw' hw'=>hle81 w' hw' 1 _ R) R)<|Ob h λx63 hx63 h=>Jc3 R g1_0 hx63 U31 Z37 ?_
 obtain⟨ax63,ux63,f83,hl84⟩:=(g1_0.stp (T11 S3 S7 S11 S22 S26 S29 S42 S51 S53 S71 S77)).gSl hx63
 refine Jg R (Jc2 I37 R R<|hvC hl84 R)<|Ob h λx66 hx66 h=>Jc3 R f83 hx66 U37 Z2<|Jg R (Jc2 I2 R R<|hvC (f83.gInt hx66) R)<|Jf R (bK (parts:=[(0,.tmp 55),(1,.tmp 67)]) (cells:=[vi x53,vi x66]) R R (by kernel_rfl))<|Jt3 (κ:=K70) 9 R X120 R λb12 w85 K86 S87 f88=>⟨(S87.cl R),Jv3 (κ:=K86) 9 (vc:=[vi x53,vi x66]) R Z120 R f88 R λw89 S90 f91=>⟨((S87.tr S90).cl R),Jt1<|Jd<|Jg3 [2,1,1,2] 1 R<|Jb4 tv R (Jc4 (haE f91.cells) I120 Z120 R)<|Ob h λx71 hx71 h=>?_⟩⟩
 have f92:=f80.stp (S87.tr S90)
 refine Jr3 R C170 (iw (κ:=Mk K86) (p1:=(x53,x66)) (Ji3 f92.rdc) hx71) ?_
 rintro _ w93 ⟨k94,rfl,e95⟩
 obtain⟨K96,S97,m98⟩:=Ji e95 10 R
 refine Tv<|Jb 1 R<|Jq<|Je3 R<|Ob h λq7 h hK100=>Jo3 [2,3,4,7,8,9,48,49,50] (λE L w'=>∃κ' aL aH,L=(6,.slice aL q7.1.length aH)::(13,vi q7.2)::E/\Stp [5] K96 w93 κ' w'/\Oc (Ep.pair E6 E6) 120 κ' w' 5 aL aH q7.1) ?_ ?_
 revert h
 cases ht105:decide (x71<0)
 refine JF λh=>Jy R<|Js ?_
 cases h
 exact Jw1 _ ⟨K96,av,an,R,Jj3,(f92.stp S97)⟩<|KM R
 refine JT λh=>Jx R<|Jg3 [2,2,2] 1 R<|Jn3 R U123 R R<|Jb 1 R<|Jh3 [2,1,1,1,2] 1 R<|Jb4 tv R (Jc4 (haE (f91.stp S97).cells) I120 Z120 R)<|Jw3 (κ:=K96) (E:=(Ep.pair E6 E6)) 12 [] (parts:=[(0,.tmp 77)]) (cells:=[vi x53,vi x66]) (xs:=([(x53,x66)]:List (Int×Int))) R Y123 l9 R ⟨[vi x53,vi x66],[],Zl K96 w93 [],Zl K96 w93 [],R,Zl.sp (l1:=[]) (l2:=[]) R,Zl.sr (l1:=[]) (l2:=[]),⟨[vi x53],[vi x66],Zl K96 w93 [],Zl K96 w93 [],R,Zl.sp (l1:=[]) (l2:=[]) R,Zl.sr (l1:=[]) (l2:=[]),R,R⟩,R⟩ λbv bt w107 K108 S109 f110=>Tv<|Ob h λx79 hx79 h=>Jy3 (κ:=K108) (E:=(Ep.pair E6 E6)) 5 [] R Y123 l9 R (f92.stp<|S97.tr S109) (Sl.srcP (xk (bP _)<|bP _) f110.rdc) bI hx79 R λbi bh w112 K113 S114 f115=>Tv<|Jc 1 R ?_
 cases h
 exact Jw1 _ ⟨K113,bi,bh,R,(S109.tr S114).wk R,f115⟩<|KM R
 rintro _ w101 ⟨K102,aL,aH,rfl,S103,f104⟩
 have h:=hK100
 refine Jp<|Jh3 [2,2,1,1,2] 2 R<|Jw3 (κ:=K102) (E:=E6) 12 [] (parts:=[(0,.tmp 81)]) (cells:=[vi q7.2]) (xs:=([q7.2]:List Int)) R Y37 bG R ⟨[vi q7.2],[],Zl K102 w101 [],Zl K102 w101 [],R,Zl.sp (l1:=[]) (l2:=[]) R,Zl.sr (l1:=[]) (l2:=[]),R,R⟩ λbs bo w117 K118 S119 f120=>Tv<|Ob h λx83 hx83 h=>Jy3 (κ:=K118) (E:=E6) 8 [] R Y37 bG R (f73.stp<|T6 S77 S87 S90 S97 S103 S119) (Sl.srcP (bP _) f120.rdc) bI hx83 R λbk bm w122 K123 S124 f125=>Tv<|Jc 1 R<|Jz<|Jp<|Jf3 R ?_
 have hw61:yC .i64 (v50+1)=v50+1:=wr1 hj61 (Jm2 hc61) hN61
 rw[hw61]
 have hc61:=Jm2 hc61
 cases h
 exact Jz1 λa ha=>⟨k,_,Ja3 _,⟨K123,v50+1,(q7.1,x83),aL,aH,bk,bm,R,(T8 S71 S77 S87 S90 S97 S103 S119 S124).wk R,(f104.stp<|S119.tr S124),f125,by omega,by omega,hk75⟩,(ha.mm R)⟩
 rintro _ w64 ⟨K65,s6,aU,aT,ay,ao,rfl,S66,f67,f68,rfl⟩
 have h:=yI hK62
 refine Jp<|Jq<|Jg3 [2,2,2] 1 R<|Jn3 R U123 R R<|Jb 1 R ?_
 revert h
 cases ht127:decide (48<(s6.1.length:Int))
 refine JF λh=>Jy R<|Js<|Jp<|Ja [2,1,2,1,1,2,1] R<|Jd3 R U71 R Z31 ?_
 have f133:=f45.stp (T3 S51 S53 S66)
 refine Jb3 R I31 (f133.ld 0 R R)<|Jn 1 R<|Jw3 (κ:=K65) (E:=(Ep.own E6 2)) 9 [8] (parts:=[(0,.tmp 91)]) (cells:=[.slice ay s6.2.length ao]) (xs:=([s6.2]:List (List Int))) R Y31 bQ R ⟨[.slice ay s6.2.length ao],[],Zl K65 w64 [8],Zl K65 w64 [],R,Zl.sp (l1:=[8]) (l2:=[]) R,Zl.sr (l1:=[8]) (l2:=[]),⟨_,_,R,f68⟩,R⟩ λbr bz w134 K135 S136 f137=>Tv<|Ob h λx93 hx93 h=>Jy3 (κ:=K135) (E:=(Ep.own E6 2)) 7 [9] R Y31 bQ R (f44.stp<|T4 S51 S53 S66 S136) f137.src (dE R) hx93 R λaW bd w139 K140 S141 f142=>Tv<|Jd3 R U71 R Z31<|Ju3 (κ:=K140) 6 (off:=0) (vc:=[.slice aW x93.length bd]) (cs':=[.slice aW x93.length bd,.slice none 0 0]) R Z31 R (f133.stp<|S136.tr S141) R λw144 S145 f146=>Tv<|Jo<|Jz<|Jp<|Jf3 R ?_
 cases h
 exact Jz1 λa ha=>⟨k,_,Ja3 _,⟨K140,(s6.1,((IntKind.i64.wrap<|s1.2.1+1):Int),x93),aU,aT,aW,bd,R,(T7 S42 S51 S53 S66 S136 S141 S145).wk R,(f67.stp<|T3 S136 S141 S145),(f142.stp S145),f146,hk47⟩,(ha.mm R)⟩
 refine JT λh=>Jx R<|Je [2,1,2] R<|Jf R (bK (parts:=[]) (cells:=[.slice none 0 0,.slice none 0 0]) R R (by kernel_rfl))<|Jv3 (κ:=K65) 4 (vc:=[.slice none 0 0,.slice none 0 0]) R Z71 R (f12.stp<|T7 S22 S26 S29 S42 S51 S53 S66) R λw129 S130 f131=>Tv<|Jb 1 R<|Ju<|Jw<|Ja1<|Jw<|Jw ?_
 cases h
 obtain rfl:=Option.some.inj hk47
 have h:=yL hK32
 refine Ja1<|Jq2<|Jw<|Ja2 (l:=[.cell 4 71,.tmp 5]) V104 (bM R f131 I71 Z71 R<|Jp2 R R) R ?_
 cases h
 exact⟨K65,none,0,none,0,R,(hE.stp<|T11 S3 S7 S11 S22 S26 S29 S42 S51 S53 S66 S130),Ow.nil,Ow.nil⟩
 rintro _ w34 ⟨K35,s3,ba,bb,aa,ab,rfl,S36,f37,f38,f39,rfl⟩
 have h:=yI hK32
 have S001:=(T7 S3 S7 S11 S22 S26 S29 S36)
 have S002:=(T4 S22 S26 S29 S36)
 refine Jp<|Jq<|Je [1,1,1,2,2] R<|Jb4 tv R (Jc4 (haE (f13.stp S002).cells) I71 Z71 R)<|Jb4 tv R (Jc4 (haE (f14.stp S002).cells) I71 Z71 R)<|Jw3 (κ:=K35) (E:=(Ep.fz Det.rp)) 8 [] (parts:=[(0,.tmp 95),(1,.tmp 96)]) (cells:=[.slice aF p0.Next.length aK,.slice aG p0.Pairs.length aS,.slice ap p1.Next.length aB,.slice ax p1.Pairs.length aq]) (xs:=([p0,p1]:List Det)) R Y185 tB R ⟨[.slice aF p0.Next.length aK,.slice aG p0.Pairs.length aS],[.slice ap p1.Next.length aB,.slice ax p1.Pairs.length aq],Zl K35 w34 [],Zl K35 w34 [],R,Zl.sp (l1:=[]) (l2:=[]) R,Zl.sr (l1:=[]) (l2:=[]),(Det.mk_rel (Sl.z1<|g0_0.stp S001)<|Sl.z1<|g0_1.stp S001),⟨[.slice ap p1.Next.length aB,.slice ax p1.Pairs.length aq],[],Zl K35 w34 [],Zl K35 w34 [],R,Zl.sp (l1:=[]) (l2:=[]) R,Zl.sr (l1:=[]) (l2:=[]),(Det.mk_rel (Sl.z1<|g1_0.stp S001)<|Sl.z1<|g1_1.stp S001),R⟩⟩ λbx bu w155 K156 S157 f158=>Tv<|Jn3 R U185 R R<|Jb 1 R ?_
 have hN159:(([p0,p1]:List Det).length:Int)<=9223372036854775807:=f158.len_le
 refine Ob h λq9 hq161 hK160=>?_
 clear h
 refine Jo3 [4,7] (λE L w'=>∃κ',∃s10:(List Pair),∃aw az,L=E/\Stp [6,9,10,11,12,13,14,15] K156 w155 κ' w'/\Oc Pair.ep127 127 κ' w' 9 aw az s10/\Bc κ' w' 6 b7 71 [.slice aa s3.2.2.length ab,.slice aw s10.length az]/\q9=yD s10) ?_ ?_
 refine Jv<|Jp3 [4,6,7,97,98] (λk E L w'=>∃κ' v99,∃s8:(List Pair),∃aC al,L=(99,vi v99)::E/\Stp [6,9,10,11,12,13,14,15] K156 w155 κ' w'/\Oc Pair.ep127 127 κ' w' 9 aC al s8/\Bc κ' w' 6 b7 71 [.slice aa s3.2.2.length ab,.slice aC s8.length al]/\0<=v99/\yG ((([p0,p1]:List Det).length:Int)-v99)=k/\cntM (cH p0 p1 s3) k v99 s8=some q9) ⟨_,_,⟨K156,0,(([]:List Pair):(List Pair)),none,0,R,Jj3,Ow.nil,(f39.stp S157),(by decide),(by simp),hq161⟩,(KM R)⟩ ?_
 rintro k _ w167 ⟨K168,v99,s8,aC,al,rfl,S169,f170,f171,hj159,hJ159,h⟩
 rcases k with _ | k
 have hk173:=h;obtain⟨o159,h⟩:=bT (yD (yE s8):(Det×Bool)⊕(((List Pair))⊕((List Pair))))
 have hc159:decide (v99<(([p0,p1]:List Det).length:Int))=false:=Jo2 (by omega)
 refine Je3 R<|Jq<|Jw2 R hc159<|Jc1<|Jt<|Jt ?_
 cases h
 have h:=hk173
 refine Jb1 ?_
 cases h
 exact Jw1 _ ⟨K168,s8,aC,al,R,S169.wk R,f170,f171,R⟩<|KM R
 obtain⟨o159,h,hk173⟩:=BI h;unfold cH at h
 have hc159:decide (v99<(([p0,p1]:List Det).length:Int))=true:=Jn2 (by omega)
 refine Je3 R<|Jq<|Jv2 R hc159<|Js<|Jp<|Jq<|Jv<|Jg3 [2,2,1,1,2,1] 1 R<|Ob h λx102 hx102 h=>Jc3 R f158.rdc hx102 U185 Z71 ?_
 obtain⟨cse175,hre175,hle175⟩:=Ow.gZS (f158.stp S169) hx102
 obtain⟨ae175_0,ue175_0,ae175_1,ue175_1,rfl,fe175_0,fe175_1⟩:=Det.un hre175
 refine Jb4 tv R (Jc4 (haE hle175) I71 Z71 R)<|Jt3 (κ:=K168) 10 R X71 R λb15 w176 K177 S178 f179=>Tv<|Jn 1 R<|Jv3 (κ:=K177) 10 (vc:=[.slice ae175_0 x102.Next.length ue175_0,.slice ae175_1 x102.Pairs.length ue175_1]) R Z71 R f179 R λw180 S181 f182=>Tv<|Jd<|Je [2,1,2,2] R<|Jd3 R U71 R Z69<|Jb3 R I69 (f182.ld 1 R R)<|Jn3 R U69 R R<|Jb 1 R ?_
 have hN183:(x102.Pairs.length:Int)<=9223372036854775807:=fe175_1.len_le
 refine Ob h λq12 hq185 hK184=>?_
 clear h
 refine Jo3 [4,6,7,97,98,99] (λE L w'=>∃κ',∃s13:(List Pair),∃aO aR,L=E/\Stp [6,9,11,12,13,14,15] K177 w180 κ' w'/\Oc Pair.ep127 127 κ' w' 9 aO aR s13/\Bc κ' w' 6 b7 71 [.slice aa s3.2.2.length ab,.slice aO s13.length aR]/\q12=yD s13) ?_ ?_
 refine Jv<|Jp3 [4,6,7,14,97,98,99,105,106] (λk E L w'=>∃κ' v107,∃s11:(List Pair),∃aD aI,L=(107,vi v107)::E/\Stp [6,9,11,12,13,14,15] K177 w180 κ' w'/\Oc Pair.ep127 127 κ' w' 9 aD aI s11/\Bc κ' w' 6 b7 71 [.slice aa s3.2.2.length ab,.slice aD s11.length aI]/\0<=v107/\yG ((x102.Pairs.length:Int)-v107)=k/\cntM (db s3 v99 x102) k v107 s11=some q12) ⟨_,_,⟨K177,0,s8,aC,al,R,Jj3,(f170.stp<|S178.tr S181),(f171.stp<|S178.tr S181),(by decide),(by simp),hq185⟩,(KM R)⟩ ?_
 rintro k _ w191 ⟨K192,v107,s11,aD,aI,rfl,S193,f194,f195,hj183,hJ183,h⟩
 rcases k with _ | k
 have hk198:=h;obtain⟨o183,h⟩:=bT (yD (yE s11):(Det×Bool)⊕(((List Pair))⊕((List Pair))))
 have hc183:decide (v107<(x102.Pairs.length:Int))=false:=Jo2 (by omega)
 refine Je3 R<|Jq<|Jw2 R hc183<|Jc1<|Jt<|Jt ?_
 cases h
 have h:=hk198
 refine Jb1 ?_
 cases h
 exact Jw1 _ ⟨K192,s11,aD,aI,R,S193.wk R,f194,f195,R⟩<|KM R
 obtain⟨o183,h,hk198⟩:=BI h;unfold db at h
 have hc183:decide (v107<(x102.Pairs.length:Int))=true:=Jn2 (by omega)
 refine Je3 R<|Jq<|Jv2 R hc183<|Js<|Jp<|Jq<|Jv<|Je [2,1,1,1] R<|Ob h λx109 hx109 h=>Jc3 R fe175_1 hx109 U69 Z127 ?_
 obtain⟨cse200,hre200,hle200⟩:=((fe175_1.stp (T3 S178 S181 S193))).gSt hx109
 obtain⟨ae200_0,ue200_0,ae200_1,ue200_1,rfl,fe200_0,fe200_1⟩:=Pair.un hre200
 refine Jb4 tv R (Jc4 (haE hle200) I127 Z127 R)<|Jt3 (κ:=K192) 11 R X127 R λb17 w201 K202 S203 f204=>Tv<|Jv3 (κ:=K202) 11 (vc:=[.slice ae200_0 x109.Ask.length ue200_0,.slice ae200_1 x109.Give.length ue200_1]) R Z127 R f204 R λw205 S206 f207=>Tv<|Jd<|Je [2,1,1] R<|Jf R (bK (parts:=[]) (cells:=[.slice none 0 0,.slice none 0 0]) R R (by kernel_rfl))<|Jt3 (κ:=K202) 12 R X127 R λb18 w208 K209 S210 f211=>Tv<|Jv3 (κ:=K209) 12 (vc:=[.slice none 0 0,.slice none 0 0]) R Z127 R f211 R λw212 S213 f214=>Tv<|Jd<|Jq<|Jg3 [2,2,2] 1 R<|Jn3 R U123 R R<|Jb 1 R ?_
 have hN215:(s3.1.length:Int)<=9223372036854775807:=f37.len_le
 refine Ob h λq15 hq217 hK216=>?_
 clear h
 refine Jo3 [4,6,7,14,18,97,98,99,105,106,107] (λE L w'=>∃κ',∃s16:(List Int)×(List Int),∃ae ah af aj,L=E/\Stp [12,13,14,15] K209 w212 κ' w'/\Oc E6 2 κ' w' 13 ae ah s16.1/\Oc E6 2 κ' w' 14 af aj s16.2/\Bc κ' w' 12 b18 127 [.slice ae s16.1.length ah,.slice af s16.2.length aj]/\q15=yD s16) ?_ ?_
 refine Jv<|Jp3 [4,6,7,14,17,18,97,98,99,105,106,107,112,113] (λk E L w'=>∃κ' v114,∃s14:(List Int)×(List Int),∃ar aA ad ac,L=(114,vi v114)::E/\Stp [12,13,14,15] K209 w212 κ' w'/\Oc E6 2 κ' w' 13 ar aA s14.1/\Oc E6 2 κ' w' 14 ad ac s14.2/\Bc κ' w' 12 b18 127 [.slice ar s14.1.length aA,.slice ad s14.2.length ac]/\0<=v114/\yG ((s3.1.length:Int)-v114)=k/\cntM (ft s3 v99 x109) k v114 s14=some q15) ⟨_,_,⟨K209,0,((([]:List Int):(List Int)),(([]:List Int):(List Int))),none,0,none,0,R,Jj3,Ow.nil,Ow.nil,f214,(by decide),(by simp),hq217⟩,(KM R)⟩ ?_
 rintro k _ w224 ⟨K225,v114,s14,ar,aA,ad,ac,rfl,S226,f227,f228,f229,hj215,hJ215,h⟩
 rcases k with _ | k
 have hk230:=h;obtain⟨o215,h⟩:=bT (yD (yE s14):(Det×Bool)⊕(((List Int)×(List Int))⊕((List Int)×(List Int))))
 have hc215:decide (v114<(s3.1.length:Int))=false:=Jo2 (by omega)
 refine Je3 R<|Jq<|Jw2 R hc215<|Jc1<|Jt<|Jt ?_
 cases h
 have h:=hk230
 refine Jb1 ?_
 cases h
 exact Jw1 _ ⟨K225,(s14.1,s14.2),ar,aA,ad,ac,R,S226.wk R,f227,f228,f229,R⟩<|KM R
 obtain⟨o215,h,hk230⟩:=BI h;unfold ft at h
 have hc215:decide (v114<(s3.1.length:Int))=true:=Jn2 (by omega)
 refine Je3 R<|Jq<|Jv2 R hc215<|Js<|Jp<|Jq<|Jv<|Jg3 [2,2,1,1,2,1] 1 R<|Ob h λx117 hx117 h=>Jc3 R f37.rdc hx117 U123 Z120 ?_
 obtain⟨cse232,hre232,hle232⟩:=((f37.stp (T10 S157 S169 S178 S181 S193 S203 S206 S210 S213 S226)).rdc).gSt hx117
 obtain⟨_,_,rfl,rfl,rfl⟩:=hre232
 refine Jb4 tv R (Jc4 (haE hle232) I120 Z120 R)<|Jt3 (κ:=K225) 15 R X120 R λb20 w233 K234 S235 f236=>Tv<|Jn 1 R<|Jv3 (κ:=K234) 15 (vc:=[vi x117.1,vi x117.2]) R Z120 R f236 R λw237 S238 f239=>Tv<|Jd<|Jq<|Jq<|Js1 (κ:=K234) [11,15] none [(0,2),(2,2),(3,2),(1,0),(4,0),(5,1)] [] (by kernel_rfl) (by kernel_rfl) λw241 S240=>Jd3 R U127 R Z37<|Jn 1 R<|Ob h λx122 hx122 h=>Jf R (qO (xs:=([x117.1,x117.2]:List Int)) (p:=⟨b20,0,none⟩) hx122 R U120 Z2 R R R) ?_
 have f242:=f207.stp (T6 S210 S213 S226 S235 S238 S240)
 refine Jg R (Jc2 I37 R R<|hvC (f242.ld 0 R R) R) ?_
 have f243:=f239.stp S240
 refine Jg R (Jc2 I2 R R<|hvC (f243.ldD (xs:=([x117.1,x117.2]:List Int)) 0 R hx122 R) R)<|Ob h λx124 hx124 h=>Jr3 R C89 (ch (κ:=Mk K234) (Ji3<|fe200_0.stp<|T8 S203 S206 S210 S213 S226 S235 S238 S240) hx124) ?_
 rintro _ w245 ⟨k246,rfl,e247⟩
 obtain⟨K248,S249,m250⟩:=Ji e247 16 R
 refine⟨(S249.cl R),Jt1<|Jd<|Ob h λq17 h hK252=>Jo3 [4,6,7,14,17,18,19,20,97,98,99,105,106,107,112,113,114] (λE L w'=>∃κ' ak ai,L=E/\Stp [12,13] K248 w245 κ' w'/\Oc E6 2 κ' w' 13 ak ai q17/\Bc κ' w' 12 b18 127 [.slice ak q17.length ai,.slice ad s14.2.length ac]) ?_ ?_⟩
 revert h
 cases ht258:x124
 refine JF λh=>Jy R<|Js ?_
 cases h
 have S003:=(T4 S235 S238 S240 S249)
 exact Jw1 _ ⟨K248,ar,aA,R,Jj3,(f227.stp S003),(f229.stp S003)⟩<|KM R
 refine JT λh=>Jx R<|Ja [2,1,2,1,1,2,1] R<|Jd3 R U127 R Z37 ?_
 have f259:=f229.stp (T4 S235 S238 S240 S249)
 refine Jb3 R I37 (f259.ld 0 R R)<|Jn 1 R<|Jw3 (κ:=K248) (E:=E6) 18 [] (parts:=[(0,.tmp 127)]) (cells:=[vi v114]) (xs:=([v114]:List Int)) R Y37 bG R ⟨[vi v114],[],Zl K248 w245 [],Zl K248 w245 [],R,Zl.sp (l1:=[]) (l2:=[]) R,Zl.sr (l1:=[]) (l2:=[]),R,R⟩ λbp bB w260 K261 S262 f263=>Tv<|Ob h λx129 hx129 h=>Jy3 (κ:=K261) (E:=E6) 13 [] R Y37 bG R (f227.stp<|T5 S235 S238 S240 S249 S262) (Sl.srcP (bP _) f263.rdc) bI hx129 R λaZ aX w265 K266 S267 f268=>Tv<|Jd3 R U127 R Z37<|Ju3 (κ:=K266) 12 (off:=0) (vc:=[.slice aZ x129.length aX]) (cs':=[.slice aZ x129.length aX,.slice ad s14.2.length ac]) R Z37 R (f259.stp<|S262.tr S267) R λw270 S271 f272=>Tv<|Jo ?_
 cases h
 exact Jw1 _ ⟨K266,aZ,aX,R,(T3 S262 S267 S271).wk R,(f268.stp S271),f272⟩<|KM R
 rintro _ w253 ⟨K254,ak,ai,rfl,S255,f256,f257⟩
 have h:=hK252
 refine Jp<|Jq<|Js1 (κ:=K254) [11,15] none [(0,2),(2,2),(3,2),(1,0),(4,0),(5,1)] [] (by kernel_rfl) (by kernel_rfl) λw277 S276=>Jd3 R U127 R Z37<|Jn 1 R<|Ob h λx134 hx134 h=>Jf R (qO (xs:=([x117.1,x117.2]:List Int)) (p:=⟨b20,0,none⟩) hx134 R U120 Z2 R R R)<|Jg R (Jc2 I37 R R<|hvC ((f242.stp<|T3 S249 S255 S276).ld 1 R R) R)<|Jg R (Jc2 I2 R R<|hvC ((f243.stp<|T3 S249 S255 S276).ldD (xs:=([x117.1,x117.2]:List Int)) 0 R hx134 R) R)<|Ob h λx136 hx136 h=>Jr3 R C89 (ch (κ:=Mk K254) (Ji3<|fe200_1.stp<|T11 S203 S206 S210 S213 S226 S235 S238 S240 S249 S255 S276) hx136) ?_
 rintro _ w281 ⟨k282,rfl,e283⟩
 obtain⟨K284,S285,m286⟩:=Ji e283 18 R
 refine⟨(S285.cl R),Jt1<|Jd<|Ob h λq18 h hK288=>Jo3 [4,6,7,14,17,18,97,98,99,105,106,107,112,113,114] (λE L w'=>∃κ' aJ aN,L=E/\Stp [12,14] K284 w281 κ' w'/\Oc E6 2 κ' w' 14 aJ aN q18/\Bc κ' w' 12 b18 127 [.slice ak q17.length ai,.slice aJ q18.length aN]) ?_ ?_⟩
 revert h
 cases ht294:x136
 refine JF λh=>Jy R<|Js ?_
 cases h
 exact Jw1 _ ⟨K284,ad,ac,R,Jj3,(f228.stp<|T7 S235 S238 S240 S249 S255 S276 S285),(f257.stp<|S276.tr S285)⟩<|KM R
 refine JT λh=>Jx R<|Ja [2,1,2,1,1,2,1] R<|Jd3 R U127 R Z37 ?_
 have f295:=f257.stp (S276.tr S285)
 refine Jb3 R I37 (f295.ld 1 R R)<|Jn 1 R<|Jw3 (κ:=K284) (E:=E6) 20 [] (parts:=[(0,.tmp 139)]) (cells:=[vi v114]) (xs:=([v114]:List Int)) R Y37 bG R ⟨[vi v114],[],Zl K284 w281 [],Zl K284 w281 [],R,Zl.sp (l1:=[]) (l2:=[]) R,Zl.sr (l1:=[]) (l2:=[]),R,R⟩ λbq bA w296 K297 S298 f299=>Tv<|Ob h λx141 hx141 h=>Jy3 (κ:=K297) (E:=E6) 14 [] R Y37 bG R (f228.stp<|T8 S235 S238 S240 S249 S255 S276 S285 S298) (Sl.srcP (bP _) f299.rdc) bI hx141 R λaY be w301 K302 S303 f304=>Tv<|Jd3 R U127 R Z37<|Ju3 (κ:=K302) 12 (off:=1) (vc:=[.slice aY x141.length be]) (cs':=[.slice ak q17.length ai,.slice aY x141.length be]) R Z37 R (f295.stp<|S298.tr S303) R λw306 S307 f308=>Tv<|Jo ?_
 cases h
 exact Jw1 _ ⟨K302,aY,be,R,(T3 S298 S303 S307).wk R,(f304.stp S307),f308⟩<|KM R
 rintro _ w289 ⟨K290,aJ,aN,rfl,S291,f292,f293⟩
 have h:=hK288
 refine Jz<|Jp<|Jf3 R ?_
 have hw215:yC .i64 (v114+1)=v114+1:=wr1 hj215 (Jm2 hc215) hN215
 rw[hw215]
 have hc215:=Jm2 hc215
 cases h
 exact Jz1 λa ha=>⟨k,_,Ja3 _,⟨K290,v114+1,(q17,q18),ak,ai,aJ,aN,R,(T9 S226 S235 S238 S240 S249 S255 S276 S285 S291).wk R,(f256.stp<|T3 S276 S285 S291),f292,f293,by omega,by omega,hk230⟩,(ha.mm R)⟩
 rintro _ w218 ⟨K219,s16,ae,ah,af,aj,rfl,S220,f221,f222,f223,rfl⟩
 have h:=yI hK216
 refine Jp<|Ja [2,1,1,1,1,2,1] R<|Jd3 R U71 R Z69 ?_
 have f313:=f195.stp (T5 S203 S206 S210 S213 S220)
 refine Jb3 R I69 (f313.ld 1 R R)<|Jb4 tv R (Jc4 (haE f223.cells) I127 Z127 R)<|Jw3 (κ:=K219) (E:=Pair.ep127) 15 [13,14] (parts:=[(0,.tmp 146)]) (cells:=[.slice ae s16.1.length ah,.slice af s16.2.length aj]) (xs:=([(⟨s16.1,s16.2⟩:Pair)]:List Pair)) R Y69 cw R ⟨[.slice ae s16.1.length ah,.slice af s16.2.length aj],[],Zl K219 w218 [13,14],Zl K219 w218 [],R,Zl.sp (l1:=[13,14]) (l2:=[]) R,Zl.sr (l1:=[13,14]) (l2:=[]),⟨[.slice ae s16.1.length ah],[.slice af s16.2.length aj],Zl K219 w218 [13],Zl K219 w218 [14],R,Zl.sp (l1:=[13]) (l2:=[14]) R,Zl.sr (l1:=[13]) (l2:=[14]),⟨_,_,R,f221⟩,⟨_,_,R,f222⟩⟩,R⟩ λbn bw w314 K315 S316 f317=>Tv<|Ob h λx148 hx148 h=>Jy3 (κ:=K315) (E:=Pair.ep127) 9 [15] R Y69 cw R (f194.stp<|T6 S203 S206 S210 S213 S220 S316) f317.src (dE R) hx148 R λaV bc w319 K320 S321 f322=>Tv<|Jd3 R U71 R Z69<|Ju3 (κ:=K320) 6 (off:=1) (vc:=[.slice aV x148.length bc]) (cs':=[.slice aa s3.2.2.length ab,.slice aV x148.length bc]) R Z69 R (f313.stp<|S316.tr S321) R λw324 S325 f326=>Tv<|Jo<|Jz<|Jp<|Jf3 R ?_
 have hw183:yC .i64 (v107+1)=v107+1:=wr1 hj183 (Jm2 hc183) hN183
 rw[hw183]
 have hc183:=Jm2 hc183
 cases h
 exact Jz1 λa ha=>⟨k,_,Ja3 _,⟨K320,v107+1,x148,aV,bc,R,(T9 S193 S203 S206 S210 S213 S220 S316 S321 S325).wk R,(f322.stp S325),f326,by omega,by omega,hk198⟩,(ha.mm R)⟩
 rintro _ w186 ⟨K187,s13,aO,aR,rfl,S188,f189,f190,rfl⟩
 have h:=yI hK184
 refine Jz<|Jp<|Jf3 R ?_
 have hw159:yC .i64 (v99+1)=v99+1:=wr1 hj159 (Jm2 hc159) hN159
 rw[hw159]
 have hc159:=Jm2 hc159
 cases h
 exact Jz1 λa ha=>⟨k,_,Ja3 _,⟨K187,v99+1,s13,aO,aR,R,(T4 S169 S178 S181 S188).wk R,f189,f190,by omega,by omega,hk173⟩,(ha.mm R)⟩
 rintro _ w162 ⟨K163,s10,aw,az,rfl,S164,f165,f166,rfl⟩
 have h:=yI hK160
 refine Jp<|Je [1,1,2] R<|Jb4 tv R (Jc4 (haE f166.cells) I71 Z71 R)<|Jv3 (κ:=K163) 4 (vc:=[.slice aa s3.2.2.length ab,.slice aw s10.length az]) R Z71 R (f12.stp<|T6 S22 S26 S29 S36 S157 S164) R λw329 S330 f331=>Tv<|Jb 1 R<|Ju<|Ja2 (l:=[.cell 4 71,.tmp 5]) V104 (bM R f331 I71 Z71 R<|Jp2 R R) R ?_
 cases h
 exact⟨(λb=>ren [(7,2),(9,3)]<|K163 b),aa,ab,aw,az,R,((hE.stp<|T10 S3 S7 S11 S22 S26 S29 S36 S157 S164 S330).map (ren [(7,2),(9,3)]) R R),((f38.stp<|T3 S157 S164 S330).map (ren [(7,2),(9,3)]) R R),((f165.stp S330).map (ren [(7,2),(9,3)]) R R)⟩
 refine JT λh=>Jx R<|Je [2,1,2] R<|Jf R (bK (parts:=[]) (cells:=[.slice none 0 0,.slice none 0 0]) R R (by kernel_rfl))<|Jv3 (κ:=K10) 4 (vc:=[.slice none 0 0,.slice none 0 0]) R Z71 R f12 R λw16 S17 f18=>Tv<|Jb 1 R<|Ju<|Jw<|Ja2 (l:=[.cell 4 71,.tmp 5]) V104 (bM R f18 I71 Z71 R<|Jp2 R R) R ?_
 cases h
 exact⟨K10,none,0,none,0,R,(hE.stp<|T4 S3 S7 S11 S17),Ow.nil,Ow.nil⟩
theorem eG {a0 u0}{p0:(List Int)}{ab aa}{c1_0:(List Place)}{c1_1:Int}{c1_2:Int}{c1_3:Sig}{c1_4:Int}{b1_0 b1_1 b1_2 b1_3 b1_4}(g0:Rd (Rp.int .i64) κ w 0 a0 u0 p0) (g1_0:Rd Place.rp κ w 0 ab aa c1_0) (gb1_0:Bc κ w 0 b1_0 80 [.slice ab c1_0.length aa]) (gb1_1:Bc κ w 0 b1_1 2 [vi c1_1]) (gb1_2:Bc κ w 0 b1_2 2 [vi c1_2]) (gb1_3:Bc κ w 0 b1_3 28 [vi c1_3.In,vi c1_3.Out]) (gb1_4:Bc κ w 0 b1_4 2 [vi c1_4]){r:Int}(h:bY p0 c1_0 c1_1 c1_2 c1_3 c1_4=some r):Ret Tryz.prog 47 [.slice a0 p0.length u0,.func (.func 48) #[] #[.pointer (some ⟨b1_0,0,none⟩),.pointer (some ⟨b1_1,0,none⟩),.pointer (some ⟨b1_2,0,none⟩),.pointer (some ⟨b1_3,0,none⟩),.pointer (some ⟨b1_4,0,none⟩)]] w (Pvi κ w r):=by
 unfold bY at h
 refine Jk3 κ F47 R N47 R λhE=>Je3 R<|Jq<|Jg3 [2,2,2] 1 R<|Jn3 R U37 R R<|Jb 1 R ?_
 have hN1:(p0.length:Int)<=9223372036854775807:=g0.len_le
 refine Ob h λq2 hq3 hK2=>?_
 clear h
 refine Jo3 [1] (λE L w'=>∃κ',L=E/\Stp [] κ w κ' w'/\q2=yD ()) ?_ ?_
 refine Jv<|Jp3 [0,1,7] (λk E L w'=>∃κ' v8,L=(8,vi v8)::E/\Stp [] κ w κ' w'/\0<=v8/\yG ((p0.length:Int)-v8)=k/\cntM (cd p0 c1_0 c1_1 c1_2 c1_3 c1_4) k v8 ()=some q2) ⟨_,_,⟨κ,0,R,Jj3,(by decide),(by simp),hq3⟩,(KM R)⟩ ?_
 rintro k _ w7 ⟨K8,v8,rfl,S9,hj1,hJ1,h⟩
 rcases k with _ | k
 have hk10:=h;obtain⟨o1,h⟩:=bT (yD (yE ()):Int⊕((Unit)⊕(Unit)))
 have hc1:decide (v8<(p0.length:Int))=false:=Jo2 (by omega)
 refine Je3 R<|Jq<|Jw2 R hc1<|Jc1<|Jt<|Jt ?_
 cases h
 have h:=hk10
 refine Jb1 ?_
 cases h
 exact Jw1 _ ⟨K8,R,S9.wk R,R⟩<|KM R
 obtain⟨o1,h,hk10⟩:=BI h;unfold cd at h
 have hc1:decide (v8<(p0.length:Int))=true:=Jn2 (by omega)
 refine Je3 R<|Jq<|Jv2 R hc1<|Js<|Jp<|Jq<|Jv<|Je3 R<|Jg3 [2,2,2,2,1,1] 3 R<|Ob h λx14 hx14 h=>Jc3 R g0 hx14 U37 Z2<|Jb3 R I2 ((g0.stp S9).gInt hx14)<|Ob h λx16 hx16 h=>WO.callV R R R R R R R R C48 (oe (κ:=Mk K8) (c3:=c1_3) (Ji3<|g1_0.stp S9) ((gb1_0.stp S9).map (mp [] 0) R R) ((gb1_1.stp S9).map (mp [] 0) R R) ((gb1_2.stp S9).map (mp [] 0) R R) ((gb1_3.stp S9).map (mp [] 0) R R) ((gb1_4.stp S9).map (mp [] 0) R R) hx16) ?_
 rintro _ w18 ⟨k19,rfl,e20⟩
 obtain⟨K21,S22,m23⟩:=Ji e20 2 R
 refine Tv<|Jd ?_
 revert h
 cases ht25:x16
 refine JF λh=>Jy R<|Js<|Jz<|Jp<|Jf3 R ?_
 have hw1:yC .i64 (v8+1)=v8+1:=wr1 hj1 (Jm2 hc1) hN1
 rw[hw1]
 have hc1:=Jm2 hc1
 cases h
 exact Jz1 λa ha=>⟨k,_,Ja3 _,⟨K21,v8+1,R,(S9.tr S22).wk R,by omega,by omega,hk10⟩,(ha.mm R)⟩
 refine JT λh=>Jx R<|Je3 R<|Ju<|Ja1<|Jw<|Jw ?_
 cases h
 obtain rfl:=Option.some.inj hk10
 have h:=yL hK2
 refine Ja1<|Jq2<|Jw<|Ja2 (l:=[.tmp 4]) V47 (Jp2 R R) R ?_
 cases h
 exact⟨K21,R,(hE.stp<|S9.tr S22)⟩
 rintro _ w4 ⟨K5,rfl,S6,rfl⟩
 have h:=yI hK2
 refine Jp<|Je3 R<|Ju<|Ja2 (l:=[.tmp 4]) V47 (Jp2 R R) R ?_
 cases h
 exact⟨K5,R,(hE.stp S6)⟩
theorem dO {a0 u0}{p0:(List Int)}{c1_0:Int}{b1_0}(g0:Rd (Rp.int .i64) κ w 0 a0 u0 p0) (gb1_0:Bc κ w 0 b1_0 2 [vi c1_0]){r:Bool}(h:cb p0 c1_0=some r):Ret Tryz.prog 216 [.slice a0 p0.length u0,.func (.func 217) #[] #[.pointer (some ⟨b1_0,0,none⟩)]] w (Pvb κ w r):=by
 unfold cb at h
 refine Jk3 κ F216 R N216 R λhE=>Je3 R<|Jg3 [2,2,1,2,2] 2 R<|Ob h λx7 hx7 h=>Jr3 R C47 (eA (κ:=Mk κ) (Ji3 g0) (gb1_0.map (mp [] 0) R R) hx7) ?_
 rintro _ w1 ⟨k2,rfl,e3⟩
 obtain⟨K4,S5,m6⟩:=Ji e3 2 R
 refine Tv<|Jb 2 R<|Ju<|Ja2 (l:=[.tmp 4]) V216 (Jp2 R R) R ?_
 cases h
 exact⟨K4,R,(hE.stp S5)⟩
theorem eu {p0:Sig}  {r:Int}(h:cU p0=some r):Ret Tryz.prog 120 [.agg #[vi p0.In,vi p0.Out]] w (Pvi κ w r):=by
 unfold cU at h
 refine Jk3 κ F120 R N120 R λhE=>Je [1,2] R<|Js3 (κ:=κ) 2 R λb1 w1 K2 S3 f4=>Tv<|Jb 1 R<|Jq<|Je [1,1,2] R<|Jb4 tv R (Jc4 (haE f4.cells) I28 Z28 R)<|Ob h λx4 hx4 h=>Jr3 R C58 (gz (κ:=Mk K2) (p0:=p0) hx4) ?_
 rintro _ w5 ⟨k6,rfl,e7⟩
 obtain⟨K8,S9,m10⟩:=Ji e7 3 R
 refine Tv<|Jb 1 R ?_
 revert h
 cases ht12:(!x4)
 refine JF λh=>Jy R<|Js<|Jp<|Je [2,1,2,1,2,1,2] R<|Jd3 R U28 R Z2 ?_
 have f14:=f4.stp S9
 refine Jb3 R I2 (f14.ld 0 R R)<|Jd3 R U28 R Z2<|Jb3 R I2 (f14.ld 1 R R)<|Jn 1 R<|Ob h λx11 hx11 h=>Jr3 R C62 (dq (κ:=Mk K8) hx11) ?_
 rintro _ w15 ⟨k16,rfl,e17⟩
 obtain⟨K18,S19,m20⟩:=Ji e17 5 R
 refine Tv<|Jb 1 R<|Ju<|Ja2 (l:=[.tmp 2]) V120 (Jp2 R R) R ?_
 cases h
 exact⟨K18,R,(hE.stp<|T3 S3 S9 S19)⟩
 refine JT λh=>Jx R<|Je3 R<|Ju<|Jw<|Ja2 (l:=[.tmp 2]) V120 (Jp2 R R) R ?_
 cases h
 exact⟨K8,R,(hE.stp<|S3.tr S9)⟩
theorem qp {p0:Sig}{p1:Int}{p2:Int}  {r:Int}(h:jX p0 p1 p2=some r):Ret Tryz.prog 94 [.agg #[vi p0.In,vi p0.Out],vi p1,vi p2] w (Pvi κ w r):=by
 unfold jX at h
 refine Jk3 κ F94 R N94 R λhE=>Je [1,2] R<|Js3 (κ:=κ) 2 R λb3 w1 K2 S3 f4=>Tv<|Jb 1 R<|Jq<|Je [1,1,2,2,2,2,1,1,2,1,2,2,2,2,2,1,1,2,1,2,2] R<|Jb4 tv R (Jc4 (haE f4.cells) I28 Z28 R)<|Ob h λx8 hx8 h=>Jr3 R C58 (gz (κ:=Mk K2) (p0:=p0) hx8) ?_
 rintro _ w5 ⟨k6,rfl,e7⟩
 obtain⟨K8,S9,m10⟩:=Ji e7 3 R
 refine Tv<|Jn 2 R<|Ob h λp18 h hK12=>Jq3 [1,2,3] (λE L w'=>L=(18,.bool p18)::E/\∃κ',Stp [] K8 w5 κ' w') [(4,2),(5,2),(6,1),(7,1),(8,2),(9,1),(10,2),(11,2)] [(12,2),(13,2),(14,2),(15,1),(16,1),(17,2),(18,1),(19,2),(20,2)] tv ?_ ?_
 revert h
 cases ht13:(!x8)
 refine JF λh=>Jn 1 R<|Jd3 R U28 R Z2<|Jb3 R I2 ((f4.stp S9).ld 0 R R)<|Ob h λx14 hx14 h=>Jr3 R C62 (dq (κ:=Mk K8) hx14) ?_
 rintro _ w15 ⟨k16,rfl,e17⟩
 obtain⟨K18,S19,m20⟩:=Ji e17 5 R
 refine Tv<|Jn 1 R<|Ob h λx16 hx16 h=>Jr3 R C59 (cX (κ:=Mk K18) hx16) ?_
 rintro _ w22 ⟨k23,rfl,e24⟩
 obtain⟨K25,S26,m27⟩:=Ji e24 7 R
 refine Tv<|Jn 2 R ?_
 cases h
 exact Jv1 _ tv ⟨R,_,(S19.tr S26).wk R⟩<|KM R
 refine JT λh=>Jn 2 R<|Jz3 R<|Jz3 R<|Jn 1 R<|Jz3 R<|Jn 2 R ?_
 cases h
 exact Jv1 _ tv ⟨R,_,Jj3⟩<|KM R
 rintro _ w29 _ ⟨rfl,K30,S31⟩
 have h:=hK12
 refine Jn 1 R<|Ob h λp27 h hK32=>Jq3 [1,2,3] (λE L w'=>L=(27,.bool p27)::E/\∃κ',Stp [] K30 w29 κ' w') [(13,2),(14,2),(15,1),(16,1),(17,2),(18,1),(19,2),(20,2)] [] tv ?_ ?_
 revert h
 cases ht33:p18
 refine JF λh=>Jn 1 R<|Jd3 R U28 R Z2<|Jb3 R I2 ((f4.stp<|S9.tr S31).ld 1 R R)<|Ob h λx23 hx23 h=>Jr3 R C62 (dq (κ:=Mk K30) hx23) ?_
 rintro _ w35 ⟨k36,rfl,e37⟩
 obtain⟨K38,S39,m40⟩:=Ji e37 5 R
 refine Tv<|Jn 1 R<|Ob h λx25 hx25 h=>Jr3 R C59 (cX (κ:=Mk K38) hx25) ?_
 rintro _ w42 ⟨k43,rfl,e44⟩
 obtain⟨K45,S46,m47⟩:=Ji e44 7 R
 refine Tv<|Jn 2 R ?_
 cases h
 exact Jv1 _ tv ⟨R,_,(S39.tr S46).wk R⟩<|KM R
 refine JT λh=>Jn 2 R<|Jz3 R<|Jz3 R<|Jn 1 R<|Jz3 R<|Jn 2 R ?_
 cases h
 exact Jv1 _ tv ⟨R,_,Jj3⟩<|KM R
 rintro _ w49 _ ⟨rfl,K50,S51⟩
 have h:=hK32
 refine Jd ?_
 revert h
 cases ht52:p27
 refine JF λh=>Jy R<|Js<|Jp<|Jg3 [2,2,1,1,2,2,2,2] 1 R<|Jd3 R U28 R Z2<|Jb3 R I2 ((f4.stp<|T3 S9 S31 S51).ld 0 R R)<|Ob h λx31 hx31 h=>Jr3 R C62 (dq (κ:=Mk K50) hx31) ?_
 rintro _ w55 ⟨k56,rfl,e57⟩
 obtain⟨K58,S59,m60⟩:=Ji e57 5 R
 refine Tv<|Jb 4 R<|Ju<|Ja2 (l:=[.tmp 6]) V94 (Jp2 R R) R ?_
 cases h
 exact⟨K58,R,(hE.stp<|T5 S3 S9 S31 S51 S59)⟩
 refine JT λh=>Jx R<|Je3 R<|Ju<|Jw<|Ja2 (l:=[.tmp 6]) V94 (Jp2 R R) R ?_
 cases h
 exact⟨K50,R,(hE.stp<|T4 S3 S9 S31 S51)⟩
theorem mv {p0:Sig}{ab ac aa ad}{p1:Machine}(g1_0:Rd (Rp.sl (Rp.int .i64)) κ w 0 ab ac p1.Next) (g1_1:Rd (Rp.sl (Rp.int .i64)) κ w 0 aa ad p1.Out){r:Bool}(h:fH p0 p1=some r):Ret Tryz.prog 17 [.agg #[vi p0.In,vi p0.Out],.agg #[.slice ab p1.Next.length ac,.slice aa p1.Out.length ad]] w (Pvb κ w r):=by
 unfold fH at h
 refine Jk3 κ F17 R N17 R λhE=>Je [1,1,2] R<|Js3 (κ:=κ) 2 R λb2 w1 K2 S3 f4=>Tv<|Js3 (κ:=K2) 3 R λb3 w5 K6 S7 f8=>Tv<|Jb 1 R<|Je [2,1,2,2] R<|Jd3 R U33 R Z31<|Jb3 R I31 (f8.ld 0 R R)<|Jn3 R U31 R R<|Jb 1 R<|Jq<|Je [1,1,2,2,2,1,2,2,2,2,1,2,2,1,2,2,2] R ?_
 have f9:=f4.stp S7
 refine Jb4 tv R (Jc4 (haE f9.cells) I28 Z28 R)<|Ob h λx11 hx11 h=>Jr3 R C58 (gz (κ:=Mk K6) (p0:=p0) hx11) ?_
 rintro _ w10 ⟨k11,rfl,e12⟩
 obtain⟨K13,S14,m15⟩:=Ji e12 4 R
 refine Tv<|Jn 2 R<|Ob h λp17 h hK17=>Jq3 [2,3,5] (λE L w'=>L=(17,.bool p17)::E/\∃κ',Stp [] K13 w10 κ' w') [(4,2),(5,1),(6,2),(7,2)] [(8,2),(9,2),(10,1),(11,2),(12,2),(13,1),(14,2),(15,2),(16,2)] tv ?_ ?_
 revert h
 cases ht18:(!x11)
 refine JF λh=>Jn 1 R<|Ob h λx15 hx15 h=>Jr3 R C59 (cX (κ:=Mk K13) hx15) ?_
 rintro _ w19 ⟨k20,rfl,e21⟩
 obtain⟨K22,S23,m24⟩:=Ji e21 6 R
 refine Tv<|Jn 2 R ?_
 cases h
 exact Jv1 _ tv ⟨R,_,S23.wk R⟩<|KM R
 refine JT λh=>Jn 1 R<|Jz3 R<|Jn 2 R ?_
 cases h
 exact Jv1 _ tv ⟨R,_,Jj3⟩<|KM R
 rintro _ w26 _ ⟨rfl,K27,S28⟩
 have h:=hK17
 refine Jn 1 R<|Ob h λp26 h hK29=>Jq3 [2,3,5] (λE L w'=>L=(26,.bool p26)::E/\∃κ',Stp [] K27 w26 κ' w') [(9,2),(10,1),(11,2),(12,2),(13,1),(14,2),(15,2),(16,2)] [] tv ?_ ?_
 revert h
 cases ht30:p17
 refine JF λh=>Jd3 R U33 R Z31 ?_
 have f31:=f8.stp (S14.tr S28)
 refine Jb3 R I31 (f31.ld 1 R R)<|Jn3 R U31 R R<|Jd3 R U33 R Z31<|Jb3 R I31 (f31.ld 0 R R)<|Jn3 R U31 R R<|Jn 2 R ?_
 cases h
 exact Jv1 _ tv ⟨R,_,Jj3⟩<|KM R
 refine JT λh=>Jn 1 R<|Jz3 R<|Jn 2 R<|Jz3 R<|Jn 3 R ?_
 cases h
 exact Jv1 _ tv ⟨R,_,Jj3⟩<|KM R
 rintro _ w32 _ ⟨rfl,K33,S34⟩
 have h:=hK29
 refine Jd ?_
 revert h
 cases ht35:p26
 refine JF λh=>Jy R<|Js<|Jp<|Jq<|Je3 R ?_
 have hN37:(p1.Next.length:Int)<=9223372036854775807:=g1_0.len_le
 refine Ob h λq2 hq39 hK38=>?_
 clear h
 refine Jx1 (λL w'=>∃κ',L=[]/\Stp [] K33 w32 κ' w'/\q2=yD ()) ?_ ?_
 refine Jv<|Jp3 [2,3,5] (λk E L w'=>∃κ' v6,L=(6,vi v6)::E/\Stp [] K33 w32 κ' w'/\0<=v6/\yG ((p1.Next.length:Int)-v6)=k/\cntM (fj p0 p1) k v6 ()=some q2) ⟨_,_,⟨K33,0,R,Jj3,(by decide),(by simp),hq39⟩,(KM R)⟩ ?_
 rintro k _ w43 ⟨K44,v6,rfl,S45,hj37,hJ37,h⟩
 rcases k with _ | k
 have hk46:=h;obtain⟨o37,h⟩:=bT (yD (yE ()):Bool⊕((Unit)⊕(Unit)))
 have hc37:decide (v6<(p1.Next.length:Int))=false:=Jo2 (by omega)
 refine Jq<|Jg3 [2,2,1,2,2] 1 R<|Jd3 R U33 R Z31<|Jb3 R I31 ((f8.stp<|T4 S14 S28 S34 S45).ld 0 R R)<|Jn3 R U31 R R<|Jb 1 R<|Jw2 R hc37<|Jc1<|Jt<|Jt ?_
 cases h
 have h:=hk46
 refine Jb1 ?_
 cases h
 exact Jw1 _ ⟨K44,R,S45.wk R,R⟩ KN
 obtain⟨o37,h,hk46⟩:=BI h;unfold fj at h
 have hc37:decide (v6<(p1.Next.length:Int))=true:=Jn2 (by omega)
 refine Jq<|Jg3 [2,2,1,2,2] 1 R<|Jd3 R U33 R Z31 ?_
 have f48:=f8.stp (T4 S14 S28 S34 S45)
 refine Jb3 R I31 (f48.ld 0 R R)<|Jn3 R U31 R R<|Jb 1 R<|Jv2 R hc37<|Js<|Jp<|Jq<|Jv<|Jq<|Js1 (κ:=K44) [0,2,3] none [(0,2),(2,2),(1,0),(3,2),(4,0),(5,2),(6,0),(7,1),(8,2),(9,2),(10,2),(12,2),(16,2),(18,2),(11,0),(13,2),(14,0),(15,2),(17,0),(19,2),(20,0),(21,2),(22,2),(23,2),(24,2),(25,2),(27,2),(30,2),(26,0),(28,2),(29,0),(31,1),(32,2),(33,2),(34,2),(35,2),(37,2),(40,2),(36,0),(38,2),(39,0),(41,0),(42,1),(43,1),(44,2),(45,2)] [] (by kernel_rfl) (by kernel_rfl) λw50 S49=>Jd3 R U33 R Z31<|Jn 1 R ?_
 have f51:=f48.stp S49
 refine Jg R (Jc2 I31 R R<|hvC (f51.ld 0 R R) R)<|Ob h λx37 hx37 h=>Jc3 R g1_0 hx37 U31 Z37 ?_
 have f52:=g1_0.stp (T7 S3 S7 S14 S28 S34 S45 S49)
 obtain⟨ax37,ux37,f53,hl54⟩:=f52.gSl hx37
 refine Jg R (Jc2 I37 R R<|hvC hl54 R)<|Jn3 R U37 R R ?_
 have f55:=f9.stp (T5 S14 S28 S34 S45 S49)
 refine Jg R (Jc4 (haC f55.cells R) I28 Z28 R)<|Ob h λx41 hx41 h=>Jr3 R C60 (my (κ:=Mk K44) (p0:=p0) hx41) ?_
 rintro _ w56 ⟨k57,rfl,e58⟩
 obtain⟨K59,S60,m61⟩:=Ji e58 6 R
 refine⟨(S60.cl R),Jn 2 R<|Ob h λp57 h hK63=>Jq3 [2,3,5,6] (λE L w'=>L=(57,.bool p57)::E/\∃κ',Stp [] K59 w56 κ' w') [(10,2),(12,2),(16,2),(18,2),(11,0),(13,2),(14,0),(15,2),(17,0),(19,2),(20,0),(21,2),(22,2),(23,2)] [(24,2),(25,2),(27,2),(30,2),(26,0),(28,2),(29,0),(31,1),(32,2),(33,2),(34,2),(35,2),(37,2),(40,2),(36,0),(38,2),(39,0),(41,0),(42,1),(43,1),(44,2),(45,2)] (S60.cl R) ?_ ?_⟩
 revert h
 cases ht64:((x37.length:Int) !=x41)
 refine JF λh=>Jd3 R U33 R Z31<|Jn 1 R<|Jd3 R U33 R Z31<|Jn 1 R<|Jg R (Jc2 I31 R R<|hvC (f51.ld 1 R R) R)<|Ob h λx47 hx47 h=>Jc3 R g1_1 hx47 U31 Z37 ?_
 obtain⟨ax47,ux47,f66,hl67⟩:=(g1_1.stp (T7 S3 S7 S14 S28 S34 S45 S49)).gSl hx47
 refine Jg R (Jc2 I37 R R<|hvC hl67 R)<|Jn3 R U37 R R<|Jg R (Jc2 I31 R R<|hvC (f51.ld 0 R R) R)<|Ob h λx53 hx53 h=>Jc3 R f52 hx53 U31 Z37 ?_
 obtain⟨ax53,ux53,f68,hl69⟩:=f52.gSl hx53
 refine Jg R (Jc2 I37 R R<|hvC hl69 R)<|Jn3 R U37 R R<|Jn 2 R ?_
 cases h
 exact Jv1 _ (S60.cl R) ⟨R,_,Jj3⟩<|KM R
 refine JT λh=>Jn 4 R<|Ja4 R<|Jn 1 R<|Ja4 R<|Jn 1 R<|Ja4 R<|Jn 1 R<|Ja4 R<|Jn 3 R ?_
 cases h
 exact Jv1 _ (S60.cl R) ⟨R,_,Jj3⟩<|KM R
 rintro _ w70 _ ⟨rfl,K71,S72⟩
 have h:=hK63
 refine Jn 1 R<|Ob h λp67 h hK73=>Jq3 [2,3,5,6] (λE L w'=>L=(67,.bool p67)::E/\∃κ',Stp [] K71 w70 κ' w') [(25,2),(27,2),(30,2),(26,0),(28,2),(29,0),(31,1),(32,2),(33,2)] [(34,2),(35,2),(37,2),(40,2),(36,0),(38,2),(39,0),(41,0),(42,1),(43,1),(44,2),(45,2)] ((S60.tr S72).cl R) ?_ ?_
 revert h
 cases ht74:p57
 refine JF λh=>Jd3 R U33 R Z31<|Jn 2 R<|Jg R (Jc2 I31 R R<|hvC (f51.ld 0 R R) R)<|Ob h λx62 hx62 h=>Jc3 R f52 hx62 U31 Z37 ?_
 obtain⟨ax62,ux62,f75,hl76⟩:=f52.gSl hx62
 refine Jg R (Jc2 I37 R R<|hvC hl76 R)<|Ob h λx65 hx65 h=>Jr3 R C61 (eW (κ:=Mk K71) (Ji3<|f75.stp<|S60.tr S72) hx65) ?_
 rintro _ w78 ⟨k79,rfl,e80⟩
 obtain⟨K81,S82,m83⟩:=Ji e80 8 R
 refine⟨((T3 S60 S72 S82).cl R),Jn 2 R ?_⟩
 cases h
 exact Jv1 _ ((T3 S60 S72 S82).cl R) ⟨R,_,S82.wk R⟩<|KM R
 refine JT λh=>Jn 3 R<|Ja4 R<|Jn 1 R<|Ja4 R<|Jz3 R<|Jn 2 R ?_
 cases h
 exact Jv1 _ ((S60.tr S72).cl R) ⟨R,_,Jj3⟩<|KM R
 rintro _ w85 _ ⟨rfl,K86,S87⟩
 have h:=hK73
 refine Jn 1 R<|Ob h λp79 h hK88=>Jq3 [2,3,5,6] (λE L w'=>L=(79,.bool p79)::E/\∃κ',Stp [] K86 w85 κ' w') [(35,2),(37,2),(40,2),(36,0),(38,2),(39,0),(41,0),(42,1),(43,1),(44,2),(45,2)] [] ((T3 S60 S72 S87).cl R) ?_ ?_
 revert h
 cases ht89:p67
 refine JF λh=>Jd3 R U33 R Z31<|Jn 1 R<|Jd3 R U28 R Z2<|Jg R (Jc2 I31 R R<|hvC (f51.ld 1 R R) R)<|Ob h λx72 hx72 h=>Jc3 R g1_1 hx72 U31 Z37 ?_
 obtain⟨ax72,ux72,f91,hl92⟩:=(g1_1.stp (T7 S3 S7 S14 S28 S34 S45 S49)).gSl hx72
 refine Jg R (Jc2 I37 R R<|hvC hl92 R)<|Jg R (Jc2 I2 R R<|hvC (f55.ld 1 R R) R)<|Ob h λx76 hx76 h=>Jr3 R C62 (dq (κ:=Mk K86) hx76) ?_
 rintro _ w93 ⟨k94,rfl,e95⟩
 obtain⟨K96,S97,m98⟩:=Ji e95 8 R
 have S001:=(T4 S60 S72 S87 S97)
 refine⟨(S001.cl R),Ob h λx77 hx77 h=>Jr3 R C61 (eW (κ:=Mk K96) (Ji3<|f91.stp S001) hx77) ?_⟩
 rintro _ w101 ⟨k102,rfl,e103⟩
 obtain⟨K104,S105,m106⟩:=Ji e103 10 R
 refine⟨((T5 S60 S72 S87 S97 S105).cl R),Jn 2 R ?_⟩
 cases h
 exact Jv1 _ ((T5 S60 S72 S87 S97 S105).cl R) ⟨R,_,(S97.tr S105).wk R⟩<|KM R
 refine JT λh=>Jn 3 R<|Ja4 R<|Jn 1 R<|Ja4 R<|Ja4 R<|Jz3 R<|Jz3 R<|Jn 2 R ?_
 cases h
 exact Jv1 _ ((T3 S60 S72 S87).cl R) ⟨R,_,Jj3⟩<|KM R
 rintro _ w108 _ ⟨rfl,K109,S110⟩
 have h:=hK88
 refine Jt1<|Jd ?_
 revert h
 cases ht111:p79
 refine JF λh=>Jy R<|Js<|Jz<|Jp<|Jf3 R ?_
 have hw37:yC .i64 (v6+1)=v6+1:=wr1 hj37 (Jm2 hc37) hN37
 rw[hw37]
 have hc37:=Jm2 hc37
 cases h
 exact Jz1 λa ha=>⟨k,_,Ja3 _,⟨K109,v6+1,R,(T6 S45 S49 S60 S72 S87 S110).wk R,by omega,by omega,hk46⟩,(ha.mm R)⟩
 refine JT λh=>Jx R<|Je3 R<|Ju<|Ja1<|Jw<|Jw ?_
 cases h
 obtain rfl:=Option.some.inj hk46
 have h:=yL hK38
 refine Ja1<|Jq2<|Jw<|Ja2 (l:=[.tmp 4]) V17 (Jp2 R R) R ?_
 cases h
 exact⟨K109,R,(hE.stp<|T11 S3 S7 S14 S28 S34 S45 S49 S60 S72 S87 S110)⟩
 rintro _ w40 ⟨K41,rfl,S42,rfl⟩
 have h:=yI hK38
 refine Jp<|Je3 R<|Ju<|Ja2 (l:=[.tmp 4]) V17 (Jp2 R R) R ?_
 cases h
 exact⟨K41,R,(hE.stp<|T6 S3 S7 S14 S28 S34 S42)⟩
 refine JT λh=>Jx R<|Je3 R<|Ju<|Jw<|Ja2 (l:=[.tmp 4]) V17 (Jp2 R R) R ?_
 cases h
 exact⟨K33,R,(hE.stp<|T5 S3 S7 S14 S28 S34)⟩
theorem pX {af ai ac ad}{p0:Clause}{ab ah aa ae}{p1:Word}{a2 u2}{p2:(List Int)}(g0_1:Rd (Rp.int .i64) κ w 0 af ai p0.A) (g0_2:Rd (Rp.int .i64) κ w 0 ac ad p0.B) (g1_0:Rd (Rp.int .i64) κ w 0 ab ah p1.Stem) (g1_1:Rd (Rp.int .i64) κ w 0 aa ae p1.Loop) (g2:Rd (Rp.int .i64) κ w 0 a2 u2 p2){r:Bool}(h:iY p0 p1 p2=some r):Ret Tryz.prog 154 [.agg #[vi p0.Kind,.slice af p0.A.length ai,.slice ac p0.B.length ad],.agg #[.slice ab p1.Stem.length ah,.slice aa p1.Loop.length ae],.slice a2 p2.length u2] w (Pvb κ w r):=by
 unfold iY at h
 refine Jk3 κ F154 R N154 R λhE=>Je [1,1,2] R<|Js3 (κ:=κ) 2 R λb3 w1 K2 S3 f4=>Tv<|Js3 (κ:=K2) 3 R λb4 w5 K6 S7 f8=>Tv<|Jb 1 R<|Jq<|Je [2,1,2,1,1] R<|Jd3 R U39 R Z37<|Jb3 R I37 (f8.ld 1 R R)<|Jd3 R U67 R Z37 ?_
 have f9:=f4.stp S7
 refine Jb3 R I37 (f9.ld 2 R R)<|Ob h λx12 hx12 h=>?_
 have f11:=g0_2.stp (S3.tr S7)
 refine Jr3 R C155 (fS (κ:=Mk K6) (Ji3<|g1_1.stp<|S3.tr S7) (Ji3 f11) hx12) ?_
 rintro _ w12 ⟨k13,rfl,e14⟩
 obtain⟨K15,S16,m17⟩:=Ji e14 4 R
 refine Tv<|Jd ?_
 revert h
 cases ht19:x12
 refine JF λh=>Jy R<|Js<|Jp<|Jq<|Je3 R ?_
 have hN21:(p2.length:Int)<=9223372036854775807:=g2.len_le
 refine Ob h λq2 hq23 hK22=>?_
 clear h
 refine Jx1 (λL w'=>∃κ',L=[]/\Stp [] K15 w12 κ' w'/\q2=yD ()) ?_ ?_
 refine Jv<|Jp3 [2,3] (λk E L w'=>∃κ' v7,L=(7,vi v7)::E/\Stp [] K15 w12 κ' w'/\0<=v7/\yG ((p2.length:Int)-v7)=k/\cntM (fG p0 p2) k v7 ()=some q2) ⟨_,_,⟨K15,0,R,Jj3,(by decide),(by simp),hq23⟩,(KM R)⟩ ?_
 rintro k _ w27 ⟨K28,v7,rfl,S29,hj21,hJ21,h⟩
 rcases k with _ | k
 have hk30:=h;obtain⟨o21,h⟩:=bT (yD (yE ()):Bool⊕((Unit)⊕(Unit)))
 have hc21:decide (v7<(p2.length:Int))=false:=Jo2 (by omega)
 refine Jq<|Jg3 [2,2,2,2] 2 R<|Jn3 R U37 R R<|Jb 1 R<|Jw2 R hc21<|Jc1<|Jt<|Jt ?_
 cases h
 have h:=hk30
 refine Jb1 ?_
 cases h
 exact Jw1 _ ⟨K28,R,S29.wk R,R⟩ KN
 obtain⟨o21,h,hk30⟩:=BI h;unfold fG at h
 have hc21:decide (v7<(p2.length:Int))=true:=Jn2 (by omega)
 refine Jq<|Jg3 [2,2,2,2] 2 R<|Jn3 R U37 R R<|Jb 1 R<|Jv2 R hc21<|Js<|Jp<|Jq<|Jv<|Jq<|Js1 (κ:=K28) [0,2] none [(0,2),(2,2),(3,2),(4,2),(1,0),(5,0),(6,1),(7,2),(8,2),(9,2),(10,2),(11,2),(12,0),(13,1),(14,2),(15,2)] [] (by kernel_rfl) (by kernel_rfl) λw32 S31=>Jd3 R U67 R Z37<|Jn 2 R<|Ob h λx23 hx23 h=>Jc3 R g2 hx23 U37 Z2 ?_
 have f33:=f9.stp (T3 S16 S29 S31)
 refine Jg R (Jc2 I37 R R<|hvC (f33.ld 1 R R) R) ?_
 have f34:=g2.stp (T5 S3 S7 S16 S29 S31)
 refine Jg R (Jc2 I2 R R<|hvC (f34.gInt hx23) R)<|Ob h λx25 hx25 h=>Jr3 R C81 (dK (κ:=Mk K28) (Ji3<|g0_1.stp<|T5 S3 S7 S16 S29 S31) hx25) ?_
 rintro _ w36 ⟨k37,rfl,e38⟩
 obtain⟨K39,S40,m41⟩:=Ji e38 6 R
 refine⟨(S40.cl R),Jn 1 R<|Ob h λp34 h hK43=>Jq3 [2,3,7] (λE L w'=>L=(34,.bool p34)::E/\∃κ',Stp [] K39 w36 κ' w') [(8,2),(9,2),(10,2),(11,2),(12,0),(13,1),(14,2),(15,2)] [] (S40.cl R) ?_ ?_⟩
 revert h
 cases ht44:x25
 refine JF λh=>Jn 4 R<|Ja4 R<|Jz3 R<|Jn 2 R ?_
 cases h
 exact Jv1 _ (S40.cl R) ⟨R,_,Jj3⟩<|KM R
 refine JT λh=>Jn 2 R<|Ob h λx29 hx29 h=>Jf R (kN (k1:= .i64) (k2:= .i64) U37 Z2 (.inr ⟨_,R,R⟩) (.inl ⟨R,R⟩) hx29 f34.1 R R R)<|Jd3 R U67 R Z37<|Jg R (Jc2 I37 R R<|hvC (f33.ld 2 R R) R)<|Ob h λx32 hx32 h=>Jr3 R C155 (fS (κ:=Mk K39) (Ji3 ((f34.stp S40).sub hx29)) (Ji3<|f11.stp<|T4 S16 S29 S31 S40) hx32) ?_
 rintro _ w48 ⟨k49,rfl,e50⟩
 obtain⟨K51,S52,m53⟩:=Ji e50 8 R
 refine⟨((S40.tr S52).cl R),Jn 2 R ?_⟩
 cases h
 exact Jv1 _ ((S40.tr S52).cl R) ⟨R,_,S52.wk R⟩<|KM R
 rintro _ w55 _ ⟨rfl,K56,S57⟩
 have h:=hK43
 refine Jt1<|Jd ?_
 revert h
 cases ht58:p34
 refine JF λh=>Jy R<|Js<|Jz<|Jp<|Jf3 R ?_
 have hw21:yC .i64 (v7+1)=v7+1:=wr1 hj21 (Jm2 hc21) hN21
 rw[hw21]
 have hc21:=Jm2 hc21
 cases h
 exact Jz1 λa ha=>⟨k,_,Ja3 _,⟨K56,v7+1,R,(T4 S29 S31 S40 S57).wk R,by omega,by omega,hk30⟩,(ha.mm R)⟩
 refine JT λh=>Jx R<|Je3 R<|Ju<|Ja1<|Jw<|Jw ?_
 cases h
 obtain rfl:=Option.some.inj hk30
 have h:=yL hK22
 refine Ja1<|Jq2<|Jw<|Ja2 (l:=[.tmp 6]) V154 (Jp2 R R) R ?_
 cases h
 exact⟨K56,R,(hE.stp<|T7 S3 S7 S16 S29 S31 S40 S57)⟩
 rintro _ w24 ⟨K25,rfl,S26,rfl⟩
 have h:=yI hK22
 refine Jp<|Je3 R<|Ju<|Ja2 (l:=[.tmp 6]) V154 (Jp2 R R) R ?_
 cases h
 exact⟨K25,R,(hE.stp<|T4 S3 S7 S16 S26)⟩
 refine JT λh=>Jx R<|Je3 R<|Ju<|Jw<|Ja2 (l:=[.tmp 6]) V154 (Jp2 R R) R ?_
 cases h
 exact⟨K15,R,(hE.stp<|T3 S3 S7 S16)⟩
end Go.Proofs.YtleekpaohfpooaaGreat
