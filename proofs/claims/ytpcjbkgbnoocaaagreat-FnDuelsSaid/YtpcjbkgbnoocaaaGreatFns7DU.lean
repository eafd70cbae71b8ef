/- The walks, part 7. By program. -/
import Derived.Test.YtpcjbkgbnoocaaaGreatFns5DU
set_option linter.unusedVariables false
set_option linter.unusedSimpArgs false
open Sum renaming inr → yk
namespace Go.Proofs.YtpcjbkgbnoocaaaGreat
open Go Go.Wk Go.Proofs
set_option maxRecDepth 100000
set_option maxHeartbeats 1000000
variable {w:World}{κ:Col}
theorem nh {aO aL aJ aP}{p0:Arena}{a1 u1}{p1:(List Pair)}{p2:Int}(g0_0:Rd (Rp.int .i64) κ w 0 aO aL p0.Owner) (g0_1:Rd (Rp.sl (Rp.int .i64)) κ w 0 aJ aP p0.Next) (g1:Rd Pair.rp κ w 0 a1 u1 p1){r:Parity×(List Place)×Bool}(h:dp p0 p1 p2=some r):Ret Tryz.prog 70 [.agg #[.slice aO p0.Owner.length aL,.slice aJ p0.Next.length aP],.slice a1 p1.length u1,vi p2] w (λv w'=>∃(κ':Col) (ra0:Option Addr) (ru0:Nat) (ra1:Option Addr) (ru1:Nat) (ra2:Option Addr) (ru2:Nat) (ra3:Option Addr) (ru3:Nat),v= .tuple #[.agg #[.slice ra0 r.1.Arena.Owner.length ru0,.slice ra1 r.1.Arena.Next.length ru1,.slice ra2 r.1.Prio.length ru2],.slice ra3 r.2.1.length ru3,.bool r.2.2]/\Ent κ w κ' w'/\Oc E6 2 κ' w' 2 ra0 ru0 r.1.Arena.Owner/\Oc (Ep.own E6 2) 29 κ' w' 3 ra1 ru1 r.1.Arena.Next/\Oc E6 2 κ' w' 4 ra2 ru2 r.1.Prio/\Oc (Ep.fz Place.rp) 116 κ' w' 5 ra3 ru3 r.2.1):=by
 unfold dp at h
 refine Jk3 κ F70 R N70 R λhE=>Je [1,1,2,2] R<|Jf1 (κ:=κ) 2 R R R R R R R λb3 w1 K2 S3 f4=>Tv<|Jg1 (κ:=K2) 3 R R R R R X108 R λb6 w5 K6 S7 f8=>Tv<|Jb 2 R<|Je [2,1,2,2] R<|Jd3 R U104 R Z29 ?_
 have f9:=f4.stp S7 R R
 refine Jb3 R I29 (f9.ld 0 R R)<|Jn3 R U29 R R<|Jb 1 R<|Jq<|Je [1,1,2,2,2,2,1,2,2,2,2,2,2,1,2,2] R<|Jl tv R R R R (Jd2 (cs:=[.slice aO p0.Owner.length aL,.slice aJ p0.Next.length aP]) I104 Z104 R R R<|haE f9.cells)<|Ob h λx25 hx25 h=>?_
 have f10:=g0_0.stp (S3.tr S7) R R
 have f11:=g0_1.stp (S3.tr S7) R R
 refine Jh R R R C119 (n7 (κ:=Mk K6) (p0:=p0) (Ji3 f10) (Ji3 f11) hx25) ?_
 rintro _ w12 ⟨k13,rfl,e14⟩
 obtain⟨K15,S16,m17⟩:=Ji e14 4 R
 refine Tv<|Jn 2 R<|Ob h λp32 h hK19=>Ju1 [(4,2),(5,2),(6,1),(7,2),(8,2)] [(9,2),(10,2),(11,2),(12,2),(13,1),(14,2),(15,2)] (λL w'=>L=[(1,.slice a1 p1.length u1),(2,vi p2),(3,.pointer (some ⟨b3,0,none⟩)),(6,.pointer (some ⟨b6,0,none⟩)),(9,vi (p0.Owner.length:Int)),(32,.bool p32)]/\∃κ',Stp [] K15 w12 κ' w') tv ?_ ?_
 revert h
 cases ht20:(!x25)
 refine JF λh=>Jn 2 R<|Ob h λx30 hx30 h=>Jh R R R C120 (nS (κ:=Mk K15) (Ji3<|g1.stp (T3 S3 S7 S16) R R) hx30) ?_
 rintro _ w22 ⟨k23,rfl,e24⟩
 obtain⟨K25,S26,m27⟩:=Ji e24 6 R
 refine Tv<|Jn 2 R ?_
 cases h
 exact Jv1 _ tv ⟨R,_,S26.wk R⟩<|KM R
 refine JT λh=>Jn 2 R<|Jd1 R R R R<|Jn 2 R ?_
 cases h
 exact Jv1 _ tv ⟨R,_,Jj3⟩<|KM R
 rintro _ w29 _ ⟨rfl,K30,S31⟩
 have h:=hK19
 refine Jn 1 R<|Ob h λp39 h hK32=>Ju1 [(10,2),(11,2),(12,2),(13,1),(14,2),(15,2)] [] (λL w'=>L=[(1,.slice a1 p1.length u1),(2,vi p2),(3,.pointer (some ⟨b3,0,none⟩)),(6,.pointer (some ⟨b6,0,none⟩)),(39,.bool p39)]/\∃κ',Stp [] K30 w29 κ' w') tv ?_ ?_
 revert h
 cases ht33:p32
 refine JF λh=>Jn 3 R<|Ob h λx37 hx37 h=>Jh R R R C57 (cu (κ:=Mk K30) hx37) ?_
 rintro _ w34 ⟨k35,rfl,e36⟩
 obtain⟨K37,S38,m39⟩:=Ji e36 6 R
 refine Tv<|Jn 2 R ?_
 cases h
 exact Jv1 _ tv ⟨R,_,S38.wk R⟩<|KM R
 refine JT λh=>Jn 3 R<|Jd1 R R R R<|Jn 2 R ?_
 cases h
 exact Jv1 _ tv ⟨R,_,Jj3⟩<|KM R
 rintro _ w41 _ ⟨rfl,K42,S43⟩
 have h:=hK32
 refine Jd ?_
 revert h
 cases ht44:p39
 refine JF λh=>Jy R<|Js<|Jp<|Je [1,2] R<|Jo1 (κ:=K42) (E:=E6) 6 R R R R R Y29 a8 R λbj bh w55 K56 S57 f58=>Tv<|Jb 1 R<|Jq<|Je3 R ?_
 have hN59:(p1.length:Int)<=9223372036854775807:=g1.len_le
 refine Ob h λq2 hq61 hK60=>?_
 clear h
 refine Jx1 (λL w'=>∃κ',∃s3:(List Int),∃ad ah,L=[(1,.slice a1 p1.length u1),(2,vi p2),(3,.pointer (some ⟨b3,0,none⟩)),(6,.pointer (some ⟨b6,0,none⟩)),(10,.slice ad s3.length ah)]/\Stp [6] K56 w55 κ' w'/\Oc E6 2 κ' w' 6 ad ah s3/\q2=yk s3) ?_ ?_
 refine Jv<|Jy1 (λk L w'=>∃κ' v11,∃s1:(List Int),∃aG aB,L=[(1,.slice a1 p1.length u1),(2,vi p2),(3,.pointer (some ⟨b3,0,none⟩)),(6,.pointer (some ⟨b6,0,none⟩)),(10,.slice aG s1.length aB),(11,vi v11)]/\Stp [6] K56 w55 κ' w'/\Oc E6 2 κ' w' 6 aG aB s1/\0<=v11/\Int.toNat ((p1.length:Int)-v11)=k/\cntM dM k v11 s1=some q2) ⟨_,_,⟨K56,0,(([]:List Int):(List Int)),bj,bh,R,Jj3,f58,(by decide),(by simp),hq61⟩,(KM R)⟩ ?_
 rintro k _ w66 ⟨K67,v11,s1,aG,aB,rfl,S68,f69,hj59,hJ59,h⟩
 rcases k with _ | k
 have hk70:=h;obtain⟨o59,h⟩:=ca (yk (Sum.inl s1):(Parity×(List Place)×Bool)⊕(((List Int))⊕((List Int))))
 have hc59:decide (v11<(p1.length:Int))=false:=Jo2 (by omega)
 refine Jq<|Jg3 [2,2,2,2] 2 R<|Jn3 R U98 R R<|Jb 1 R<|Jw2 R hc59<|Jc1<|Jt<|Jt ?_
 cases h
 have h:=hk70
 refine Jb1 ?_
 cases h
 exact Jw1 _ ⟨K67,s1,aG,aB,R,S68.wk R,f69,R⟩<|KM R
 obtain⟨o59,h,hk70⟩:=BI h;unfold dM at h
 have hc59:decide (v11<(p1.length:Int))=true:=Jn2 (by omega)
 refine Jq<|Jg3 [2,2,2,2] 2 R<|Jn3 R U98 R R<|Jb 1 R<|Jv2 R hc59<|Js<|Jp<|Jq<|Jv<|Jh3 [2,2,1,1,2] 2 R<|Jn1 (κ:=K67) (E:=E6) 7 [] (parts:=[(0,.tmp 50)]) (cells:=[vi v11]) (xs:=([v11]:List Int)) R R R R R R Y29 a8 R R R R R R R R R R ⟨[vi v11],[],Zl K67 w66 [],Zl K67 w66 [],R,Zl.sp (l1:=[]) (l2:=[]) R,Zl.sr (l1:=[]) (l2:=[]),R,R⟩ λbz bt w71 K72 S73 f74=>Tv<|Ob h λx52 hx52 h=>Jm1 (κ:=K72) (E:=E6) 6 [] R R R R R R R R R Y29 a8 R R R R (f69.stp S73 R R) (Sl.srcP (bM _) f74.rdc) bH hx52 R λaY bk w76 K77 S78 f79=>Tv<|Jc 1 R<|Jz<|Jp<|Jf3 R ?_
 have hw59:IntKind.wrap .i64 (v11+1)=v11+1:=wr1 hj59 (Jm2 hc59) hN59
 rw[hw59]
 have hc59:=Jm2 hc59
 cases h
 exact Jz1 λa ha=>⟨k,_,Ja3 _,⟨K77,v11+1,x52,aY,bk,R,(T3 S68 S73 S78).wk R,f79,by omega,by omega,hk70⟩,(ha.mm R)⟩
 rintro _ w62 ⟨K63,s3,ad,ah,rfl,S64,f65,rfl⟩
 have h:=yI hK60
 refine Jp<|Jg3 [2,2,2,1,2] 2 R<|Jf R (bG (parts:=[(0,.tmp 53),(1,.tmp 54)]) (cells:=[vi p2,.slice ad s3.length ah]) R R (by kernel_rfl)) ?_
 obtain⟨K80,S81,z82⟩:=eR K63 w62 6
 refine Jn1 (κ:=K80) (E:=(Ep.fz Place.rp)) 7 [] (parts:=[(0,.tmp 55)]) (cells:=[vi p2,.slice ad s3.length ah]) (xs:=([(⟨p2,s3⟩:Place)]:List Place)) R R R R R R Y109 jf R R R R R R R R R R ⟨[vi p2,.slice ad s3.length ah],[],Zl K80 w62 [],Zl K80 w62 [],R,Zl.sp (l1:=[]) (l2:=[]) R,Zl.sr (l1:=[]) (l2:=[]),(Place.mk_rel (x:=(⟨p2,s3⟩:Place))<|Sl.z1<|Sl.st z82 f65.rdc),R⟩ λba bg w84 K85 S86 f87=>Tv<|Jb 1 R<|Je [2,1,1] R<|Jf R (bG (parts:=[]) (cells:=[.slice none 0 0,.slice none 0 0,.slice none 0 0]) R R (by kernel_rfl))<|Jg1 (κ:=K85) 8 R R R R R X108 R λb13 w88 K89 S90 f91=>Tv<|Jj1 (κ:=K89) 8 (vc:=[.slice none 0 0,.slice none 0 0,.slice none 0 0]) R R R R R R R Z108 R R f91 R λw92 S93 f94=>Tv<|Jd<|Jq<|Je3 R<|Ob h λq5 hq97 hK96=>?_
 clear h
 refine Jx1 (λL w'=>∃κ',∃s6:(List Place)×Int×(List Int)×(List<|List Int)×(List Int),∃aC aA ae aa ai af ab aj,L=[(6,.pointer (some ⟨b6,0,none⟩)),(12,.slice aC s6.1.length aA),(13,.pointer (some ⟨b13,0,none⟩))]/\Stp [7,8,9,10,11,12,16,19,20,21] K89 w92 κ' w'/\Oc (Ep.fz Place.rp) 116 κ' w' 7 aC aA s6.1/\Oc E6 2 κ' w' 9 ae aa s6.2.2.1/\Oc (Ep.own E6 2) 29 κ' w' 10 ai af s6.2.2.2.1/\Oc E6 2 κ' w' 11 ab aj s6.2.2.2.2/\Bc κ' w' 8 b13 108 [.slice ae s6.2.2.1.length aa,.slice ai s6.2.2.2.1.length af,.slice ab s6.2.2.2.2.length aj]/\q5=yk s6) ?_ ?_
 refine Jv<|Jy1 (λk L w'=>∃κ',∃s4:(List Place)×Int×(List Int)×(List<|List Int)×(List Int),∃an aq ay aF au ar ac ak,L=[(1,.slice a1 p1.length u1),(3,.pointer (some ⟨b3,0,none⟩)),(6,.pointer (some ⟨b6,0,none⟩)),(12,.slice an s4.1.length aq),(13,.pointer (some ⟨b13,0,none⟩)),(14,vi s4.2.1)]/\Stp [7,8,9,10,11,12,16,19,20,21] K89 w92 κ' w'/\Oc (Ep.fz Place.rp) 116 κ' w' 7 an aq s4.1/\Oc E6 2 κ' w' 9 ay aF s4.2.2.1/\Oc (Ep.own E6 2) 29 κ' w' 10 au ar s4.2.2.2.1/\Oc E6 2 κ' w' 11 ac ak s4.2.2.2.2/\Bc κ' w' 8 b13 108 [.slice ay s4.2.2.1.length aF,.slice au s4.2.2.2.1.length ar,.slice ac s4.2.2.2.2.length ak]/\bI (dO p0 p1) k s4=some q5) ⟨_,_,⟨K89,((([(⟨p2,s3⟩:Place)]:List Place):(List Place)),(0:Int),(([]:List Int):(List Int)),(([]:List (List Int)):(List<|List Int)),(([]:List Int):(List Int))),ba,bg,none,0,none,0,none,0,R,Jj3,(f87.stp (S90.tr S93) R R),Ow.nil,Ow.nil,Ow.nil,f94,hq97⟩,(KM R)⟩ ?_
 rintro k _ w106 ⟨K107,s4,an,aq,ay,aF,au,ar,ac,ak,rfl,S108,f109,f110,f111,f112,f113,h⟩
 rcases k with _ | k
 cases h
 obtain⟨o95,h,hk115⟩:=BI h;unfold dO at h
 refine Jq<|Jg3 [2,2,2,2] 2 R<|Jn3 R U109 R R<|Jb 1 R ?_
 revert h
 cases ht116:decide (s4.2.1<(s4.1.length:Int))
 refine JF λh=>Jy R<|Jc1<|Jt<|Jt ?_
 cases h
 have h:=hk115
 refine Jb1 ?_
 cases h
 exact Jw1 _ ⟨K107,(s4.1,s4.2.1,s4.2.2.1,s4.2.2.2.1,s4.2.2.2.2),an,aq,ay,aF,au,ar,ac,ak,R,S108.wk R,f109,f110,f111,f112,f113,R⟩<|KM R
 refine JT λh=>Jx R<|Js<|Jp<|Jq<|Jv<|Jg3 [2,2,2,1,1,1] 2 R<|Ob h λx66 hx66 h=>Jc3 R f109.rdc hx66 U109 Z116 ?_
 obtain⟨cse117,hre117,hle117⟩:=Ow.gZS f109 hx66
 obtain⟨ae117_0,ue117_0,rfl,fe117_0⟩:=Place.un hre117
 refine Jl tv R R R R (Jd2 (cs:=[vi x66.At,.slice ae117_0 x66.Record.length ue117_0]) I116 Z116 R R R<|haE hle117)<|Jg1 (κ:=K107) 12 R R R R R X116 R λb15 w118 K119 S120 f121=>Tv<|Jj1 (κ:=K119) 12 (vc:=[vi x66.At,.slice ae117_0 x66.Record.length ue117_0]) R R R R R R R Z116 R R f121 R λw122 S123 f124=>Tv<|Jd<|Jg3 [2,2,1,2,1,1,2] 1 R<|Jd3 R U116 R Z29<|Jb3 R I29 (f124.ld 1 R R)<|Jd3 R U116 R Z2<|Jb3 R I2 (f124.ld 0 R R)<|Ob h λx73 hx73 h=>?_
 have f125:=g1.stp (T14 S3 S7 S16 S31 S43 S57 S64 S81 S86 S90 S93 S108 S120 S123) R R
 have f126:=fe117_0.stp (S120.tr S123) R R
 refine Jh R R R C121 (rC (κ:=Mk K119) (Ji3 f125) (Ji3 f126) hx73) ?_
 rintro _ w127 ⟨k128,aU,aV,rfl,e129,f130⟩
 obtain⟨K131,S132,m133⟩:=Ji e129 13 R
 refine Tv<|Jb 1 R<|Je [1,2] R<|Jo1 (κ:=K131) (E:=E6) 16 R R R R R Y29 a8 R λbf bc w136 K137 S138 f139=>Tv<|Jb 1 R<|Jq<|Je3 R<|Ob h λq8 hq142 hK141=>?_
 clear h
 refine Jx1 (λL w'=>∃κ',∃s9:(List Place)×(List Int)×Int,∃aI aD aN aK,L=[(1,.slice a1 p1.length u1),(3,.pointer (some ⟨b3,0,none⟩)),(6,.pointer (some ⟨b6,0,none⟩)),(12,.slice aI s9.1.length aD),(13,.pointer (some ⟨b13,0,none⟩)),(14,vi s4.2.1),(15,.pointer (some ⟨b15,0,none⟩)),(17,.slice aN s9.2.1.length aK)]/\Stp [7,16,19,20] K137 w136 κ' w'/\Oc (Ep.fz Place.rp) 116 κ' w' 7 aI aD s9.1/\Oc E6 2 κ' w' 16 aN aK s9.2.1/\q8=yk s9) ?_ ?_
 refine Jv<|Jy1 (λk L w'=>∃κ',∃s7:(List Place)×(List Int)×Int,∃ap ao al am,L=[(1,.slice a1 p1.length u1),(3,.pointer (some ⟨b3,0,none⟩)),(6,.pointer (some ⟨b6,0,none⟩)),(12,.slice ap s7.1.length ao),(13,.pointer (some ⟨b13,0,none⟩)),(14,vi s4.2.1),(15,.pointer (some ⟨b15,0,none⟩)),(16,.slice aU x73.length aV),(17,.slice al s7.2.1.length am),(18,vi s7.2.2)]/\Stp [7,16,19,20] K137 w136 κ' w'/\Oc (Ep.fz Place.rp) 116 κ' w' 7 ap ao s7.1/\Oc E6 2 κ' w' 16 al am s7.2.1/\bI (eO p0 x66 x73) k s7=some q8) ⟨_,_,⟨K137,(s4.1,(([]:List Int):(List Int)),(0:Int)),an,aq,bf,bc,R,Jj3,(f109.stp (T4 S120 S123 S132 S138) R R),f139,hq142⟩,(KM R)⟩ ?_
 rintro k _ w148 ⟨K149,s7,ap,ao,al,am,rfl,S150,f151,f152,h⟩
 rcases k with _ | k
 cases h
 obtain⟨o140,h,hk154⟩:=BI h;unfold eO at h
 refine Jq<|Jg3 [2,2,1,2,1,2,1,2,2] 1 R<|Jd3 R U104 R Z26 ?_
 have f155:=f9.stp (T15 S16 S31 S43 S57 S64 S81 S86 S90 S93 S108 S120 S123 S132 S138 S150) R R
 refine Jb3 R I26 (f155.ld 1 R R)<|Jd3 R U116 R Z2 ?_
 have f156:=f124.stp (T3 S132 S138 S150) R R
 refine Jb3 R I2 (f156.ld 0 R R)<|Ob h λx80 hx80 h=>Jc3 R f11 hx80 U26 Z29 ?_
 have f157:=f11.stp (T15 S16 S31 S43 S57 S64 S81 S86 S90 S93 S108 S120 S123 S132 S138 S150) R R
 obtain⟨ax80,ux80,f158,hl159⟩:=f157.gSl hx80
 refine Jb3 R I29 hl159<|Jn3 R U29 R R<|Jb 1 R ?_
 revert h
 cases ht160:decide (s7.2.2<(x80.length:Int))
 refine JF λh=>Jy R<|Jc1<|Jt<|Jt ?_
 cases h
 have h:=hk154
 refine Jb1 ?_
 cases h
 exact Jw1 _ ⟨K149,(s7.1,s7.2.1,s7.2.2),ap,ao,al,am,R,S150.wk R,f151,f152,R⟩<|KM R
 refine JT λh=>Jx R<|Js<|Jp<|Jq<|Jv<|Je [2,1,2,1,2,1,2,2,1,2] R<|Jd3 R U104 R Z26<|Jb3 R I26 (f155.ld 1 R R)<|Jd3 R U116 R Z2<|Jb3 R I2 (f156.ld 0 R R)<|Ob h λx90 hx90 h=>Jc3 R f157 hx90 U26 Z29 ?_
 obtain⟨ax90,ux90,f161,hl162⟩:=f157.gSl hx90
 refine Jb3 R I29 hl162<|Jn 1 R<|Ob h λx93 hx93 h=>Jc3 R f161 hx93 U29 Z2<|Jb3 R I2 (f161.gInt hx93)<|Jb 1 R<|Jg3 [2,2,2,1,2] 3 R<|Ob h λx98 hx98 h=>?_
 have f163:=(f130.mx (bD _) m133 R (R:13+2=15)).stp (S138.tr S150) R R
 refine Jh R R R C122 (rR (κ:=Mk K149) (Ji3 f151.rdc) (Ji3 f163.rdc) hx98) ?_
 rintro _ w164 ⟨k165,rfl,e166⟩
 obtain⟨K167,S168,m169⟩:=Ji e166 17 R
 refine Tv<|Jb 1 R<|Jq<|Je3 R<|Ob h λq10 h hK171=>Jx1 (λL w'=>∃κ',∃z10:(List Place)×Int,∃ax aE,L=[(1,.slice a1 p1.length u1),(3,.pointer (some ⟨b3,0,none⟩)),(6,.pointer (some ⟨b6,0,none⟩)),(12,.slice ax z10.1.length aE),(13,.pointer (some ⟨b13,0,none⟩)),(14,vi s4.2.1),(15,.pointer (some ⟨b15,0,none⟩)),(16,.slice aU x73.length aV),(17,.slice al s7.2.1.length am),(18,vi s7.2.2),(20,vi z10.2)]/\Stp [7,19,20] K167 w164 κ' w'/\Oc (Ep.fz Place.rp) 116 κ' w' 7 ax aE z10.1/\q10=yk z10) ?_ ?_
 revert h
 cases ht176:decide (x98<0)
 refine JF λh=>Jy R<|Js ?_
 cases h
 exact Jw1 _ ⟨K167,(s7.1,x98),ap,ao,R,Jj3,(f151.stp S168 R R),R⟩<|KM R
 refine JT λh=>Jx R<|Jg3 [2,2,2] 1 R<|Jn3 R U109 R R<|Jb 1 R<|Jq<|Je3 R ?_
 revert h
 cases ht177:decide (256<=(s7.1.length:Int))
 refine JF λh=>Jy R<|Js<|Jp<|Jh3 [2,2,1,2,1,2,1,1,2] 2 R<|Jo1 (κ:=K167) (E:=E6) 19 R R R R R Y29 a8 R λbp bq w188 K189 S190 f191=>Tv<|Jn 1 R<|Ob h λx111 hx111 h=>Jm1 (κ:=K189) (E:=E6) 19 [] R R R R R R R R R Y29 a8 R R R R f191 (Sl.srcP (bM _) (f163.stp (S168.tr S190) R R).rdc) bH hx111 R λaQ aR w193 K194 S195 f196=>Tv<|Jf R (bG (parts:=[(0,.tmp 108),(1,.tmp 111)]) (cells:=[vi x93,.slice aQ x111.length aR]) R R (by kernel_rfl)) ?_
 obtain⟨K197,S198,z199⟩:=eR K194 w193 19
 refine Jn1 (κ:=K197) (E:=(Ep.fz Place.rp)) 20 [] (parts:=[(0,.tmp 112)]) (cells:=[vi x93,.slice aQ x111.length aR]) (xs:=([(⟨x93,x111⟩:Place)]:List Place)) R R R R R R Y109 jf R R R R R R R R R R ⟨[vi x93,.slice aQ x111.length aR],[],Zl K197 w193 [],Zl K197 w193 [],R,Zl.sp (l1:=[]) (l2:=[]) R,Zl.sr (l1:=[]) (l2:=[]),(Place.mk_rel (x:=(⟨x93,x111⟩:Place))<|Sl.z1<|Sl.st z199 f196.rdc),R⟩ λbB bn w201 K202 S203 f204=>Tv<|Ob h λx114 hx114 h=>Jm1 (κ:=K202) (E:=(Ep.fz Place.rp)) 7 [20] R R R R R R R R R Y109 jf R R R R (f151.stp (T5 S168 S190 S195 S198 S203) R R) f204.src (dz R) hx114 R λbi aX w206 K207 S208 f209=>Tv<|Jc 1 R ?_
 cases h
 exact Jw1 _ ⟨K207,(x114,((s7.1.length:Int):Int)),bi,aX,R,(T5 S190 S195 S198 S203 S208).wk R,f209,R⟩<|KM R
 refine JT λh=>Jx R<|Je [2,1,1,2,2] R<|Jf R (bG (parts:=[]) (cells:=[.slice none 0 0,.slice none 0 0,.slice none 0 0]) R R (by kernel_rfl))<|Jo1 (κ:=K167) (E:=(Ep.fz Place.rp)) 19 R R R R R Y109 jf R λbl bb w178 K179 S180 f181=>Tv<|Jj1 (κ:=K179) 3 (vc:=[.slice none 0 0,.slice none 0 0,.slice none 0 0]) R R R R R R R Z108 R R (f8.stp (S16.tr<|S31.tr<|S43.tr<|S57.tr<|S64.tr<|S81.tr<|S86.tr<|S90.tr<|S93.tr<|S108.tr<|S120.tr<|S123.tr<|S132.tr<|S138.tr<|S150.tr<|S168.tr S180) R R) R λw183 S184 f185=>Tv<|Jb 2 R<|Ju<|Jw<|Jq2 ?_
 cases h
 have h:=hK171
 dsimp only[aft]at h
 refine Jw<|Ja1<|Jw<|Jw ?_
 cases h
 obtain rfl:=Option.some.inj hk154
 have h:=yL hK141
 refine Ja1<|Jq2<|Jw<|Ja1<|Jw<|Jw ?_
 cases h
 obtain rfl:=Option.some.inj hk115
 have h:=yL hK96
 refine Ja1<|Jq2<|Jw<|Ja2 (l:=[.cell 6 108,.tmp 7,.tmp 8]) V70 (bF R f185 I108 Z108 R<|Jp2 R<|Jp2 R R) R ?_
 cases h
 exact⟨(λb=>ren [(19,5)]<|K179 b),none,0,none,0,none,0,bl,bb,R,((hE.stp (S3.tr<|S7.tr<|S16.tr<|S31.tr<|S43.tr<|S57.tr<|S64.tr<|S81.tr<|S86.tr<|S90.tr<|S93.tr<|S108.tr<|S120.tr<|S123.tr<|S132.tr<|S138.tr<|S150.tr<|S168.tr<|S180.tr S184) R R).map (ren [(19,5)]) R R),Ow.nil,Ow.nil,Ow.nil,((f181.stp S184 R R).map (ren [(19,5)]) R R)⟩
 rintro _ w172 ⟨K173,z10,ax,aE,rfl,S174,f175,rfl⟩
 have h:=yI hK171
 refine Jp<|Jh3 [2,2,1,1,2] 2 R<|Jn1 (κ:=K173) (E:=E6) 19 [] (parts:=[(0,.tmp 116)]) (cells:=[vi z10.2]) (xs:=([z10.2]:List Int)) R R R R R R Y29 a8 R R R R R R R R R R ⟨[vi z10.2],[],Zl K173 w172 [],Zl K173 w172 [],R,Zl.sp (l1:=[]) (l2:=[]) R,Zl.sr (l1:=[]) (l2:=[]),R,R⟩ λbx bw w211 K212 S213 f214=>Tv<|Ob h λx118 hx118 h=>Jm1 (κ:=K212) (E:=E6) 16 [] R R R R R R R R R Y29 a8 R R R R (f152.stp (T3 S168 S174 S213) R R) (Sl.srcP (bM _) f214.rdc) bH hx118 R λbd be w216 K217 S218 f219=>Tv<|Jc 1 R<|Jz<|Jp<|Jf3 R ?_
 cases h
 exact Jz1 λa ha=>⟨k,_,Ja3 _,⟨K217,(z10.1,x118,((IntKind.i64.wrap<|s7.2.2+1):Int)),ax,aE,bd,be,R,(T5 S150 S168 S174 S213 S218).wk R,(f175.stp (S213.tr S218) R R),f219,hk154⟩,(ha.mm R)⟩
 rintro _ w143 ⟨K144,s9,aI,aD,aN,aK,rfl,S145,f146,f147,rfl⟩
 have h:=yI hK141
 refine Jp<|Jq<|Js1 (κ:=K144) [0,2,8,12] (some 13) [(0,2),(1,2),(3,2),(5,2),(2,0),(4,0),(6,0),(7,2),(8,0),(9,1),(10,1),(11,2),(12,2)] [(13,1)] (by kernel_rfl) (by kernel_rfl) λw222 S221=>Jd3 R U108 R Z104<|Jd3 R U104 R Z29<|Jd3 R U104 R Z29<|Jd3 R U116 R Z2 ?_
 have f223:=f113.stp (T6 S120 S123 S132 S138 S145 S221) R R
 refine Jg R (Jc2 I29 R R<|hvC (f223.ld 0 R R) R)<|Jg R (Jc2 I29 R R<|hvC ((f9.stp (T16 S16 S31 S43 S57 S64 S81 S86 S90 S93 S108 S120 S123 S132 S138 S145 S221) R R).ld 0 R R) R) ?_
 have f225:=f124.stp (T4 S132 S138 S145 S221) R R
 refine Jg R (Jc2 I2 R R<|hvC (f225.ld 0 R R) R)<|Ob h λx126 hx126 h=>Jc3 R f10 hx126 U29 Z2<|Jg R (Jc2 I2 R R<|hvC ((f10.stp (T16 S16 S31 S43 S57 S64 S81 S86 S90 S93 S108 S120 S123 S132 S138 S145 S221) R R).gInt hx126) R)<|Jn1 (κ:=K144) (E:=E6) 17 [] (parts:=[(0,.tmp 127)]) (cells:=[vi x126]) (xs:=([x126]:List Int)) R R R R R R Y29 a8 R R R R R R R R R R ⟨[vi x126],[],Zl K144 w222 [],Zl K144 w222 [],R,Zl.sp (l1:=[]) (l2:=[]) R,Zl.sr (l1:=[]) (l2:=[]),R,R⟩ λbv bs w227 K228 S229 f230=>⟨(S229.cl R),Ob h λx129 hx129 h=>Jm1 (κ:=K228) (E:=E6) 9 [] R R R R R R R R R Y29 a8 R R R R (f110.stp (T7 S120 S123 S132 S138 S145 S221 S229) R R) (Sl.srcP (bM _) f230.rdc) bH hx129 R λaw av w232 K233 S234 f235=>⟨((S229.tr S234).cl R),Jd3 R U108 R Z104<|Jd3 R U104 R Z29<|Jt1<|Ji1 (κ:=K233) 8 (off:=0) (vc:=[.slice aw x129.length av]) (cs':=[.slice aw x129.length av,.slice au s4.2.2.2.1.length ar,.slice ac s4.2.2.2.2.length ak]) R R R R R R R Z29 R R (f223.stp (S229.tr S234) R R) R R λw237 S238 f239=>Tv<|Jd<|Jq<|Js1 (κ:=K233) [8] (some 9) [(0,2),(1,2),(3,2),(2,0),(4,1),(5,1),(6,1),(7,2),(8,2)] [(9,1)] (by kernel_rfl) (by kernel_rfl) λw241 S240=>Jd3 R U108 R Z104<|Jd3 R U104 R Z26<|Jn 1 R ?_⟩⟩
 have f242:=f239.stp S240 R R
 refine Jg R (Jc2 I26 R R<|hvC (f242.ld 1 R R) R)<|Ob h λx136 hx136 h=>Jh R R R C123 (pV (κ:=Mk K233) (Ji3 (f147.stp (T5 S221 S229 S234 S238 S240) R R).rdc) hx136) ?_
 rintro _ w244 ⟨k245,aW,aT,rfl,e246,f247⟩
 obtain⟨K248,S249,m250⟩:=Ji e246 18 R
 refine⟨(S249.cl R),Jn1 (κ:=K248) (E:=(Ep.own E6 2)) 21 [20] (parts:=[(0,.tmp 136)]) (cells:=[.slice aW x136.length aT]) (xs:=([x136]:List (List Int))) R R R R R R Y26 bK R R R R R R R R R R ⟨[.slice aW x136.length aT],[],Zl K248 w244 [20],Zl K248 w244 [],R,Zl.sp (l1:=[20]) (l2:=[]) R,Zl.sr (l1:=[20]) (l2:=[]),⟨_,_,R,(f247.mx (bD _) m250 R (R:18+2=20))⟩,R⟩ λbo br w253 K254 S255 f256=>⟨((S249.tr S255).cl R),Ob h λx138 hx138 h=>Jm1 (κ:=K254) (E:=(Ep.own E6 2)) 10 [21] R R R R R R R R R Y26 bK R R R R (f111.stp (T12 S120 S123 S132 S138 S145 S221 S229 S234 S238 S240 S249 S255) R R) f256.src (dz R) hx138 R λaH az w258 K259 S260 f261=>⟨((T3 S249 S255 S260).cl R),Jd3 R U108 R Z104<|Jd3 R U104 R Z26<|Jt1<|Ji1 (κ:=K259) 8 (off:=1) (vc:=[.slice aH x138.length az]) (cs':=[.slice aw x129.length av,.slice aH x138.length az,.slice ac s4.2.2.2.2.length ak]) R R R R R R R Z26 R R (f242.stp (T3 S249 S255 S260) R R) R R λw263 S264 f265=>Tv<|Jd<|Js1 (κ:=K259) [8,12] (some 11) [(0,2),(2,2),(3,2),(5,2),(1,0),(4,0),(6,0),(7,1),(8,1),(9,1),(10,2)] [(11,1)] (by kernel_rfl) (by kernel_rfl) λw267 S266=>Jd3 R U108 R Z29<|Jn 1 R<|Jd3 R U116 R Z29<|Jd3 R U116 R Z2 ?_⟩⟩⟩
 have f268:=f265.stp S266 R R
 refine Jg R (Jc2 I29 R R<|hvC (f268.ld 2 R R) R) ?_
 have f269:=f225.stp (T9 S229 S234 S238 S240 S249 S255 S260 S264 S266) R R
 have S001:=(T13 S132 S138 S145 S221 S229 S234 S238 S240 S249 S255 S260 S264 S266)
 refine Jg R (Jc2 I29 R R<|hvC (f269.ld 1 R R) R)<|Jg R (Jc2 I2 R R<|hvC (f269.ld 0 R R) R)<|Ob h λx148 hx148 h=>Jh R R R C124 (qZ (κ:=Mk K259) (Ji3<|f125.stp S001 R R) (Ji3<|f126.stp S001 R R) hx148) ?_
 rintro _ w272 ⟨k273,rfl,e274⟩
 obtain⟨K275,S276,m277⟩:=Ji e274 22 R
 refine⟨(S276.cl R),Jn1 (κ:=K275) (E:=E6) 24 [] (parts:=[(0,.tmp 148)]) (cells:=[vi x148]) (xs:=([x148]:List Int)) R R R R R R Y29 a8 R R R R R R R R R R ⟨[vi x148],[],Zl K275 w272 [],Zl K275 w272 [],R,Zl.sp (l1:=[]) (l2:=[]) R,Zl.sr (l1:=[]) (l2:=[]),R,R⟩ λbu bA w279 K280 S281 f282=>⟨((S276.tr S281).cl R),Ob h λx150 hx150 h=>Jm1 (κ:=K280) (E:=E6) 11 [] R R R R R R R R R Y29 a8 R R R R (f112.stp (S120.tr<|S123.tr<|S132.tr<|S138.tr<|S145.tr<|S221.tr<|S229.tr<|S234.tr<|S238.tr<|S240.tr<|S249.tr<|S255.tr<|S260.tr<|S264.tr<|S266.tr<|S276.tr S281) R R) (Sl.srcP (bM _) f282.rdc) bH hx150 R λaM aS w284 K285 S286 f287=>⟨((T3 S276 S281 S286).cl R),Jd3 R U108 R Z29<|Jt1<|Ji1 (κ:=K285) 8 (off:=2) (vc:=[.slice aM x150.length aS]) (cs':=[.slice aw x129.length av,.slice aH x138.length az,.slice aM x150.length aS]) R R R R R R R Z29 R R (f268.stp (T3 S276 S281 S286) R R) R R λw289 S290 f291=>Tv<|Jo<|Jz<|Jp<|Jf3 R ?_⟩⟩⟩
 cases h
 exact Jz1 λa ha=>⟨k,_,Ja3 _,⟨K285,(s9.1,((IntKind.i64.wrap<|s4.2.1+1):Int),x129,x138,x150),aI,aD,aw,av,aH,az,aM,aS,R,(S108.tr<|S120.tr<|S123.tr<|S132.tr<|S138.tr<|S145.tr<|S221.tr<|S229.tr<|S234.tr<|S238.tr<|S240.tr<|S249.tr<|S255.tr<|S260.tr<|S264.tr<|S266.tr<|S276.tr<|S281.tr<|S286.tr S290).wk R,(f146.stp (T14 S221 S229 S234 S238 S240 S249 S255 S260 S264 S266 S276 S281 S286 S290) R R),(f235.stp (T11 S238 S240 S249 S255 S260 S264 S266 S276 S281 S286 S290) R R),(f261.stp (T6 S264 S266 S276 S281 S286 S290) R R),(f287.stp S290 R R),f291,hk115⟩,(ha.mm R)⟩
 rintro _ w98 ⟨K99,s6,aC,aA,ae,aa,ai,af,ab,aj,rfl,S100,f101,f102,f103,f104,f105,rfl⟩
 have h:=yI hK96
 refine Jp<|Je [1,2,1,2,2] R<|Jl tv R R R R (Jd2 (cs:=[.slice ae s6.2.2.1.length aa,.slice ai s6.2.2.2.1.length af,.slice ab s6.2.2.2.2.length aj]) I108 Z108 R R R<|haE f105.cells)<|Jn 1 R<|Jj1 (κ:=K99) 3 (vc:=[.slice ae s6.2.2.1.length aa,.slice ai s6.2.2.2.1.length af,.slice ab s6.2.2.2.2.length aj]) R R R R R R R Z108 R R (f8.stp (T10 S16 S31 S43 S57 S64 S81 S86 S90 S93 S100) R R) R λw297 S298 f299=>Tv<|Jb 2 R<|Ju<|Ja2 (l:=[.cell 6 108,.tmp 7,.tmp 8]) V70 (bF R f299 I108 Z108 R<|Jp2 R<|Jp2 R R) R ?_
 cases h
 exact⟨(λb=>ren [(9,2),(10,3),(11,4),(7,5)]<|K99 b),ae,aa,ai,af,ab,aj,aC,aA,R,((hE.stp (T13 S3 S7 S16 S31 S43 S57 S64 S81 S86 S90 S93 S100 S298) R R).map (ren [(9,2),(10,3),(11,4),(7,5)]) R R),((f102.stp S298 R R).map (ren [(9,2),(10,3),(11,4),(7,5)]) R R),((f103.stp S298 R R).map (ren [(9,2),(10,3),(11,4),(7,5)]) R R),((f104.stp S298 R R).map (ren [(9,2),(10,3),(11,4),(7,5)]) R R),((f101.stp S298 R R).map (ren [(9,2),(10,3),(11,4),(7,5)]) R R)⟩
 refine JT λh=>Jx R<|Je [2,1,1,2,2] R<|Jf R (bG (parts:=[]) (cells:=[.slice none 0 0,.slice none 0 0,.slice none 0 0]) R R (by kernel_rfl))<|Jo1 (κ:=K42) (E:=(Ep.fz Place.rp)) 6 R R R R R Y109 jf R λaZ bm w45 K46 S47 f48=>Tv<|Jj1 (κ:=K46) 3 (vc:=[.slice none 0 0,.slice none 0 0,.slice none 0 0]) R R R R R R R Z108 R R (f8.stp (T4 S16 S31 S43 S47) R R) R λw50 S51 f52=>Tv<|Jb 2 R<|Ju<|Jw<|Ja2 (l:=[.cell 6 108,.tmp 7,.tmp 8]) V70 (bF R f52 I108 Z108 R<|Jp2 R<|Jp2 R R) R ?_
 cases h
 exact⟨(λb=>ren [(6,5)]<|K46 b),none,0,none,0,none,0,aZ,bm,R,((hE.stp (T7 S3 S7 S16 S31 S43 S47 S51) R R).map (ren [(6,5)]) R R),Ow.nil,Ow.nil,Ow.nil,((f48.stp S51 R R).map (ren [(6,5)]) R R)⟩
theorem sF {aq ay ap ax ar au}{p0:Parity}{a1 u1}{p1:(List Int)}(g0_0_0:Rd (Rp.int .i64) κ w 0 aq ay p0.Arena.Owner) (g0_0_1:Rd (Rp.sl (Rp.int .i64)) κ w 0 ap ax p0.Arena.Next) (g0_1:Rd (Rp.int .i64) κ w 0 ar au p0.Prio) (g1:Rd (Rp.int .i64) κ w 0 a1 u1 p1){r:Parity×Bool}(h:mE p0 p1=some r):Ret Tryz.prog 211 [.agg #[.slice aq p0.Arena.Owner.length ay,.slice ap p0.Arena.Next.length ax,.slice ar p0.Prio.length au],.slice a1 p1.length u1] w (λv w'=>∃(κ':Col) (ra0:Option Addr) (ru0:Nat) (ra1:Option Addr) (ru1:Nat) (ra2:Option Addr) (ru2:Nat),v= .tuple #[.agg #[.slice ra0 r.1.Arena.Owner.length ru0,.slice ra1 r.1.Arena.Next.length ru1,.slice ra2 r.1.Prio.length ru2],.bool r.2]/\Ent κ w κ' w'/\Oc E6 2 κ' w' 2 ra0 ru0 r.1.Arena.Owner/\Oc (Ep.own E6 2) 29 κ' w' 3 ra1 ru1 r.1.Arena.Next/\Oc E6 2 κ' w' 4 ra2 ru2 r.1.Prio):=by
 unfold mE at h
 refine Jk3 κ F211 R N211 R λhE=>Je [1,1,2] R<|Jf1 (κ:=κ) 2 R R R R R R R λb2 w1 K2 S3 f4=>Tv<|Jg1 (κ:=K2) 3 R R R R R X108 R λb4 w5 K6 S7 f8=>Tv<|Jb 1 R<|Jq<|Je [1,1,2,2,1,2,1,2,2] R ?_
 have f9:=f4.stp S7 R R
 refine Jl tv R R R R (Jd2 (cs:=[.slice aq p0.Arena.Owner.length ay,.slice ap p0.Arena.Next.length ax,.slice ar p0.Prio.length au]) I108 Z108 R R R<|haE f9.cells)<|Ob h λx10 hx10 h=>?_
 have f10:=g0_0_0.stp (S3.tr S7) R R
 have f11:=g0_0_1.stp (S3.tr S7) R R
 have f12:=g0_1.stp (S3.tr S7) R R
 refine Jh R R R C125 (ni (κ:=Mk K6) (p0:=p0) (Ji3 f10) (Ji3 f11) (Ji3 f12) hx10) ?_
 rintro _ w13 ⟨k14,rfl,e15⟩
 obtain⟨K16,S17,m18⟩:=Ji e15 4 R
 refine Tv<|Jn 2 R<|Ob h λp17 h hK20=>Ju1 [(4,1),(5,2),(6,1),(7,2),(8,2)] [] (λL w'=>L=[(1,.slice a1 p1.length u1),(2,.pointer (some ⟨b2,0,none⟩)),(4,.pointer (some ⟨b4,0,none⟩)),(17,.bool p17)]/\∃κ',Stp [] K16 w13 κ' w') tv ?_ ?_
 revert h
 cases ht21:(!x10)
 refine JF λh=>Jl tv R R R R (Jd2 (cs:=[.slice aq p0.Arena.Owner.length ay,.slice ap p0.Arena.Next.length ax,.slice ar p0.Prio.length au]) I108 Z108 R R R<|haE (f9.stp S17 R R).cells)<|Jn 1 R<|Ob h λx15 hx15 h=>Jh R R R C239 (rG (κ:=Mk K16) (p0:=p0) (Ji3<|f10.stp S17 R R) (Ji3<|f11.stp S17 R R) (Ji3<|f12.stp S17 R R) (Ji3<|g1.stp (T3 S3 S7 S17) R R) hx15) ?_
 rintro _ w27 ⟨k28,rfl,e29⟩
 obtain⟨K30,S31,m32⟩:=Ji e29 6 R
 refine Tv<|Jn 2 R ?_
 cases h
 exact Jv1 _ tv ⟨R,_,S31.wk R⟩<|KM R
 refine JT λh=>Jd1 R R R R<|Jn 1 R<|Jd1 R R R R<|Jn 2 R ?_
 cases h
 exact Jv1 _ tv ⟨R,_,Jj3⟩<|KM R
 rintro _ w34 _ ⟨rfl,K35,S36⟩
 have h:=hK20
 refine Jd ?_
 revert h
 cases ht37:p17
 refine JF λh=>Jy R<|Js<|Jp<|Jq<|Ob h λx22 hx22 h=>Ob h λx26 hx26 h=>Jx1 (λL w'=>∃κ' b6 af ah av aw ae ai,L=[(1,.slice a1 p1.length u1),(2,.pointer (some ⟨b2,0,none⟩)),(4,.pointer (some ⟨b4,0,none⟩)),(6,.pointer (some ⟨b6,0,none⟩))]/\Stp [6,8,9,11,12] K35 w34 κ' w'/\Oc E6 2 κ' w' 6 af ah (((⟨(⟨x22,([]:List (List Int))⟩:Arena),x26⟩:Parity).Arena).Owner)/\Oc (Ep.own E6 2) 29 κ' w' 7 av aw (((⟨(⟨x22,([]:List (List Int))⟩:Arena),x26⟩:Parity).Arena).Next)/\Oc E6 2 κ' w' 8 ae ai ((⟨(⟨x22,([]:List (List Int))⟩:Arena),x26⟩:Parity).Prio)/\Bc κ' w' 9 b6 108 [.slice af (((⟨(⟨x22,([]:List (List Int))⟩:Arena),x26⟩:Parity).Arena).Owner).length ah,.slice av (((⟨(⟨x22,([]:List (List Int))⟩:Arena),x26⟩:Parity).Arena).Next).length aw,.slice ae ((⟨(⟨x22,([]:List (List Int))⟩:Arena),x26⟩:Parity).Prio).length ai]) ?_ ?_
 refine WC.rxt (κ:=K35) [2] none (by kernel_rfl) λw51 S52=>Jq1 (fuel:=6) [(0,2),(1,2),(5,2),(2,0),(6,0)] (by kernel_rfl) (by kernel_rfl) R<|Jd3 R U108 R Z104<|Jd3 R U104 R Z29<|Jd3 R U108 R Z29 ?_
 have f53:=f9.stp (T3 S17 S36 S52) R R
 refine Jg R (Jc2 I29 R R<|hvC (f53.ld 0 R R) R)<|Jg R (Jc2 I29 R R<|hvC (f53.ld 2 R R) R)<|Jp1<|WA.fork2 (fuel:=5) 3 9 (by kernel_rfl) R ?_ ?_
 refine Jh R R R C56 (ck (κ:=Mk K35) (Ji3<|f10.stp (T3 S17 S36 S52) R R) hx22) ?_
 rintro _ w55 ⟨k56,ab,aa,rfl,e57,f58⟩
 obtain⟨K59,S60,m61⟩:=Ji e57 6 R
 refine⟨(S60.cl R),?_⟩
 have f63:=f58.mx (bD _) m61 R (R:6+2=8)
 refine Jp1<|Jq1 (fuel:=4) [(4,2)] (by kernel_rfl) (by kernel_rfl) R<|Jf R (bG (parts:=[(0,.tmp 22)]) (cells:=[.slice ab x22.length aa,.slice none 0 0]) R R (by kernel_rfl))<|Jp1<|WA.fork2 (fuel:=3) 7 9 (by kernel_rfl) R ?_ ?_
 refine Jh R R R C56 (ck (κ:=Mk K59) (Ji3<|f12.stp (T4 S17 S36 S52 S60) R R) hx26) ?_
 rintro _ w65 ⟨k66,ac,ad,rfl,e67,f68⟩
 obtain⟨K69,S70,m71⟩:=Ji e67 9 R
 exact⟨((S60.tr S70).cl R),Jp1<|Jq1 (fuel:=0) [(8,2),(9,1),(10,1)] (by kernel_rfl) (by kernel_rfl) R<|Jf R (bG (parts:=[(0,.tmp 23),(1,.tmp 26)]) (cells:=[.slice ab x22.length aa,.slice none 0 0,.slice ac x26.length ad]) R R (by kernel_rfl))<|Jg1 (κ:=K69) 12 R R R R R X108 R λb6 w74 K75 S76 f77=>⟨((T3 S60 S70 S76).cl R),Jj1 (κ:=K75) 12 (vc:=[.slice ab x22.length aa,.slice none 0 0,.slice ac x26.length ad]) R R R R R R R Z108 R R f77 R λw78 S79 f80=>⟨((T4 S60 S70 S76 S79).cl R),Jp1<|Jr1 [] (by kernel_rfl) (by kernel_rfl) R<|Jo<|Jw1 _ ⟨(λb=>ren [(8,6),(11,8),(12,9)]<|K75 b),b6,ab,aa,none,0,ac,ad,R,(Jy2 ((T5 S52 S60 S70 S76 S79).wk R) [(8,6),(11,8),(12,9)] R),((f63.stp (T3 S70 S76 S79) R R).map (ren [(8,6),(11,8),(12,9)]) R R),Ow.nil,(((f68.mx (bD _) m71 R (R:9+2=11)).stp (S76.tr S79) R R).map (ren [(8,6),(11,8),(12,9)]) R R),(f80.map (ren [(8,6),(11,8),(12,9)]) R R)⟩<|KM R⟩⟩⟩
 refine Jg1 (κ:=K59) 9 R R R R R X108 R λb6 w83 K84 S85 f86=>⟨((S60.tr S85).cl R),Jp1<|Jq1 (fuel:=0) [(7,1),(8,2),(10,1)] (by kernel_rfl) (by kernel_rfl) R<|Jh R R R C56 (ck (κ:=Mk K84) (Ji3<|f12.stp (T5 S17 S36 S52 S60 S85) R R) hx26) ?_⟩
 rintro _ w88 ⟨k89,ac,ad,rfl,e90,f91⟩
 obtain⟨K92,S93,m94⟩:=Ji e90 10 R
 exact⟨((T3 S60 S85 S93).cl R),Jf R (bG (parts:=[(0,.tmp 23),(1,.tmp 26)]) (cells:=[.slice ab x22.length aa,.slice none 0 0,.slice ac x26.length ad]) R R (by kernel_rfl))<|Jj1 (κ:=K92) 9 (vc:=[.slice ab x22.length aa,.slice none 0 0,.slice ac x26.length ad]) R R R R R R R Z108 R R (f86.stp S93 R R) R λw98 S99 f100=>⟨((T4 S60 S85 S93 S99).cl R),Jp1<|Jr1 [] (by kernel_rfl) (by kernel_rfl) R<|Jo<|Jw1 _ ⟨(λb=>ren [(8,6),(12,8)]<|K92 b),b6,ab,aa,none,0,ac,ad,R,(Jy2 ((T5 S52 S60 S85 S93 S99).wk R) [(8,6),(12,8)] R),((f63.stp (T3 S85 S93 S99) R R).map (ren [(8,6),(12,8)]) R R),Ow.nil,(((f91.mx (bD _) m94 R (R:10+2=12)).stp S99 R R).map (ren [(8,6),(12,8)]) R R),(f100.map (ren [(8,6),(12,8)]) R R)⟩<|KM R⟩⟩
 refine Jg1 (κ:=K35) 6 R R R R R X108 R λb6 w103 K104 S105 f106=>⟨(S105.cl R),Jp1<|Jq1 (fuel:=0) [(3,1),(4,2),(7,1),(8,2),(10,1)] (by kernel_rfl) (by kernel_rfl) R<|Jh R R R C56 (ck (κ:=Mk K104) (Ji3<|f10.stp (T4 S17 S36 S52 S105) R R) hx22) ?_⟩
 rintro _ w108 ⟨k109,ab,aa,rfl,e110,f111⟩
 obtain⟨K112,S113,m114⟩:=Ji e110 7 R
 refine⟨((S105.tr S113).cl R),Jf R (bG (parts:=[(0,.tmp 22)]) (cells:=[.slice ab x22.length aa,.slice none 0 0]) R R (by kernel_rfl))<|Jh R R R C56 (ck (κ:=Mk K112) (Ji3<|f12.stp (T5 S17 S36 S52 S105 S113) R R) hx26) ?_⟩
 rintro _ w118 ⟨k119,ac,ad,rfl,e120,f121⟩
 obtain⟨K122,S123,m124⟩:=Ji e120 10 R
 have S001:=(T3 S105 S113 S123)
 exact⟨(S001.cl R),Jf R (bG (parts:=[(0,.tmp 23),(1,.tmp 26)]) (cells:=[.slice ab x22.length aa,.slice none 0 0,.slice ac x26.length ad]) R R (by kernel_rfl))<|Jj1 (κ:=K122) 6 (vc:=[.slice ab x22.length aa,.slice none 0 0,.slice ac x26.length ad]) R R R R R R R Z108 R R (f106.stp (S113.tr S123) R R) R λw128 S129 f130=>⟨((S001.tr S129).cl R),Jp1<|Jr1 [] (by kernel_rfl) (by kernel_rfl) R<|Jo<|Jw1 _ ⟨(λb=>ren [(9,6),(12,8),(6,9)]<|K122 b),b6,ab,aa,none,0,ac,ad,R,(Jy2 ((T5 S52 S105 S113 S123 S129).wk R) [(9,6),(12,8),(6,9)] R),(((f111.mx (bD _) m114 R (R:7+2=9)).stp (S123.tr S129) R R).map (ren [(9,6),(12,8),(6,9)]) R R),Ow.nil,(((f121.mx (bD _) m124 R (R:10+2=12)).stp S129 R R).map (ren [(9,6),(12,8),(6,9)]) R R),(f130.map (ren [(9,6),(12,8),(6,9)]) R R)⟩<|KM R⟩⟩
 rintro _ w43 ⟨K44,b6,af,ah,av,aw,ae,ai,rfl,S45,f47,f48,f49,f50⟩
 refine Jp<|Jq<|Je3 R ?_
 have hN133:(p1.length:Int)<=9223372036854775807:=g1.len_le
 refine Ob h λq2 hq135 hK134=>?_
 clear h
 refine Jx1 (λL w'=>∃κ',∃s3:(List<|List Int),∃ak aj,L=[(4,.pointer (some ⟨b4,0,none⟩)),(6,.pointer (some ⟨b6,0,none⟩))]/\Stp [7,9,12,13] K44 w43 κ' w'/\Oc (Ep.own E6 2) 29 κ' w' 7 ak aj s3/\Bc κ' w' 9 b6 108 [.slice af (((⟨(⟨x22,([]:List (List Int))⟩:Arena),x26⟩:Parity).Arena).Owner).length ah,.slice ak s3.length aj,.slice ae ((⟨(⟨x22,([]:List (List Int))⟩:Arena),x26⟩:Parity).Prio).length ai]/\q2=yk s3) ?_ ?_
 refine Jv<|Jy1 (λk L w'=>∃κ' v7,∃s1:(List<|List Int),∃an ao,L=[(1,.slice a1 p1.length u1),(2,.pointer (some ⟨b2,0,none⟩)),(4,.pointer (some ⟨b4,0,none⟩)),(6,.pointer (some ⟨b6,0,none⟩)),(7,vi v7)]/\Stp [7,9,12,13] K44 w43 κ' w'/\Oc (Ep.own E6 2) 29 κ' w' 7 an ao s1/\Bc κ' w' 9 b6 108 [.slice af (((⟨(⟨x22,([]:List (List Int))⟩:Arena),x26⟩:Parity).Arena).Owner).length ah,.slice an s1.length ao,.slice ae ((⟨(⟨x22,([]:List (List Int))⟩:Arena),x26⟩:Parity).Prio).length ai]/\0<=v7/\Int.toNat ((p1.length:Int)-v7)=k/\cntM (iQ p0 p1) k v7 s1=some q2) ⟨_,_,⟨K44,0,(((⟨(⟨x22,([]:List (List Int))⟩:Arena),x26⟩:Parity).Arena).Next:(List<|List Int)),av,aw,R,Jj3,f48,f50,(by decide),(by simp),hq135⟩,(KM R)⟩ ?_
 rintro k _ w141 ⟨K142,v7,s1,an,ao,rfl,S143,f144,f145,hj133,hJ133,h⟩
 rcases k with _ | k
 have hk146:=h;obtain⟨o133,h⟩:=ca (yk (Sum.inl s1):(Parity×Bool)⊕(((List (List Int)))⊕((List (List Int)))))
 have hc133:decide (v7<(p1.length:Int))=false:=Jo2 (by omega)
 refine Jq<|Jg3 [2,2,2,2] 2 R<|Jn3 R U29 R R<|Jb 1 R<|Jw2 R hc133<|Jc1<|Jt<|Jt ?_
 cases h
 have h:=hk146
 refine Jb1 ?_
 cases h
 exact Jw1 _ ⟨K142,s1,an,ao,R,S143.wk R,f144,f145,R⟩<|KM R
 obtain⟨o133,h,hk146⟩:=BI h;unfold iQ at h
 have hc133:decide (v7<(p1.length:Int))=true:=Jn2 (by omega)
 refine Jq<|Jg3 [2,2,2,2] 2 R<|Jn3 R U29 R R<|Jb 1 R<|Jv2 R hc133<|Js<|Jp<|Jq<|Jv<|Je [2,2,1,2,2,1,1,2] R<|Jd3 R U108 R Z104<|Jd3 R U104 R Z26<|Jb3 R I26 ((f9.stp (T4 S17 S36 S45 S143) R R).ld 1 R R)<|Jn 1 R<|Ob h λx38 hx38 h=>Jc3 R f11 hx38 U26 Z29 ?_
 obtain⟨ax38,ux38,f149,hl150⟩:=(f11.stp (T4 S17 S36 S45 S143) R R).gSl hx38
 refine Jb3 R I29 hl150<|Ob h λx40 hx40 h=>Jh R R R C56 (ck (κ:=Mk K142) (Ji3 f149) hx40) ?_
 rintro _ w151 ⟨k152,aE,aB,rfl,e153,f154⟩
 obtain⟨K155,S156,m157⟩:=Ji e153 10 R
 refine Tv<|Jb 1 R<|Jq<|Jg3 [2,2,2,1,2] 2 R<|Ob h λx43 hx43 h=>Jc3 R g1 hx43 U29 Z2 ?_
 have f160:=g1.stp (T7 S3 S7 S17 S36 S45 S143 S156) R R
 refine Jb3 R I2 (f160.gInt hx43)<|Jb 1 R<|Ob h λq4 h hK161=>Jx1 (λL w'=>∃κ' am al,L=[(1,.slice a1 p1.length u1),(2,.pointer (some ⟨b2,0,none⟩)),(4,.pointer (some ⟨b4,0,none⟩)),(6,.pointer (some ⟨b6,0,none⟩)),(7,vi v7),(8,.slice am q4.length al)]/\Stp [13] K155 w151 κ' w'/\Oc E6 2 κ' w' 12 am al q4) ?_ ?_
 revert h
 cases ht166:decide (0<=x43)
 refine JF λh=>Jy R<|Js ?_
 cases h
 exact Jw1 _ ⟨K155,aE,aB,R,Jj3,(f154.mx (bD _) m157 R (R:10+2=12))⟩<|KM R
 refine JT λh=>Jx R<|Jh3 [2,2,2,1,1,2] 2 R<|Ob h λx48 hx48 h=>Jc3 R f160 hx48 U29 Z2<|Jb3 R I2 (f160.gInt hx48)<|Jn1 (κ:=K155) (E:=E6) 13 [] (parts:=[(0,.tmp 49)]) (cells:=[vi x48]) (xs:=([x48]:List Int)) R R R R R R Y29 a8 R R R R R R R R R R ⟨[vi x48],[],Zl K155 w151 [],Zl K155 w151 [],R,Zl.sp (l1:=[]) (l2:=[]) R,Zl.sr (l1:=[]) (l2:=[]),R,R⟩ λaD aC w167 K168 S169 f170=>Tv<|Jc 1 R ?_
 cases h
 exact Jw1 _ ⟨(λb=>ren [(13,12)]<|K168 b),aD,aC,R,(Jy2 (S169.wk R) [(13,12)] R),(f170.map (ren [(13,12)]) R R)⟩<|KM R
 rintro _ w162 ⟨K163,am,al,rfl,S164,f165⟩
 have h:=hK161
 refine Jp<|Ja [2,2,1,2,1,1,2,2,1] R<|Jd3 R U108 R Z104<|Jd3 R U104 R Z26 ?_
 have f171:=f145.stp (S156.tr S164) R R
 refine Jb3 R I26 (f171.ld 1 R R)<|Jn 1 R<|Jn1 (κ:=K163) (E:=(Ep.own E6 2)) 13 [12] (parts:=[(0,.tmp 54)]) (cells:=[.slice am q4.length al]) (xs:=([q4]:List (List Int))) R R R R R R Y26 bK R R R R R R R R R R ⟨[.slice am q4.length al],[],Zl K163 w162 [12],Zl K163 w162 [],R,Zl.sp (l1:=[12]) (l2:=[]) R,Zl.sr (l1:=[12]) (l2:=[]),⟨_,_,R,f165⟩,R⟩ λaG aF w172 K173 S174 f175=>Tv<|Ob h λx56 hx56 h=>Jm1 (κ:=K173) (E:=(Ep.own E6 2)) 7 [13] R R R R R R R R R Y26 bK R R R R (f144.stp (T3 S156 S164 S174) R R) f175.src (dz R) hx56 R λaA az w177 K178 S179 f180=>Tv<|Jd3 R U108 R Z104<|Jd3 R U104 R Z26<|Ji1 (κ:=K178) 9 (off:=1) (vc:=[.slice aA x56.length az]) (cs':=[.slice af (((⟨(⟨x22,([]:List (List Int))⟩:Arena),x26⟩:Parity).Arena).Owner).length ah,.slice aA x56.length az,.slice ae ((⟨(⟨x22,([]:List (List Int))⟩:Arena),x26⟩:Parity).Prio).length ai]) R R R R R R R Z26 R R (f171.stp (S174.tr S179) R R) R R λw182 S183 f184=>Tv<|Jo<|Jz<|Jp<|Jf3 R ?_
 have hw133:IntKind.wrap .i64 (v7+1)=v7+1:=wr1 hj133 (Jm2 hc133) hN133
 rw[hw133]
 have hc133:=Jm2 hc133
 cases h
 exact Jz1 λa ha=>⟨k,_,Ja3 _,⟨K178,v7+1,x56,aA,az,R,(T6 S143 S156 S164 S174 S179 S183).wk R,(f180.stp S183 R R),f184,by omega,by omega,hk146⟩,(ha.mm R)⟩
 rintro _ w136 ⟨K137,s3,ak,aj,rfl,S138,f139,f140,rfl⟩
 have h:=yI hK134
 refine Jp<|Je [1,1,2] R<|Jl tv R R R R (Jd2 (cs:=[.slice af (((⟨(⟨x22,([]:List (List Int))⟩:Arena),x26⟩:Parity).Arena).Owner).length ah,.slice ak s3.length aj,.slice ae ((⟨(⟨x22,([]:List (List Int))⟩:Arena),x26⟩:Parity).Prio).length ai]) I108 Z108 R R R<|haE f140.cells)<|Jj1 (κ:=K137) 3 (vc:=[.slice af (((⟨(⟨x22,([]:List (List Int))⟩:Arena),x26⟩:Parity).Arena).Owner).length ah,.slice ak s3.length aj,.slice ae ((⟨(⟨x22,([]:List (List Int))⟩:Arena),x26⟩:Parity).Prio).length ai]) R R R R R R R Z108 R R (f8.stp (T4 S17 S36 S45 S138) R R) R λw187 S188 f189=>Tv<|Jb 1 R<|Ju<|Ja2 (l:=[.cell 4 108,.tmp 5]) V211 (bF R f189 I108 Z108 R<|Jp2 R R) R ?_
 cases h
 exact⟨(λb=>ren [(6,2),(7,3),(8,4)]<|K137 b),af,ah,ak,aj,ae,ai,R,((hE.stp (T7 S3 S7 S17 S36 S45 S138 S188) R R).map (ren [(6,2),(7,3),(8,4)]) R R),((f47.stp (S138.tr S188) R R).map (ren [(6,2),(7,3),(8,4)]) R R),((f139.stp S188 R R).map (ren [(6,2),(7,3),(8,4)]) R R),((f49.stp (S138.tr S188) R R).map (ren [(6,2),(7,3),(8,4)]) R R)⟩
 refine JT λh=>Jx R<|Je [2,1,2] R<|Jf R (bG (parts:=[]) (cells:=[.slice none 0 0,.slice none 0 0,.slice none 0 0]) R R (by kernel_rfl))<|Jj1 (κ:=K35) 3 (vc:=[.slice none 0 0,.slice none 0 0,.slice none 0 0]) R R R R R R R Z108 R R (f8.stp (S17.tr S36) R R) R λw39 S40 f41=>Tv<|Jb 1 R<|Ju<|Jw<|Ja2 (l:=[.cell 4 108,.tmp 5]) V211 (bF R f41 I108 Z108 R<|Jp2 R R) R ?_
 cases h
 exact⟨K35,none,0,none,0,none,0,R,(hE.stp (T5 S3 S7 S17 S36 S40) R R),Ow.nil,Ow.nil,Ow.nil⟩
theorem sT {ac ah ad ak af ae aj ai aa ab}{p0:l7Game}{a1 u1}{p1:(List Bool)}{p2:Int}(g0_0:Rd (Rp.int .i64) κ w 0 ac ah p0.owner) (g0_1:Rd (Rp.int .i64) κ w 0 ad ak p0.prio) (g0_2:Rd (Rp.sl (Rp.int .i64)) κ w 0 af ae p0.next) (g0_3:Rd (Rp.sl (Rp.int .i64)) κ w 0 aj ai p0.prev) (g0_4:Oc E6 2 κ w 2 aa ab p0.pick) (g1:Rd Rp.bool κ w 0 a1 u1 p1){r:Int×(List Int)}(h:mn p0 p1 p2=some r):Ret Tryz.prog 177 [.agg #[.slice ac p0.owner.length ah,.slice ad p0.prio.length ak,.slice af p0.next.length ae,.slice aj p0.prev.length ai,.slice aa p0.pick.length ab],.slice a1 p1.length u1,vi p2] w (λv w'=>∃(κ':Col),v=vi r.1/\Ent κ w κ' w'/\Oc E6 2 κ' w' 2 aa ab r.2/\p0.pick.length=r.2.length):=by
 unfold mn at h
 refine Jk3 κ F177 R N177 R λhE=>Je [1,2] R<|Jf1 (κ:=κ) 3 R R R R R R R λb3 w1 K2 S3 f4=>Tv<|Jb 1 R<|Jq<|Je3 R<|Ob h λq2 hq7 hK6=>?_
 clear h
 refine Jx1 (λL w'=>∃κ',∃s3:Int×(List Int),L=[]/\Stp [2] K2 w1 κ' w'/\Oc E6 2 κ' w' 2 aa ab s3.2/\p0.pick.length=s3.2.length/\q2=yk s3) ?_ ?_
 refine Jv<|Jy1 (λk L w'=>∃κ',∃s1:Int×(List Int),L=[(1,.slice a1 p1.length u1),(2,vi p2),(3,.pointer (some ⟨b3,0,none⟩)),(7,vi s1.1)]/\Stp [2] K2 w1 κ' w'/\Oc E6 2 κ' w' 2 aa ab s1.2/\p0.pick.length=s1.2.length/\bI (iX p0 p1 p2) k s1=some q2) ⟨_,_,⟨K2,((0:Int),p0.pick),R,Jj3,(g0_4.stp S3 R R),R,hq7⟩,(KM R)⟩ ?_
 rintro k _ w13 ⟨K14,s1,rfl,S15,f16,hn17,h⟩
 rcases k with _ | k
 cases h
 obtain⟨o5,h,hk19⟩:=BI h;unfold iX at h
 refine Jq<|Jg3 [2,2,1,2,2,1,2,2] 1 R<|Jd3 R U191 R Z26 ?_
 have f20:=f4.stp S15 R R
 refine Jb3 R I26 (f20.ld 2 R R)<|Jn 1 R<|Ob h λx13 hx13 h=>Jc3 R g0_2 hx13 U26 Z29 ?_
 have f21:=g0_2.stp (S3.tr S15) R R
 obtain⟨ax13,ux13,f22,hl23⟩:=f21.gSl hx13
 refine Jb3 R I29 hl23<|Jn3 R U29 R R<|Jb 1 R ?_
 revert h
 cases ht24:decide (s1.1<(x13.length:Int))
 refine JF λh=>Jy R<|Jc1<|Jt<|Jt ?_
 cases h
 have h:=hk19
 refine Jb1 ?_
 cases h
 exact Jw1 _ ⟨K14,(s1.1,s1.2),R,S15.wk R,f16,hn17,R⟩ KN
 refine JT λh=>Jx R<|Js<|Jp<|Jq<|Jv<|Je [2,1,2,2,1,2,2,1,2] R<|Jd3 R U191 R Z26<|Jb3 R I26 (f20.ld 2 R R)<|Jn 1 R<|Ob h λx22 hx22 h=>Jc3 R f21 hx22 U26 Z29 ?_
 obtain⟨ax22,ux22,f25,hl26⟩:=f21.gSl hx22
 refine Jb3 R I29 hl26<|Jn 1 R<|Ob h λx25 hx25 h=>Jc3 R f25 hx25 U29 Z2<|Jb3 R I2 (f25.gInt hx25)<|Jb 1 R<|Jq<|Jg3 [2,2,2,1,2] 2 R<|Ob h λx29 hx29 h=>Jc3 R g1 hx29 U193 Z4 ?_
 have f27:=g1.stp (S3.tr S15) R R
 refine Jb3 R I4 (f27.gBool hx29)<|Jb 1 R ?_
 revert h
 cases ht28:(!x29)
 refine JF λh=>Jy R<|Js<|Jp<|Je [2,1,2,2,2,1] R<|Jd3 R U191 R Z29<|Jb3 R I29 (f20.ld 4 R R)<|Jn 2 R<|Ob h λx36 hx36 h=>Jf R (Jf2 f16.rdc hx36 U29 Z2 R R hn17 R)<|Ob h λy302 hy302 h=>Jk1 (κ:=K14) (E:=E6) 2 [] R R R R R R R R Z2 R R R R f16 hy302 λw29 K30 S31 f32=>Tv<|?_
 have hn33:p0.pick.length=y302.length:=hn17.trans (Jt2 hy302).2.2.2.symm
 refine Jd<|Jq<|Js1 (κ:=K30) [0,3] none [(1,2),(2,2),(4,2),(0,0),(3,0),(5,2),(6,0),(7,1)] [] (by kernel_rfl) (by kernel_rfl) λw35 S34=>Jn 1 R<|Jd3 R U191 R Z29<|Jn 1 R ?_
 have f36:=f20.stp (S31.tr S34) R R
 refine Jg R (Jd2 (cs:=[.slice ac p0.owner.length ah,.slice ad p0.prio.length ak,.slice af p0.next.length ae,.slice aj p0.prev.length ai,.slice aa p0.pick.length ab]) I191 Z191 R R R<|haC f36.cells R)<|Jg R (Jc2 I29 R R<|hvC (f36.ld 0 R R) R)<|Ob h λx42 hx42 h=>Jc3 R g0_0 hx42 U29 Z2 ?_
 have f37:=g0_0.stp (T4 S3 S15 S31 S34) R R
 refine Jg R (Jc2 I2 R R<|hvC (f37.gInt hx42) R)<|Ob h λx44 hx44 h=>?_
 have f41:=f32.stp S34 R R
 have S001:=(T4 S3 S15 S31 S34)
 refine Jh R R R C215 (Ret.cast (by simp only[hn33,List.cons_append,List.nil_append])<|rn (κ:=Mk K30) (p0:=(⟨p0.owner,p0.prio,p0.next,p0.prev,y302⟩:l7Game)) (Ji3 f37) (Ji3<|g0_1.stp S001 R R) (Ji3<|f21.stp (S31.tr S34) R R) (Ji3<|g0_3.stp S001 R R) (Ji3 f41.rdc) (Ji3<|f27.stp (S31.tr S34) R R) hx44) ?_
 rintro _ w43 ⟨k44,rfl,e45⟩
 obtain⟨K46,S47,m48⟩:=Ji e45 4 R
 refine⟨(S47.cl R),Jt1<|Jd ?_⟩
 revert h
 cases ht50:x44
 refine JF λh=>Jy R<|Js<|Jz<|Jp<|Jf3 R ?_
 cases h
 exact Jz1 λa ha=>⟨k,_,Ja3 _,⟨K46,(((IntKind.i64.wrap<|s1.1+1):Int),y302),R,(T4 S15 S31 S34 S47).wk R,(f41.stp S47 R R),hn33,hk19⟩,(ha.mm R)⟩
 refine JT λh=>Jx R<|Je3 R<|Ju<|Ja1<|Jw<|Jw ?_
 cases h
 obtain rfl:=Option.some.inj hk19
 have h:=yL hK6
 refine Ja1<|Jq2<|Jw<|Ja2 (l:=[.tmp 6]) V177 (Jp2 R R) R ?_
 cases h
 exact⟨K46,R,(hE.stp (T5 S3 S15 S31 S34 S47) R R),(f41.stp S47 R R),hn33⟩
 refine JT λh=>Jx R<|Jc1<|Jt<|Jb1<|Jp<|Jf3 R ?_
 cases h
 exact Jz1 λa ha=>⟨k,_,Ja3 _,⟨K14,(((IntKind.i64.wrap<|s1.1+1):Int),s1.2),R,S15.wk R,f16,hn17,hk19⟩,(ha.mm R)⟩
 rintro _ w8 ⟨K9,s3,rfl,S10,f11,hn12,rfl⟩
 have h:=yI hK6
 refine Jp<|Je3 R<|Ju<|Ja2 (l:=[.tmp 6]) V177 (Jp2 R R) R ?_
 cases h
 exact⟨K9,R,(hE.stp (S3.tr S10) R R),f11,hn12⟩
theorem sn {p0:Sig}{ab ah ac ak}{p1:Machine}{ae af ai aj}{p2:Rival}(g1_0:Rd (Rp.sl (Rp.int .i64)) κ w 0 ab ah p1.Next) (g1_1:Rd (Rp.sl (Rp.int .i64)) κ w 0 ac ak p1.Out) (g2_0:Rd (Rp.int .i64) κ w 0 ae af p2.In) (g2_1:Rd (Rp.sl (Rp.int .i64)) κ w 0 ai aj p2.Next){r:Word×Bool}(h:mv p0 p1 p2=some r):Ret Tryz.prog 10 [.agg #[vi p0.In,vi p0.Out],.agg #[.slice ab p1.Next.length ah,.slice ac p1.Out.length ak],.agg #[.slice ae p2.In.length af,.slice ai p2.Next.length aj]] w (λv w'=>∃(κ':Col) (ra0:Option Addr) (ru0:Nat) (ra1:Option Addr) (ru1:Nat),v= .tuple #[.agg #[.slice ra0 r.1.Stem.length ru0,.slice ra1 r.1.Loop.length ru1],.bool r.2]/\Ent κ w κ' w'/\Oc E6 2 κ' w' 2 ra0 ru0 r.1.Stem/\Oc E6 2 κ' w' 3 ra1 ru1 r.1.Loop):=by
 unfold mv at h
 refine Jk3 κ F10 R N10 R λhE=>Je [1,1,1,1,2] R<|Jf1 (κ:=κ) 2 R R R R R R R λb3 w1 K2 S3 f4=>Tv<|Jf1 (κ:=K2) 3 R R R R R R R λb4 w5 K6 S7 f8=>Tv<|Jf1 (κ:=K6) 4 R R R R R R R λb5 w9 K10 S11 f12=>Tv<|Jg1 (κ:=K10) 5 R R R R R X35 R λb6 w13 K14 S15 f16=>Tv<|Jb 1 R<|Jq<|Je [1,1,2,2,1,1,1,2,2,2,1,1,1,2,2] R ?_
 have f17:=f4.stp (T3 S7 S11 S15) R R
 refine Jl tv R R R R (Jd2 (cs:=[vi p0.In,vi p0.Out]) I25 Z25 R R R<|haE f17.cells)<|Ob h λx16 hx16 h=>Jh R R R C48 (nF (κ:=Mk K14) (p0:=p0) hx16) ?_
 rintro _ w18 ⟨k19,rfl,e20⟩
 obtain⟨K21,S22,m23⟩:=Ji e20 6 R
 refine Tv<|Jn 2 R<|Ob h λp23 h hK25=>Ju1 [(4,1),(5,1),(6,1),(7,2),(8,2)] [(9,2),(10,1),(11,1),(12,1),(13,2),(14,2)] (λL w'=>L=[(3,.pointer (some ⟨b3,0,none⟩)),(4,.pointer (some ⟨b4,0,none⟩)),(5,.pointer (some ⟨b5,0,none⟩)),(6,.pointer (some ⟨b6,0,none⟩)),(23,.bool p23)]/\∃κ',Stp [] K21 w18 κ' w') tv ?_ ?_
 revert h
 cases ht26:(!x16)
 have S001:=(T5 S3 S7 S11 S15 S22)
 refine JF λh=>Jl tv R R R R (Jd2 (cs:=[vi p0.In,vi p0.Out]) I25 Z25 R R R<|haE (f17.stp S22 R R).cells)<|Jl tv R R R R (Jd2 (cs:=[.slice ab p1.Next.length ah,.slice ac p1.Out.length ak]) I28 Z28 R R R<|haE (f8.stp (T3 S11 S15 S22) R R).cells)<|Ob h λx21 hx21 h=>Jh R R R C49 (pB (κ:=Mk K21) (p0:=p0) (p1:=p1) (Ji3<|g1_0.stp S001 R R) (Ji3<|g1_1.stp S001 R R) hx21) ?_
 rintro _ w31 ⟨k32,rfl,e33⟩
 obtain⟨K34,S35,m36⟩:=Ji e33 8 R
 refine Tv<|Jn 2 R ?_
 cases h
 exact Jv1 _ tv ⟨R,_,S35.wk R⟩<|KM R
 refine JT λh=>Jd1 R R R R<|Jd1 R R R R<|Jd1 R R R R<|Jn 2 R ?_
 cases h
 exact Jv1 _ tv ⟨R,_,Jj3⟩<|KM R
 rintro _ w38 _ ⟨rfl,K39,S40⟩
 have h:=hK25
 refine Jn 1 R<|Ob h λp29 h hK41=>Ju1 [(10,1),(11,1),(12,1),(13,2),(14,2)] [] (λL w'=>L=[(3,.pointer (some ⟨b3,0,none⟩)),(4,.pointer (some ⟨b4,0,none⟩)),(5,.pointer (some ⟨b5,0,none⟩)),(6,.pointer (some ⟨b6,0,none⟩)),(29,.bool p29)]/\∃κ',Stp [] K39 w38 κ' w') tv ?_ ?_
 revert h
 cases ht42:p23
 have S002:=(T6 S3 S7 S11 S15 S22 S40)
 refine JF λh=>Jl tv R R R R (Jd2 (cs:=[vi p0.In,vi p0.Out]) I25 Z25 R R R<|haE (f17.stp (S22.tr S40) R R).cells)<|Jl tv R R R R (Jd2 (cs:=[.slice ae p2.In.length af,.slice ai p2.Next.length aj]) I31 Z31 R R R<|haE (f12.stp (T3 S15 S22 S40) R R).cells)<|Ob h λx27 hx27 h=>Jh R R R C50 (lB (κ:=Mk K39) (p0:=p0) (p1:=p2) (Ji3<|g2_0.stp S002 R R) (Ji3<|g2_1.stp S002 R R) hx27) ?_
 rintro _ w47 ⟨k48,rfl,e49⟩
 obtain⟨K50,S51,m52⟩:=Ji e49 8 R
 refine Tv<|Jn 2 R ?_
 cases h
 exact Jv1 _ tv ⟨R,_,S51.wk R⟩<|KM R
 refine JT λh=>Jd1 R R R R<|Jd1 R R R R<|Jd1 R R R R<|Jn 2 R ?_
 cases h
 exact Jv1 _ tv ⟨R,_,Jj3⟩<|KM R
 rintro _ w54 _ ⟨rfl,K55,S56⟩
 have h:=hK41
 refine Jd ?_
 revert h
 cases ht57:p29
 refine JF λh=>Jy R<|Js<|Jp<|Je [1,2] R<|Jo1 (κ:=K55) (E:=E6) 8 R R R R R Y29 a8 R λau aq w63 K64 S65 f66=>Tv<|Jb 1 R<|Je [1,2] R<|WO.mkmap (κ:=K64) 9 R R R R R kwI2 kvI2 (λv:Int=>vi v) λmb32 w67 K68 S69 f70=>Tv<|Jb 1 R<|Je [2,1,1] R<|Jf R (bG (parts:=[]) (cells:=[vi 0,vi 0]) R R (by kernel_rfl))<|Jg1 (κ:=K68) 10 R R R R R X81 R λb10 w71 K72 S73 f74=>Tv<|Jj1 (κ:=K72) 10 (vc:=[vi 0,vi 0]) R R R R R R R Z81 R R f74 R λw75 S76 f77=>Tv<|Jd<|Ob h λq2 hq80 hK79=>?_
 clear h
 refine Jv<|Jy1 (λk L w'=>∃(κ':Col) (s1:(List Int)×Int×Int×(List ((Int×Int)×Int))) (aa:Option Addr) (ad:Nat),L=[(3,.pointer (some ⟨b3,0,none⟩)),(4,.pointer (some ⟨b4,0,none⟩)),(5,.pointer (some ⟨b5,0,none⟩)),(6,.pointer (some ⟨b6,0,none⟩)),(8,.slice aa s1.1.length ad),(9,.map (some mb32)),(10,.pointer (some ⟨b10,0,none⟩))]/\Stp [8,9,10] K72 w75 κ' w'/\Oc E6 2 κ' w' 8 aa ad s1.1/\Mc kwI2 kvI2 (λv:Int=>vi v) κ' w' 9 mb32 s1.2.2.2/\Bc κ' w' 10 b10 81 [vi s1.2.1,vi s1.2.2.1]/\bI (jd p0 p1 p2) k s1=some q2) ⟨_,_,⟨K72,((([]:List Int):(List Int)),(0:Int),(0:Int),(([]:List ((Int×Int)×Int)):(List ((Int×Int)×Int)))),au,aq,R,Jj3,(f66.stp (T3 S69 S73 S76) R R),(f70.stp (S73.tr S76) R R),f77,hq80⟩,(KM R)⟩ ?_
 rintro k _ w81 ⟨K82,s1,aa,ad,rfl,S83,f84,f85,f87,h⟩
 rcases k with _ | k
 cases h
 obtain⟨o78,h,hk90⟩:=BI h;unfold jd at h
 refine Jv<|Jq<|Jg3 [2,1,1,2,2,2,2,2] 1 R<|Jl tv R R R R (Jd2 (cs:=[vi s1.2.1,vi s1.2.2.1]) I81 Z81 R R R<|haE f87.cells)<|Ob h λx37 hx37 h=>Jl tv R R R R (uA (kf:=kvI2) (vf:=(λv:Int=>vi v)) uW U80 X3 R R R (mvE f85) hx37)<|Jb 5 R<|Je3 R ?_
 revert h
 cases ht91:x37.2
 refine JF λh=>Jy R<|Js<|Jp<|Jg3 [2,1,2,2,1] 1 R<|Jl tv R R R R (Jd2 (cs:=[vi s1.2.1,vi s1.2.2.1]) I81 Z81 R R R<|haE f87.cells)<|Jn 1 R<|Jn3 R U29 R R<|Ob h λy388 hy388 h=>WO.mapup (κ:=K82) (kf:=kvI2) (vf:=(λv:Int=>vi v)) (v:=(s1.1.length:Int)) 9 R R R R R R R uW U80 f85 hy388 λw110 S111 f112=>Tv<|Jd<|Je [2,1,2,1,2,1,2] R<|Jd3 R U31 R Z29 ?_
 have f113:=f12.stp (T10 S15 S22 S40 S56 S65 S69 S73 S76 S83 S111) R R
 refine Jb3 R I29 (f113.ld 0 R R)<|Jf R (mI U81 Z2 R R R R) ?_
 have f114:=f87.stp S111 R R
 refine Jb3 R I2 (f114.ld 1 R R)<|Ob h λx54 hx54 h=>Jc3 R g2_0 hx54 U29 Z2<|Jb3 R I2 ((g2_0.stp (T13 S3 S7 S11 S15 S22 S40 S56 S65 S69 S73 S76 S83 S111) R R).gInt hx54)<|Jb 1 R<|Je [2,1,2,1,2,1,2,2,1,2] R<|Jd3 R U28 R Z26 ?_
 have f116:=f8.stp (T11 S11 S15 S22 S40 S56 S65 S69 S73 S76 S83 S111) R R
 refine Jb3 R I26 (f116.ld 1 R R)<|Jf R (mI U81 Z2 R R R R)<|Jb3 R I2 (f114.ld 0 R R)<|Ob h λx60 hx60 h=>Jc3 R g1_1 hx60 U26 Z29 ?_
 obtain⟨ax60,ux60,f118,hl119⟩:=(g1_1.stp (T13 S3 S7 S11 S15 S22 S40 S56 S65 S69 S73 S76 S83 S111) R R).gSl hx60
 refine Jb3 R I29 hl119<|Jn 1 R<|Ob h λx63 hx63 h=>Jc3 R f118 hx63 U29 Z2<|Jb3 R I2 (f118.gInt hx63)<|Jb 1 R<|Jg3 [2,2,1,1,2,2,2,1,1,2] 2 R<|Jl tv R R R R (Jd2 (cs:=[vi p0.In,vi p0.Out]) I25 Z25 R R R<|haE (f17.stp (T9 S22 S40 S56 S65 S69 S73 S76 S83 S111) R R).cells)<|Ob h λx68 hx68 h=>Jh R R R C52 (iM (κ:=Mk K82) (p0:=p0) hx68) ?_
 rintro _ w121 ⟨k122,rfl,e123⟩
 obtain⟨K124,S125,m126⟩:=Ji e123 11 R
 refine Tv<|Jn 3 R<|Jn1 (κ:=K124) (E:=E6) 13 [] (parts:=[(0,.tmp 71)]) (cells:=[vi<|IntKind.i64.wrap ((IntKind.i64.wrap<|x63 * x68)+x54)]) (xs:=([(IntKind.i64.wrap ((IntKind.i64.wrap<|x63 * x68)+x54))]:List Int)) R R R R R R Y29 a8 R R R R R R R R R R ⟨[vi<|IntKind.i64.wrap ((IntKind.i64.wrap<|x63 * x68)+x54)],[],Zl K124 w121 [],Zl K124 w121 [],R,Zl.sp (l1:=[]) (l2:=[]) R,Zl.sr (l1:=[]) (l2:=[]),R,R⟩ λaw av w128 K129 S130 f131=>Tv<|Ob h λx73 hx73 h=>Jm1 (κ:=K129) (E:=E6) 8 [] R R R R R R R R R Y29 a8 R R R R (f84.stp (T3 S111 S125 S130) R R) (Sl.srcP (bM _) f131.rdc) bH hx73 R λar ap w133 K134 S135 f136=>Tv<|Jb 1 R<|Js1 (κ:=K134) [0,3,4,10] (some 19) [(0,2),(2,2),(6,2),(9,2),(11,2),(15,2),(1,0),(3,0),(4,2),(5,0),(7,2),(8,0),(10,0),(12,0),(13,2),(14,0),(16,2),(17,0),(18,2)] [(19,1)] (by kernel_rfl) (by kernel_rfl) λw138 S137=>Jd3 R U28 R Z26<|Jf R (mI U81 Z2 R R R R)<|Jn 1 R<|Jd3 R U31 R Z26<|Jf R (mI U81 Z2 R R R R)<|Jn 1 R<|Jg R (Jc2 I26 R R<|hvC ((f116.stp (T4 S125 S130 S135 S137) R R).ld 0 R R) R) ?_
 have f140:=f114.stp (T4 S125 S130 S135 S137) R R
 refine Jg R (Jc2 I2 R R<|hvC (f140.ld 0 R R) R)<|Ob h λx78 hx78 h=>Jc3 R g1_0 hx78 U26 Z29 ?_
 obtain⟨ax78,ux78,f142,hl143⟩:=(g1_0.stp (S3.tr (S7.tr (S11.tr (S15.tr (S22.tr (S40.tr (S56.tr (S65.tr (S69.tr (S73.tr (S76.tr (S83.tr (S111.tr (S125.tr (S130.tr (S135.tr S137)))))))))))))))) R R).gSl hx78
 refine Jg R (Jc2 I29 R R<|hvC hl143 R)<|Ob h λx81 hx81 h=>Jc3 R f142 hx81 U29 Z2<|Jg R (Jc2 I2 R R<|hvC (f142.gInt hx81) R)<|Jg R (Jc2 I26 R R<|hvC ((f113.stp (T4 S125 S130 S135 S137) R R).ld 1 R R) R)<|Jg R (Jc2 I2 R R<|hvC (f140.ld 1 R R) R)<|Ob h λx87 hx87 h=>Jc3 R g2_1 hx87 U26 Z29 ?_
 obtain⟨ax87,ux87,f146,hl147⟩:=(g2_1.stp (S3.tr (S7.tr (S11.tr (S15.tr (S22.tr (S40.tr (S56.tr (S65.tr (S69.tr (S73.tr (S76.tr (S83.tr (S111.tr (S125.tr (S130.tr (S135.tr S137)))))))))))))))) R R).gSl hx87
 refine Jg R (Jc2 I29 R R<|hvC hl147 R)<|Ob h λx90 hx90 h=>Jc3 R f146 hx90 U29 Z2<|Jg R (Jc2 I2 R R<|hvC (f146.gInt hx90) R)<|Jf R (bG (parts:=[(0,.tmp 82),(1,.tmp 91)]) (cells:=[vi x81,vi x90]) R R (by kernel_rfl))<|Jt1<|Jj1 (κ:=K134) 10 (vc:=[vi x81,vi x90]) R R R R R R R Z81 R R f140 R λw148 S149 f150=>Tv<|Jo<|Jz ?_
 cases h
 exact Jz1 λa ha=>⟨k,_,Ja3 _,⟨K134,(x73,x81,x90,y388),ar,ap,R,(T7 S83 S111 S125 S130 S135 S137 S149).wk R,(f136.stp (S137.tr S149) R R),(f112.stp (T5 S125 S130 S135 S137 S149) R R),f150,hk90⟩,(ha.mm R)⟩
 refine JT λh=>Jx R<|Jg3 [2,2,1,2,2,1,2] 2 R<|Ob h λx43 hx43 h=>Jh R R R C51 (nK (κ:=Mk K82) (Ji3 f84.rdc) hx43) ?_
 rintro _ w92 ⟨k93,am,ao,al,an,rfl,e94,f95,f96⟩
 obtain⟨K97,S98,m99⟩:=Ji e94 11 R
 refine Tv<|Jn 2 R<|Jj1 (κ:=K97) 5 (vc:=[.slice am x43.1.Stem.length ao,.slice al x43.1.Loop.length an]) R R R R R R R Z35 R R (f16.stp (T9 S22 S40 S56 S65 S69 S73 S76 S83 S98) R R) R λw104 S105 f106=>Tv<|Jb 1 R<|Ju<|Jw<|Ja1<|Jw ?_
 cases h
 obtain rfl:=Option.some.inj hk90
 have h:=yL hK79
 refine Ja1<|Ja2 (l:=[.cell 6 35,.tmp 7]) V10 (bF R f106 I35 Z35 R<|Jp2 R R) R ?_
 cases h
 exact⟨(λb=>ren [(13,2),(14,3)]<|K97 b),am,ao,al,an,R,((hE.stp (T14 S3 S7 S11 S15 S22 S40 S56 S65 S69 S73 S76 S83 S98 S105) R R).map (ren [(13,2),(14,3)]) R R),(((f95.mx (bD _) m99 R (R:11+2=13)).stp S105 R R).map (ren [(13,2),(14,3)]) R R),(((f96.mx (bD _) m99 R (R:11+3=14)).stp S105 R R).map (ren [(13,2),(14,3)]) R R)⟩
 refine JT λh=>Jx R<|Je [2,1,2] R<|Jf R (bG (parts:=[]) (cells:=[.slice none 0 0,.slice none 0 0]) R R (by kernel_rfl))<|Jj1 (κ:=K55) 5 (vc:=[.slice none 0 0,.slice none 0 0]) R R R R R R R Z35 R R (f16.stp (T3 S22 S40 S56) R R) R λw59 S60 f61=>Tv<|Jb 1 R<|Ju<|Jw<|Ja2 (l:=[.cell 6 35,.tmp 7]) V10 (bF R f61 I35 Z35 R<|Jp2 R R) R ?_
 cases h
 exact⟨K55,none,0,none,0,R,(hE.stp (T8 S3 S7 S11 S15 S22 S40 S56 S60) R R),Ow.nil,Ow.nil⟩
theorem pz {p0:Sig}{af ah ai ae}{p1:Rival}{a2 u2}{p2:(List Int)}(g1_0:Rd (Rp.int .i64) κ w 0 af ah p1.In) (g1_1:Rd (Rp.sl (Rp.int .i64)) κ w 0 ai ae p1.Next) (g2:Rd (Rp.int .i64) κ w 0 a2 u2 p2){r:(List Int)}(h:ji p0 p1 p2=some r):Ret Tryz.prog 16 [.agg #[vi p0.In,vi p0.Out],.agg #[.slice af p1.In.length ah,.slice ai p1.Next.length ae],.slice a2 p2.length u2] w (Pvs E6 2 κ w r):=by
 unfold ji at h
 refine Jk3 κ F16 R N16 R λhE=>Je [1,1,2] R<|Jf1 (κ:=κ) 2 R R R R R R R λb3 w1 K2 S3 f4=>Tv<|Jf1 (κ:=K2) 3 R R R R R R R λb4 w5 K6 S7 f8=>Tv<|Jb 1 R<|Jq<|Je [1,1,2,2,1,1,1,2,2,2,2,2,2,2,2,2,2,1,2,1,2,2] R ?_
 have f9:=f4.stp S7 R R
 refine Jl tv R R R R (Jd2 (cs:=[vi p0.In,vi p0.Out]) I25 Z25 R R R<|haE f9.cells)<|Ob h λx12 hx12 h=>Jh R R R C48 (nF (κ:=Mk K6) (p0:=p0) hx12) ?_
 rintro _ w10 ⟨k11,rfl,e12⟩
 obtain⟨K13,S14,m15⟩:=Ji e12 4 R
 refine Tv<|Jn 2 R<|Ob h λp19 h hK17=>Ju1 [(4,1),(5,1),(6,1),(7,2),(8,2)] [(9,2),(10,2),(11,2),(12,2),(13,2),(14,2),(15,2),(16,2),(17,1),(18,2),(19,1),(20,2),(21,2)] (λL w'=>L=[(2,.slice a2 p2.length u2),(3,.pointer (some ⟨b3,0,none⟩)),(4,.pointer (some ⟨b4,0,none⟩)),(19,.bool p19)]/\∃κ',Stp [] K13 w10 κ' w') tv ?_ ?_
 revert h
 cases ht18:(!x12)
 refine JF λh=>Jl tv R R R R (Jd2 (cs:=[vi p0.In,vi p0.Out]) I25 Z25 R R R<|haE (f9.stp S14 R R).cells)<|Jl tv R R R R (Jd2 (cs:=[.slice af p1.In.length ah,.slice ai p1.Next.length ae]) I31 Z31 R R R<|haE (f8.stp S14 R R).cells)<|Ob h λx17 hx17 h=>Jh R R R C50 (lB (κ:=Mk K13) (p0:=p0) (p1:=p1) (Ji3<|g1_0.stp (T3 S3 S7 S14) R R) (Ji3<|g1_1.stp (T3 S3 S7 S14) R R) hx17) ?_
 rintro _ w23 ⟨k24,rfl,e25⟩
 obtain⟨K26,S27,m28⟩:=Ji e25 6 R
 refine Tv<|Jn 2 R ?_
 cases h
 exact Jv1 _ tv ⟨R,_,S27.wk R⟩<|KM R
 refine JT λh=>Jd1 R R R R<|Jd1 R R R R<|Jd1 R R R R<|Jn 2 R ?_
 cases h
 exact Jv1 _ tv ⟨R,_,Jj3⟩<|KM R
 rintro _ w30 _ ⟨rfl,K31,S32⟩
 have h:=hK17
 refine Jn 1 R<|Ob h λp24 h hK33=>Ju1 [(10,2),(11,2),(12,2),(13,2)] [(14,2),(15,2),(16,2),(17,1),(18,2),(19,1),(20,2),(21,2)] (λL w'=>L=[(2,.slice a2 p2.length u2),(3,.pointer (some ⟨b3,0,none⟩)),(4,.pointer (some ⟨b4,0,none⟩)),(24,.bool p24)]/\∃κ',Stp [] K31 w30 κ' w') tv ?_ ?_
 revert h
 cases ht34:p19
 refine JF λh=>Jn 1 R<|Jn3 R U29 R R<|Jn 2 R ?_
 cases h
 exact Jv1 _ tv ⟨R,_,Jj3⟩<|KM R
 refine JT λh=>Jn 4 R ?_
 cases h
 exact Jv1 _ tv ⟨R,_,Jj3⟩<|KM R
 rintro _ w35 _ ⟨rfl,K36,S37⟩
 have h:=hK33
 refine Jn 1 R<|Ob h λp32 h hK38=>Ju1 [(15,2),(16,2),(17,1),(18,2),(19,1),(20,2),(21,2)] [] (λL w'=>L=[(2,.slice a2 p2.length u2),(4,.pointer (some ⟨b4,0,none⟩)),(32,.bool p32)]/\∃κ',Stp [] K36 w35 κ' w') tv ?_ ?_
 revert h
 cases ht39:p24
 refine JF λh=>Jn 1 R<|Jd3 R U25 R Z2<|Jb3 R I2 ((f9.stp (T3 S14 S32 S37) R R).ld 1 R R)<|Ob h λ_z29 hz29 h=>Jf R (qc R R R<|te hz29)<|Ob h λx30 hx30 h=>Jh R R R C66 (dc (κ:=Mk K36) (Ji3<|g2.stp (T5 S3 S7 S14 S32 S37) R R) hx30) ?_
 rintro _ w42 ⟨k43,rfl,e44⟩
 obtain⟨K45,S46,m47⟩:=Ji e44 6 R
 refine Tv<|Jn 2 R ?_
 cases h
 exact Jv1 _ tv ⟨R,_,S46.wk R⟩<|KM R
 refine JT λh=>Jn 2 R<|Jd1 R R R R<|Jn 1 R<|Jd1 R R R R<|Jn 2 R ?_
 cases h
 exact Jv1 _ tv ⟨R,_,Jj3⟩<|KM R
 rintro _ w49 _ ⟨rfl,K50,S51⟩
 have h:=hK38
 refine Jd ?_
 revert h
 cases ht52:p32
 refine JF λh=>Jy R<|Js<|Jp<|Je3 R<|Je [2,1,2,1,1,2] R<|Jd3 R U31 R Z29 ?_
 have f54:=f8.stp (T4 S14 S32 S37 S51) R R
 refine Jb3 R I29 (f54.ld 0 R R)<|Ob h λx35 hx35 h=>Jc3 R g1_0 hx35 U29 Z2 ?_
 have f55:=g1_0.stp (T6 S3 S7 S14 S32 S37 S51) R R
 refine Jb3 R I2 (f55.gInt hx35)<|Jn1 (κ:=K50) (E:=E6) 6 [] (parts:=[(0,.tmp 36)]) (cells:=[vi x35]) (xs:=([x35]:List Int)) R R R R R R Y29 a8 R R R R R R R R R R ⟨[vi x35],[],Zl K50 w49 [],Zl K50 w49 [],R,Zl.sp (l1:=[]) (l2:=[]) R,Zl.sr (l1:=[]) (l2:=[]),R,R⟩ λam al w56 K57 S58 f59=>Tv<|Jb 1 R<|Jq<|Jg3 [2,2,2] 1 R<|Jn3 R U29 R R<|Jb 1 R ?_
 have hN60:(p2.length:Int)<=9223372036854775807:=g2.len_le
 refine Ob h λq2 hq62 hK61=>?_
 clear h
 refine Jx1 (λL w'=>∃κ',∃s3:Int×(List Int),∃ad ac,L=[(8,.slice ad s3.2.length ac)]/\Stp [6] K57 w56 κ' w'/\Oc E6 2 κ' w' 6 ad ac s3.2/\q2=yk s3) ?_ ?_
 refine Jv<|Jy1 (λk L w'=>∃κ' v40,∃s1:Int×(List Int),∃aa ab,L=[(4,.pointer (some ⟨b4,0,none⟩)),(7,vi s1.1),(8,.slice aa s1.2.length ab),(38,.slice a2 p2.length u2),(39,vi (p2.length:Int)),(40,vi v40)]/\Stp [6] K57 w56 κ' w'/\Oc E6 2 κ' w' 6 aa ab s1.2/\0<=v40/\Int.toNat ((p2.length:Int)-v40)=k/\cntM (dV p1 p2) k v40 s1=some q2) ⟨_,_,⟨K57,0,((0:Int),(([x35]:List Int):(List Int))),am,al,R,Jj3,f59,(by decide),(by simp),hq62⟩,(KM R)⟩ ?_
 rintro k _ w67 ⟨K68,v40,s1,aa,ab,rfl,S69,f70,hj60,hJ60,h⟩
 rcases k with _ | k
 have hk71:=h;obtain⟨o60,h⟩:=ca (yk (Sum.inl s1):(List Int)⊕((Int×(List Int))⊕(Int×(List Int))))
 have hc60:decide (v40<(p2.length:Int))=false:=Jo2 (by omega)
 refine Je3 R<|Jq<|Jw2 R hc60<|Jc1<|Jt<|Jt ?_
 cases h
 have h:=hk71
 refine Jb1 ?_
 cases h
 exact Jw1 _ ⟨K68,(s1.1,s1.2),aa,ab,R,S69.wk R,f70,R⟩<|KM R
 obtain⟨o60,h,hk71⟩:=BI h;unfold dV at h
 have hc60:decide (v40<(p2.length:Int))=true:=Jn2 (by omega)
 refine Je3 R<|Jq<|Jv2 R hc60<|Js<|Jp<|Jq<|Jv<|Je [2,1,2] R<|Ob h λx42 hx42 h=>Jc3 R g2 hx42 U29 Z2<|Jb3 R I2 ((g2.stp (T8 S3 S7 S14 S32 S37 S51 S58 S69) R R).gInt hx42)<|Jb 1 R<|Je [2,1,2,2,1,2,2,1,2] R<|Jd3 R U31 R Z26 ?_
 have f73:=f54.stp (S58.tr S69) R R
 refine Jb3 R I26 (f73.ld 1 R R)<|Jn 1 R<|Ob h λx47 hx47 h=>Jc3 R g1_1 hx47 U26 Z29 ?_
 obtain⟨ax47,ux47,f75,hl76⟩:=(g1_1.stp (T8 S3 S7 S14 S32 S37 S51 S58 S69) R R).gSl hx47
 refine Jb3 R I29 hl76<|Jn 1 R<|Ob h λx50 hx50 h=>Jc3 R f75 hx50 U29 Z2<|Jb3 R I2 (f75.gInt hx50)<|Jb 1 R<|Jh3 [2,2,1,2,2,1,1,1,2] 1 R<|Jd3 R U31 R Z29<|Jb3 R I29 (f73.ld 0 R R)<|Jn 1 R<|Ob h λx56 hx56 h=>Jc3 R f55 hx56 U29 Z2<|Jb3 R I2 ((f55.stp (S58.tr S69) R R).gInt hx56)<|Jn1 (κ:=K68) (E:=E6) 7 [] (parts:=[(0,.tmp 57)]) (cells:=[vi x56]) (xs:=([x56]:List Int)) R R R R R R Y29 a8 R R R R R R R R R R ⟨[vi x56],[],Zl K68 w67 [],Zl K68 w67 [],R,Zl.sp (l1:=[]) (l2:=[]) R,Zl.sr (l1:=[]) (l2:=[]),R,R⟩ λan ao w78 K79 S80 f81=>Tv<|Ob h λx59 hx59 h=>Jm1 (κ:=K79) (E:=E6) 6 [] R R R R R R R R R Y29 a8 R R R R (f70.stp S80 R R) (Sl.srcP (bM _) f81.rdc) bH hx59 R λak aj w83 K84 S85 f86=>Tv<|Jc 1 R<|Jz<|Jp<|Jf3 R ?_
 have hw60:IntKind.wrap .i64 (v40+1)=v40+1:=wr1 hj60 (Jm2 hc60) hN60
 rw[hw60]
 have hc60:=Jm2 hc60
 cases h
 exact Jz1 λa ha=>⟨k,_,Ja3 _,⟨K84,v40+1,(x50,x59),ak,aj,R,(T3 S69 S80 S85).wk R,f86,by omega,by omega,hk71⟩,(ha.mm R)⟩
 rintro _ w63 ⟨K64,s3,ad,ac,rfl,S65,f66,rfl⟩
 have h:=yI hK61
 refine Jp<|Je3 R<|Ju<|Ja2 (l:=[.tmp 6]) V16 (Jp2 R R) R ?_
 cases h
 exact⟨(λb=>ren [(6,2)]<|K64 b),ad,ac,R,((hE.stp (T8 S3 S7 S14 S32 S37 S51 S58 S65) R R).map (ren [(6,2)]) R R),(f66.map (ren [(6,2)]) R R)⟩
 refine JT λh=>Jx R<|Je3 R<|Ju<|Jw<|Ja2 (l:=[.tmp 6]) V16 (Jp2 R R) R ?_
 cases h
 exact⟨K50,none,0,R,(hE.stp (T6 S3 S7 S14 S32 S37 S51) R R),Ow.nil⟩
end Go.Proofs.YtpcjbkgbnoocaaaGreat
