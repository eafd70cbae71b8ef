/- The walks, part 13. By program. -/
import Derived.Test.YtpcjbkgbnoocaaaGreatFns11EI
import Derived.Test.YtpcjbkgbnoocaaaGreatFns12EI
set_option linter.unusedVariables false
set_option linter.unusedSimpArgs false
open Sum renaming inr → t9
namespace Go.Proofs.YtpcjbkgbnoocaaaGreat
open Go Go.Wk Go.Proofs
set_option maxRecDepth 100000
set_option maxHeartbeats 1000000
theorem lV {w:World}{κ:Col}{aJ aR aO aN}{p0:Arena}{a1 u1}{p1:(List Pair)}{p2:Int}(g0_0:Rd (Rp.int .i64) κ w 0 aJ aR p0.Owner) (g0_1:Rd (Rp.sl (Rp.int .i64)) κ w 0 aO aN p0.Next) (g1:Rd Pair.rp κ w 0 a1 u1 p1){r:Parity×(List Place)×Bool}(h:c8 p0 p1 p2=some r):Ret Tryz.prog 70 [.agg #[.slice aJ p0.Owner.length aR,.slice aO p0.Next.length aN],.slice a1 p1.length u1,vi p2] w (λv w'=>∃(κ':Col) (ra0:Option Addr) (ru0:Nat) (ra1:Option Addr) (ru1:Nat) (ra2:Option Addr) (ru2:Nat) (ra3:Option Addr) (ru3:Nat),v= .tuple #[.agg #[.slice ra0 r.1.Arena.Owner.length ru0,.slice ra1 r.1.Arena.Next.length ru1,.slice ra2 r.1.Prio.length ru2],.slice ra3 r.2.1.length ru3,.bool r.2.2]/\Ent κ w κ' w'/\Oc E6 2 κ' w' 2 ra0 ru0 r.1.Arena.Owner/\Oc (Ep.own E6 2) 29 κ' w' 3 ra1 ru1 r.1.Arena.Next/\Oc E6 2 κ' w' 4 ra2 ru2 r.1.Prio/\Oc (Ep.fz Place.rp) 116 κ' w' 5 ra3 ru3 r.2.1):=by
 unfold c8 at h
 refine Ret.enter F70 R N70 R ?_
 dsimp only[envOf]
 have hE:=Ent.refl κ w
 refine Je [1,1,2,2] R (Jf1 (κ:=κ) 2 R R R R R R R λb3 w1 K2 S3 f4=>⟨tv,Jg1 (κ:=K2) 3 R R R R R X108 R λb6 w5 K6 S7 f8=>⟨tv,Jb 2 R (Je [2,1,2,2] R (Jd3 R U104 R Z29 ?_))⟩⟩)
 have f9:=f4.stp S7 R R
 refine Jb3 R I29 (f9.ld 0 R R) (Jf R (Je2 U29 R R) (Jb 1 R (Jq (Je [1,1,2,2,2,2,1,2,2,2,2,2,2,1,2,2] R (Jl tv R R R R (Jd2 (cs:=[.slice aJ p0.Owner.length aR,.slice aO p0.Next.length aN]) I104 Z104 R R R (haE f9.cells)) (Ob h λx25 hx25 h=>?_))))))
 have f10:=g0_0.stp (S3.tr S7) R R
 have f11:=g0_1.stp (S3.tr S7) R R
 refine Jh R R R C119 (ms (κ:=Mk K6) (p0:=p0) (Ji3 f10) (Ji3 f11) hx25) ?_
 rintro _ w12 ⟨k13,rfl,e14⟩
 obtain⟨K15,S16,m17⟩:=Ji e14 4 R
 refine⟨tv,Jn 2 R (Ob h λp32 h hK19=>Ju1 [(4,2),(5,2),(6,1),(7,2),(8,2)] [(9,2),(10,2),(11,2),(12,2),(13,1),(14,2),(15,2)] (λL w'=>L=[(1,.slice a1 p1.length u1),(2,vi p2),(3,.pointer (some ⟨b3,0,none⟩)),(6,.pointer (some ⟨b6,0,none⟩)),(9,vi (p0.Owner.length:Int)),(32,.bool p32)]/\∃κ',Stp [] K15 w12 κ' w') tv ?_ ?_)⟩
 revert h
 cases ht20:(!x25)
 refine JF λh=>Jn 2 R (Ob h λx30 hx30 h=>Jh R R R C120 (mM (κ:=Mk K15) (Ji3 (g1.stp (S3.tr (S7.tr S16)) R R)) hx30) ?_)
 rintro _ w22 ⟨k23,rfl,e24⟩
 obtain⟨K25,S26,m27⟩:=Ji e24 6 R
 refine⟨tv,Jn 2 R ?_⟩
 cases h
 exact Jv1 _ tv ⟨R,_,S26.wk R⟩ (KM R)
 refine JT λh=>Jn 2 R (Jd1 R R R R (Jn 2 R ?_))
 cases h
 exact Jv1 _ tv ⟨R,_,Jj3⟩ (KM R)
 rintro _ w29 _ ⟨rfl,K30,S31⟩
 have h:=hK19
 refine Jn 1 R (Ob h λp39 h hK32=>Ju1 [(10,2),(11,2),(12,2),(13,1),(14,2),(15,2)] [] (λL w'=>L=[(1,.slice a1 p1.length u1),(2,vi p2),(3,.pointer (some ⟨b3,0,none⟩)),(6,.pointer (some ⟨b6,0,none⟩)),(39,.bool p39)]/\∃κ',Stp [] K30 w29 κ' w') tv ?_ ?_)
 revert h
 cases ht33:p32
 refine JF λh=>Jn 3 R (Ob h λx37 hx37 h=>Jh R R R C57 (cO (κ:=Mk K30) hx37) ?_)
 rintro _ w34 ⟨k35,rfl,e36⟩
 obtain⟨K37,S38,m39⟩:=Ji e36 6 R
 refine⟨tv,Jn 2 R ?_⟩
 cases h
 exact Jv1 _ tv ⟨R,_,S38.wk R⟩ (KM R)
 refine JT λh=>Jn 3 R (Jd1 R R R R (Jn 2 R ?_))
 cases h
 exact Jv1 _ tv ⟨R,_,Jj3⟩ (KM R)
 rintro _ w41 _ ⟨rfl,K42,S43⟩
 have h:=hK32
 refine Jd ?_
 revert h
 cases ht44:p39
 refine JF λh=>Jy R (Js (Jp (Je [1,2] R (Jo1 (κ:=K42) (E:=E6) 6 R R R R R Y29 Tryzinfo2 R λbg bc w55 K56 S57 f58=>⟨tv,Jb 1 R (Jq (Je3 R ?_))⟩))))
 have hN59:(p1.length:Int)<=9223372036854775807:=g1.len_le
 refine Ob h λq2 hq61 hK60=>?_
 clear h
 refine Jx1 (λL w'=>∃κ',∃s3:(List Int),∃ak ae,L=[(1,.slice a1 p1.length u1),(2,vi p2),(3,.pointer (some ⟨b3,0,none⟩)),(6,.pointer (some ⟨b6,0,none⟩)),(10,.slice ak s3.length ae)]/\Stp [6] K56 w55 κ' w'/\Oc E6 2 κ' w' 6 ak ae s3/\q2=t9 s3) ?_ ?_
 refine Jv (Jy1 (λk L w'=>∃κ' v11,∃s1:(List Int),∃az ax,L=[(1,.slice a1 p1.length u1),(2,vi p2),(3,.pointer (some ⟨b3,0,none⟩)),(6,.pointer (some ⟨b6,0,none⟩)),(10,.slice az s1.length ax),(11,vi v11)]/\Stp [6] K56 w55 κ' w'/\Oc E6 2 κ' w' 6 az ax s1/\0<=v11/\Int.toNat ((p1.length:Int)-v11)=k/\cntM dr k v11 s1=some q2) ⟨_,_,⟨K56,0,(([]:List Int):(List Int)),bg,bc,R,Jj3,f58,(by decide),(by simp),hq61⟩,(KM R)⟩ ?_)
 rintro k _ w66 ⟨K67,v11,s1,az,ax,rfl,S68,f69,hj59,hJ59,h⟩
 rcases k with _ | k
 have hk70:=h;obtain⟨o59,h⟩:=bO (t9 (Sum.inl s1):(Parity×(List Place)×Bool)⊕(((List Int))⊕((List Int))))
 have hc59:decide (v11<(p1.length:Int))=false:=Jo2 (by omega)
 refine Jq (Jg3 [2,2,2,2] 2 R (Jf R (Je2 U98 R R) (Jb 1 R (Jw2 R hc59 (Jc1 (Jt (Jt ?_)))))))
 cases h
 have h:=hk70
 refine Jb1 ?_
 cases h
 exact Jw1 _ ⟨K67,(s1:(List Int)),az,ax,R,S68.wk R,f69,R⟩ (KM R)
 obtain⟨o59,h,hk70⟩:=BI h;unfold dr at h
 have hc59:decide (v11<(p1.length:Int))=true:=Jn2 (by omega)
 refine Jq (Jg3 [2,2,2,2] 2 R (Jf R (Je2 U98 R R) (Jb 1 R (Jv2 R hc59 (Js (Jp (Jq (Jv (Jh3 [2,2,1,1,2] 2 R (Jn1 (κ:=K67) (E:=E6) 7 [] (parts:=[(0,.tmp 50)]) (cells:=[vi v11]) (xs:=([v11]:List Int)) R R R R R R Y29 Tryzinfo2 R R R R R R R R R R ⟨[vi v11],[],Zl K67 w66 [],Zl K67 w66 [],R,Zl.sp (l1:=[]) (l2:=[]) R,Zl.sr (l1:=[]) (l2:=[]),R,R⟩ λbw bt w71 K72 S73 f74=>⟨tv,Ob h λx52 hx52 h=>Jm1 (κ:=K72) (E:=E6) 6 [] R R R R R R R R R Y29 Tryzinfo2 R R R R (f69.stp S73 R R) (Sl.srcP (bR _) f74.rdc) bJ hx52 R λbh bk w76 K77 S78 f79=>⟨tv,Jc 1 R (Jz (Jp (Jf3 R ?_)))⟩⟩))))))))))
 have hw59:IntKind.wrap .i64 (v11+1)=v11+1:=wr1 hj59 (Jm2 hc59) hN59
 rw[hw59]
 have hc59:=Jm2 hc59
 cases h
 exact Jz1 λa ha=>⟨k,_,Ja3 _,⟨K77,v11+1,(x52:(List Int)),bh,bk,R,(S68.tr (S73.tr S78)).wk R,f79,by omega,by omega,hk70⟩,(ha.mm R)⟩
 rintro _ w62 ⟨K63,s3,ak,ae,rfl,S64,f65,rfl⟩
 have h:=hK60
 dsimp only[aft]at h
 refine Jp (Jg3 [2,2,2,1,2] 2 R (Jf R (bI (parts:=[(0,.tmp 53),(1,.tmp 54)]) (cells:=[vi p2,.slice ak s3.length ae]) R R (by kernel_rfl)) ?_))
 obtain⟨K80,S81,z82⟩:=dg K63 w62 6
 refine Jn1 (κ:=K80) (E:=(Ep.fz Place.rp)) 7 [] (parts:=[(0,.tmp 55)]) (cells:=[vi p2,.slice ak s3.length ae]) (xs:=([(⟨p2,s3⟩:Place)]:List Place)) R R R R R R Y109 Tryzinfo116 R R R R R R R R R R ⟨[vi p2,.slice ak s3.length ae],[],Zl K80 w62 [],Zl K80 w62 [],R,Zl.sp (l1:=[]) (l2:=[]) R,Zl.sr (l1:=[]) (l2:=[]),(Place.mk_rel (x:=(⟨p2,s3⟩:Place)) (Sl.z1 (Sl.st z82 f65.rdc))),R⟩ λbf aX w84 K85 S86 f87=>⟨tv,Jb 1 R (Je [2,1,1] R (Jf R (bI (parts:=[]) (cells:=[.slice none 0 0,.slice none 0 0,.slice none 0 0]) R R (by kernel_rfl)) (Jg1 (κ:=K85) 8 R R R R R X108 R λb13 w88 K89 S90 f91=>⟨tv,Jj1 (κ:=K89) 8 (vc:=[.slice none 0 0,.slice none 0 0,.slice none 0 0]) R R R R R R R Z108 R R f91 R λw92 S93 f94=>⟨tv,Jd (Jq (Je3 R (Ob h λq5 hq97 hK96=>?_)))⟩⟩)))⟩
 clear h
 refine Jx1 (λL w'=>∃κ',∃s6:(List Place)×Int×(List Int)×(List (List Int))×(List Int),∃aF ay ab aj ad ai af ah,L=[(6,.pointer (some ⟨b6,0,none⟩)),(12,.slice aF s6.1.length ay),(13,.pointer (some ⟨b13,0,none⟩))]/\Stp [7,8,9,10,11,12,16,19,20,21] K89 w92 κ' w'/\Oc (Ep.fz Place.rp) 116 κ' w' 7 aF ay s6.1/\Oc E6 2 κ' w' 9 ab aj s6.2.2.1/\Oc (Ep.own E6 2) 29 κ' w' 10 ad ai s6.2.2.2.1/\Oc E6 2 κ' w' 11 af ah s6.2.2.2.2/\Bc κ' w' 8 b13 108 [.slice ab s6.2.2.1.length aj,.slice ad s6.2.2.2.1.length ai,.slice af s6.2.2.2.2.length ah]/\q5=t9 s6) ?_ ?_
 refine Jv (Jy1 (λk L w'=>∃κ',∃s4:(List Place)×Int×(List Int)×(List (List Int))×(List Int),∃al ao aG aA aq am aa ac,L=[(1,.slice a1 p1.length u1),(3,.pointer (some ⟨b3,0,none⟩)),(6,.pointer (some ⟨b6,0,none⟩)),(12,.slice al s4.1.length ao),(13,.pointer (some ⟨b13,0,none⟩)),(14,vi s4.2.1)]/\Stp [7,8,9,10,11,12,16,19,20,21] K89 w92 κ' w'/\Oc (Ep.fz Place.rp) 116 κ' w' 7 al ao s4.1/\Oc E6 2 κ' w' 9 aG aA s4.2.2.1/\Oc (Ep.own E6 2) 29 κ' w' 10 aq am s4.2.2.2.1/\Oc E6 2 κ' w' 11 aa ac s4.2.2.2.2/\Bc κ' w' 8 b13 108 [.slice aG s4.2.2.1.length aA,.slice aq s4.2.2.2.1.length am,.slice aa s4.2.2.2.2.length ac]/\whileM (dq p0 p1) k s4=some q5) ⟨_,_,⟨K89,((([(⟨p2,s3⟩:Place)]:List Place):(List Place)),(0:Int),(([]:List Int):(List Int)),(([]:List (List Int)):(List (List Int))),(([]:List Int):(List Int))),bf,aX,none,0,none,0,none,0,R,Jj3,(f87.stp (S90.tr S93) R R),Ow.nil,Ow.nil,Ow.nil,f94,hq97⟩,(KM R)⟩ ?_)
 rintro k _ w106 ⟨K107,s4,al,ao,aG,aA,aq,am,aa,ac,rfl,S108,f109,f110,f111,f112,f113,h⟩
 rcases k with _ | k
 cases h
 obtain⟨o95,h,hk115⟩:=BI h;unfold dq at h
 refine Jq (Jg3 [2,2,2,2] 2 R (Jf R (Je2 U109 R R) (Jb 1 R ?_)))
 revert h
 cases ht116:decide (s4.2.1<(s4.1.length:Int))
 refine JF λh=>Jy R (Jc1 (Jt (Jt ?_)))
 cases h
 have h:=hk115
 refine Jb1 ?_
 cases h
 exact Jw1 _ ⟨K107,((s4.1:(List Place)),(s4.2.1:Int),(s4.2.2.1:(List Int)),(s4.2.2.2.1:(List (List Int))),(s4.2.2.2.2:(List Int))),al,ao,aG,aA,aq,am,aa,ac,R,S108.wk R,f109,f110,f111,f112,f113,R⟩ (KM R)
 refine JT λh=>Jx R (Js (Jp (Jq (Jv (Jg3 [2,2,2,1,1,1] 2 R (Ob h λx66 hx66 h=>Jc3 R f109.rdc hx66 U109 Z116 ?_))))))
 obtain⟨cse117,hre117,hle117⟩:=Ow.gZS f109 hx66
 obtain⟨ae117_0,ue117_0,rfl,fe117_0⟩:=Place.un hre117
 refine Jl tv R R R R (Jd2 (cs:=[vi x66.At,.slice ae117_0 x66.Record.length ue117_0]) I116 Z116 R R R (haE hle117)) (Jg1 (κ:=K107) 12 R R R R R X116 R λb15 w118 K119 S120 f121=>⟨tv,Jj1 (κ:=K119) 12 (vc:=[vi x66.At,.slice ae117_0 x66.Record.length ue117_0]) R R R R R R R Z116 R R f121 R λw122 S123 f124=>⟨tv,Jd (Jg3 [2,2,1,2,1,1,2] 1 R (Jd3 R U116 R Z29 (Jb3 R I29 (f124.ld 1 R R) (Jd3 R U116 R Z2 (Jb3 R I2 (f124.ld 0 R R) (Ob h λx73 hx73 h=>?_))))))⟩⟩)
 have f125:=g1.stp (S3.tr (S7.tr (S16.tr (S31.tr (S43.tr (S57.tr (S64.tr (S81.tr (S86.tr (S90.tr (S93.tr (S108.tr (S120.tr S123))))))))))))) R R
 have f126:=fe117_0.stp (S120.tr S123) R R
 refine Jh R R R C121 (pH (κ:=Mk K119) (Ji3 f125) (Ji3 f126) hx73) ?_
 rintro _ w127 ⟨k128,aW,aU,rfl,e129,f130⟩
 obtain⟨K131,S132,m133⟩:=Ji e129 13 R
 refine⟨tv,Jb 1 R (Je [1,2] R (Jo1 (κ:=K131) (E:=E6) 16 R R R R R Y29 Tryzinfo2 R λbm aY w136 K137 S138 f139=>⟨tv,Jb 1 R (Jq (Je3 R (Ob h λq8 hq142 hK141=>?_)))⟩))⟩
 clear h
 refine Jx1 (λL w'=>∃κ',∃s9:(List Place)×(List Int)×Int,∃aE aD aM aL,L=[(1,.slice a1 p1.length u1),(3,.pointer (some ⟨b3,0,none⟩)),(6,.pointer (some ⟨b6,0,none⟩)),(12,.slice aE s9.1.length aD),(13,.pointer (some ⟨b13,0,none⟩)),(14,vi s4.2.1),(15,.pointer (some ⟨b15,0,none⟩)),(17,.slice aM s9.2.1.length aL)]/\Stp [7,16,19,20] K137 w136 κ' w'/\Oc (Ep.fz Place.rp) 116 κ' w' 7 aE aD s9.1/\Oc E6 2 κ' w' 16 aM aL s9.2.1/\q8=t9 s9) ?_ ?_
 refine Jv (Jy1 (λk L w'=>∃κ',∃s7:(List Place)×(List Int)×Int,∃ap an ar aw,L=[(1,.slice a1 p1.length u1),(3,.pointer (some ⟨b3,0,none⟩)),(6,.pointer (some ⟨b6,0,none⟩)),(12,.slice ap s7.1.length an),(13,.pointer (some ⟨b13,0,none⟩)),(14,vi s4.2.1),(15,.pointer (some ⟨b15,0,none⟩)),(16,.slice aW x73.length aU),(17,.slice ar s7.2.1.length aw),(18,vi s7.2.2)]/\Stp [7,16,19,20] K137 w136 κ' w'/\Oc (Ep.fz Place.rp) 116 κ' w' 7 ap an s7.1/\Oc E6 2 κ' w' 16 ar aw s7.2.1/\whileM (ee p0 x66 x73) k s7=some q8) ⟨_,_,⟨K137,((s4.1:(List Place)),(([]:List Int):(List Int)),(0:Int)),al,ao,bm,aY,R,Jj3,(f109.stp (S120.tr (S123.tr (S132.tr S138))) R R),f139,hq142⟩,(KM R)⟩ ?_)
 rintro k _ w148 ⟨K149,s7,ap,an,ar,aw,rfl,S150,f151,f152,h⟩
 rcases k with _ | k
 cases h
 obtain⟨o140,h,hk154⟩:=BI h;unfold ee at h
 refine Jq (Jg3 [2,2,1,2,1,2,1,2,2] 1 R (Jd3 R U104 R Z26 ?_))
 have f155:=f9.stp (S16.tr (S31.tr (S43.tr (S57.tr (S64.tr (S81.tr (S86.tr (S90.tr (S93.tr (S108.tr (S120.tr (S123.tr (S132.tr (S138.tr S150)))))))))))))) R R
 refine Jb3 R I26 (f155.ld 1 R R) (Jd3 R U116 R Z2 ?_)
 have f156:=f124.stp (S132.tr (S138.tr S150)) R R
 refine Jb3 R I2 (f156.ld 0 R R) (Ob h λx80 hx80 h=>Jc3 R f11 hx80 U26 Z29 ?_)
 have f157:=f11.stp (S16.tr (S31.tr (S43.tr (S57.tr (S64.tr (S81.tr (S86.tr (S90.tr (S93.tr (S108.tr (S120.tr (S123.tr (S132.tr (S138.tr S150)))))))))))))) R R
 obtain⟨ax80,ux80,f158,hl159⟩:=f157.gSl hx80
 refine Jb3 R I29 hl159 (Jf R (Je2 U29 R R) (Jb 1 R ?_))
 revert h
 cases ht160:decide (s7.2.2<(x80.length:Int))
 refine JF λh=>Jy R (Jc1 (Jt (Jt ?_)))
 cases h
 have h:=hk154
 refine Jb1 ?_
 cases h
 exact Jw1 _ ⟨K149,((s7.1:(List Place)),(s7.2.1:(List Int)),(s7.2.2:Int)),ap,an,ar,aw,R,S150.wk R,f151,f152,R⟩ (KM R)
 refine JT λh=>Jx R (Js (Jp (Jq (Jv (Je [2,1,2,1,2,1,2,2,1,2] R (Jd3 R U104 R Z26 (Jb3 R I26 (f155.ld 1 R R) (Jd3 R U116 R Z2 (Jb3 R I2 (f156.ld 0 R R) (Ob h λx90 hx90 h=>Jc3 R f157 hx90 U26 Z29 ?_))))))))))
 obtain⟨ax90,ux90,f161,hl162⟩:=f157.gSl hx90
 refine Jb3 R I29 hl162 (Jn 1 R (Ob h λx93 hx93 h=>Jc3 R f161 hx93 U29 Z2 (Jb3 R I2 (f161.gInt hx93) (Jb 1 R (Jg3 [2,2,2,1,2] 3 R (Ob h λx98 hx98 h=>?_))))))
 have f163:=(f130.mx (bH _) m133 R (R:13+2=15)).stp (S138.tr S150) R R
 refine Jh R R R C122 (qu (κ:=Mk K149) (Ji3 f151.rdc) (Ji3 f163.rdc) hx98) ?_
 rintro _ w164 ⟨k165,rfl,e166⟩
 obtain⟨K167,S168,m169⟩:=Ji e166 17 R
 refine⟨tv,Jb 1 R (Jq (Je3 R (Ob h λq10 h hK171=>Jx1 (λL w'=>∃κ',∃z10:(List Place)×Int,∃aC aB,L=[(1,.slice a1 p1.length u1),(3,.pointer (some ⟨b3,0,none⟩)),(6,.pointer (some ⟨b6,0,none⟩)),(12,.slice aC z10.1.length aB),(13,.pointer (some ⟨b13,0,none⟩)),(14,vi s4.2.1),(15,.pointer (some ⟨b15,0,none⟩)),(16,.slice aW x73.length aU),(17,.slice ar s7.2.1.length aw),(18,vi s7.2.2),(20,vi z10.2)]/\Stp [7,19,20] K167 w164 κ' w'/\Oc (Ep.fz Place.rp) 116 κ' w' 7 aC aB z10.1/\q10=t9 z10) ?_ ?_)))⟩
 revert h
 cases ht176:decide (x98<0)
 refine JF λh=>Jy R (Js ?_)
 cases h
 exact Jw1 _ ⟨K167,((s7.1:(List Place)),(x98:Int)),ap,an,R,Jj3,(f151.stp S168 R R),R⟩ (KM R)
 refine JT λh=>Jx R (Jg3 [2,2,2] 1 R (Jf R (Je2 U109 R R) (Jb 1 R (Jq (Je3 R ?_)))))
 revert h
 cases ht177:decide (256<=(s7.1.length:Int))
 refine JF λh=>Jy R (Js (Jp (Jh3 [2,2,1,2,1,2,1,1,2] 2 R (Jo1 (κ:=K167) (E:=E6) 19 R R R R R Y29 Tryzinfo2 R λbp bs w188 K189 S190 f191=>⟨tv,Jn 1 R (Ob h λx111 hx111 h=>Jm1 (κ:=K189) (E:=E6) 19 [] R R R R R R R R R Y29 Tryzinfo2 R R R R f191 (Sl.srcP (bR _) (f163.stp (S168.tr S190) R R).rdc) bJ hx111 R λaP aK w193 K194 S195 f196=>⟨tv,Jf R (bI (parts:=[(0,.tmp 108),(1,.tmp 111)]) (cells:=[vi x93,.slice aP x111.length aK]) R R (by kernel_rfl)) ?_⟩)⟩))))
 obtain⟨K197,S198,z199⟩:=dg K194 w193 19
 refine Jn1 (κ:=K197) (E:=(Ep.fz Place.rp)) 20 [] (parts:=[(0,.tmp 112)]) (cells:=[vi x93,.slice aP x111.length aK]) (xs:=([(⟨x93,x111⟩:Place)]:List Place)) R R R R R R Y109 Tryzinfo116 R R R R R R R R R R ⟨[vi x93,.slice aP x111.length aK],[],Zl K197 w193 [],Zl K197 w193 [],R,Zl.sp (l1:=[]) (l2:=[]) R,Zl.sr (l1:=[]) (l2:=[]),(Place.mk_rel (x:=(⟨x93,x111⟩:Place)) (Sl.z1 (Sl.st z199 f196.rdc))),R⟩ λbz bA w201 K202 S203 f204=>⟨tv,Ob h λx114 hx114 h=>Jm1 (κ:=K202) (E:=(Ep.fz Place.rp)) 7 [20] R R R R R R R R R Y109 Tryzinfo116 R R R R (f151.stp (S168.tr (S190.tr (S195.tr (S198.tr S203)))) R R) f204.src (dc R) hx114 R λbd bb w206 K207 S208 f209=>⟨tv,Jc 1 R ?_⟩⟩
 cases h
 exact Jw1 _ ⟨K207,((x114:(List Place)),((s7.1.length:Int):Int)),bd,bb,R,(S190.tr (S195.tr (S198.tr (S203.tr S208)))).wk R,f209,R⟩ (KM R)
 refine JT λh=>Jx R (Je [2,1,1,2,2] R (Jf R (bI (parts:=[]) (cells:=[.slice none 0 0,.slice none 0 0,.slice none 0 0]) R R (by kernel_rfl)) (Jo1 (κ:=K167) (E:=(Ep.fz Place.rp)) 19 R R R R R Y109 Tryzinfo116 R λbj aZ w178 K179 S180 f181=>⟨tv,Jj1 (κ:=K179) 3 (vc:=[.slice none 0 0,.slice none 0 0,.slice none 0 0]) R R R R R R R Z108 R R (f8.stp (S16.tr (S31.tr (S43.tr (S57.tr (S64.tr (S81.tr (S86.tr (S90.tr (S93.tr (S108.tr (S120.tr (S123.tr (S132.tr (S138.tr (S150.tr (S168.tr S180)))))))))))))))) R R) R λw183 S184 f185=>⟨tv,Jb 2 R (Ju (Jw (Jq2 ?_)))⟩⟩)))
 cases h
 have h:=hK171
 dsimp only[aft]at h
 refine Jw (Ja1 (Jw (Jw ?_)))
 cases h
 obtain rfl:=Option.some.inj hk154
 have h:=hK141
 dsimp only[aft]at h
 refine Ja1 (Jq2 (Jw (Ja1 (Jw (Jw ?_)))))
 cases h
 obtain rfl:=Option.some.inj hk115
 have h:=hK96
 dsimp only[aft]at h
 refine Ja1 (Jq2 (Jw (Ja2 (l:=[.cell 6 108,.tmp 7,.tmp 8]) V70 (bL R f185 I108 Z108 R (Jp2 R (Jp2 R R))) R ?_)))
 cases h
 exact⟨(λb=>ren [(19,5)] (K179 b)),none,0,none,0,none,0,bj,aZ,R,((hE.stp (S3.tr (S7.tr (S16.tr (S31.tr (S43.tr (S57.tr (S64.tr (S81.tr (S86.tr (S90.tr (S93.tr (S108.tr (S120.tr (S123.tr (S132.tr (S138.tr (S150.tr (S168.tr (S180.tr S184))))))))))))))))))) R R).map (ren [(19,5)]) R R),Ow.nil,Ow.nil,Ow.nil,((f181.stp S184 R R).map (ren [(19,5)]) R R)⟩
 rintro _ w172 ⟨K173,z10,aC,aB,rfl,S174,f175,rfl⟩
 have h:=hK171
 dsimp only[aft]at h
 refine Jp (Jh3 [2,2,1,1,2] 2 R (Jn1 (κ:=K173) (E:=E6) 19 [] (parts:=[(0,.tmp 116)]) (cells:=[vi z10.2]) (xs:=([z10.2]:List Int)) R R R R R R Y29 Tryzinfo2 R R R R R R R R R R ⟨[vi z10.2],[],Zl K173 w172 [],Zl K173 w172 [],R,Zl.sp (l1:=[]) (l2:=[]) R,Zl.sr (l1:=[]) (l2:=[]),R,R⟩ λbn bv w211 K212 S213 f214=>⟨tv,Ob h λx118 hx118 h=>Jm1 (κ:=K212) (E:=E6) 16 [] R R R R R R R R R Y29 Tryzinfo2 R R R R (f152.stp (S168.tr (S174.tr S213)) R R) (Sl.srcP (bR _) f214.rdc) bJ hx118 R λbi ba w216 K217 S218 f219=>⟨tv,Jc 1 R (Jz (Jp (Jf3 R ?_)))⟩⟩))
 cases h
 exact Jz1 λa ha=>⟨k,_,Ja3 _,⟨K217,((z10.1:(List Place)),(x118:(List Int)),((IntKind.i64.wrap (s7.2.2+1)):Int)),aC,aB,bi,ba,R,(S150.tr (S168.tr (S174.tr (S213.tr S218)))).wk R,(f175.stp (S213.tr S218) R R),f219,hk154⟩,(ha.mm R)⟩
 rintro _ w143 ⟨K144,s9,aE,aD,aM,aL,rfl,S145,f146,f147,rfl⟩
 have h:=hK141
 dsimp only[aft]at h
 refine Jp (Jq (Js1 (κ:=K144) [0,2,8,12] (some 13) [(0,2),(1,2),(3,2),(5,2),(2,0),(4,0),(6,0),(7,2),(8,0),(9,1),(10,1),(11,2),(12,2)] [(13,1)] (by kernel_rfl) (by kernel_rfl) λw222 S221=>Jd3 R U108 R Z104 (Jd3 R U104 R Z29 (Jd3 R U104 R Z29 (Jd3 R U116 R Z2 ?_)))))
 have f223:=f113.stp (S120.tr (S123.tr (S132.tr (S138.tr (S145.tr S221))))) R R
 refine Jg R (Jc2 I29 R R (hvC (f223.ld 0 R R) R)) (Jg R (Jc2 I29 R R (hvC ((f9.stp (S16.tr (S31.tr (S43.tr (S57.tr (S64.tr (S81.tr (S86.tr (S90.tr (S93.tr (S108.tr (S120.tr (S123.tr (S132.tr (S138.tr (S145.tr S221))))))))))))))) R R).ld 0 R R) R)) ?_)
 have f225:=f124.stp (S132.tr (S138.tr (S145.tr S221))) R R
 refine Jg R (Jc2 I2 R R (hvC (f225.ld 0 R R) R)) (Ob h λx126 hx126 h=>Jc3 R f10 hx126 U29 Z2 (Jg R (Jc2 I2 R R (hvC ((f10.stp (S16.tr (S31.tr (S43.tr (S57.tr (S64.tr (S81.tr (S86.tr (S90.tr (S93.tr (S108.tr (S120.tr (S123.tr (S132.tr (S138.tr (S145.tr S221))))))))))))))) R R).gInt hx126) R)) (Jn1 (κ:=K144) (E:=E6) 17 [] (parts:=[(0,.tmp 127)]) (cells:=[vi x126]) (xs:=([x126]:List Int)) R R R R R R Y29 Tryzinfo2 R R R R R R R R R R ⟨[vi x126],[],Zl K144 w222 [],Zl K144 w222 [],R,Zl.sp (l1:=[]) (l2:=[]) R,Zl.sr (l1:=[]) (l2:=[]),R,R⟩ λbo bB w227 K228 S229 f230=>⟨(S229.cl R),Ob h λx129 hx129 h=>Jm1 (κ:=K228) (E:=E6) 9 [] R R R R R R R R R Y29 Tryzinfo2 R R R R (f110.stp (S120.tr (S123.tr (S132.tr (S138.tr (S145.tr (S221.tr S229)))))) R R) (Sl.srcP (bR _) f230.rdc) bJ hx129 R λav au w232 K233 S234 f235=>⟨((S229.tr S234).cl R),Jd3 R U108 R Z104 (Jd3 R U104 R Z29 (Jt1 (Ji1 (κ:=K233) 8 (off:=0) (vc:=[.slice av x129.length au]) (cs':=[.slice av x129.length au,.slice aq s4.2.2.2.1.length am,.slice aa s4.2.2.2.2.length ac]) R R R R R R R Z29 R R (f223.stp (S229.tr S234) R R) R R λw237 S238 f239=>⟨tv,Jd (Jq (Js1 (κ:=K233) [8] (some 9) [(0,2),(1,2),(3,2),(2,0),(4,1),(5,1),(6,1),(7,2),(8,2)] [(9,1)] (by kernel_rfl) (by kernel_rfl) λw241 S240=>Jd3 R U108 R Z104 (Jd3 R U104 R Z26 (Jn 1 R ?_))))⟩)))⟩⟩)))
 have f242:=f239.stp S240 R R
 refine Jg R (Jc2 I26 R R (hvC (f242.ld 1 R R) R)) (Ob h λx136 hx136 h=>Jh R R R C123 (n5 (κ:=Mk K233) (Ji3 (f147.stp (S221.tr (S229.tr (S234.tr (S238.tr S240)))) R R).rdc) hx136) ?_)
 rintro _ w244 ⟨k245,aT,aV,rfl,e246,f247⟩
 obtain⟨K248,S249,m250⟩:=Ji e246 18 R
 refine⟨(S249.cl R),Jn1 (κ:=K248) (E:=(Ep.own E6 2)) 21 [20] (parts:=[(0,.tmp 136)]) (cells:=[.slice aT x136.length aV]) (xs:=([x136]:List (List Int))) R R R R R R Y26 Tryzinfo29 R R R R R R R R R R ⟨[.slice aT x136.length aV],[],Zl K248 w244 [20],Zl K248 w244 [],R,Zl.sp (l1:=[20]) (l2:=[]) R,Zl.sr (l1:=[20]) (l2:=[]),⟨_,_,R,(f247.mx (bH _) m250 R (R:18+2=20))⟩,R⟩ λbr bq w253 K254 S255 f256=>⟨((S249.tr S255).cl R),Ob h λx138 hx138 h=>Jm1 (κ:=K254) (E:=(Ep.own E6 2)) 10 [21] R R R R R R R R R Y26 Tryzinfo29 R R R R (f111.stp (S120.tr (S123.tr (S132.tr (S138.tr (S145.tr (S221.tr (S229.tr (S234.tr (S238.tr (S240.tr (S249.tr S255))))))))))) R R) f256.src (dc R) hx138 R λaI aH w258 K259 S260 f261=>⟨((S249.tr (S255.tr S260)).cl R),Jd3 R U108 R Z104 (Jd3 R U104 R Z26 (Jt1 (Ji1 (κ:=K259) 8 (off:=1) (vc:=[.slice aI x138.length aH]) (cs':=[.slice av x129.length au,.slice aI x138.length aH,.slice aa s4.2.2.2.2.length ac]) R R R R R R R Z26 R R (f242.stp (S249.tr (S255.tr S260)) R R) R R λw263 S264 f265=>⟨tv,Jd (Js1 (κ:=K259) [8,12] (some 11) [(0,2),(2,2),(3,2),(5,2),(1,0),(4,0),(6,0),(7,1),(8,1),(9,1),(10,2)] [(11,1)] (by kernel_rfl) (by kernel_rfl) λw267 S266=>Jd3 R U108 R Z29 (Jn 1 R (Jd3 R U116 R Z29 (Jd3 R U116 R Z2 ?_))))⟩)))⟩⟩⟩
 have f268:=f265.stp S266 R R
 refine Jg R (Jc2 I29 R R (hvC (f268.ld 2 R R) R)) ?_
 have f269:=f225.stp (S229.tr (S234.tr (S238.tr (S240.tr (S249.tr (S255.tr (S260.tr (S264.tr S266)))))))) R R
 have S001:=(S132.tr (S138.tr (S145.tr (S221.tr (S229.tr (S234.tr (S238.tr (S240.tr (S249.tr (S255.tr (S260.tr (S264.tr S266))))))))))))
 refine Jg R (Jc2 I29 R R (hvC (f269.ld 1 R R) R)) (Jg R (Jc2 I2 R R (hvC (f269.ld 0 R R) R)) (Ob h λx148 hx148 h=>Jh R R R C124 (qy (κ:=Mk K259) (Ji3 (f125.stp S001 R R)) (Ji3 (f126.stp S001 R R)) hx148) ?_))
 rintro _ w272 ⟨k273,rfl,e274⟩
 obtain⟨K275,S276,m277⟩:=Ji e274 22 R
 refine⟨(S276.cl R),Jn1 (κ:=K275) (E:=E6) 24 [] (parts:=[(0,.tmp 148)]) (cells:=[vi x148]) (xs:=([x148]:List Int)) R R R R R R Y29 Tryzinfo2 R R R R R R R R R R ⟨[vi x148],[],Zl K275 w272 [],Zl K275 w272 [],R,Zl.sp (l1:=[]) (l2:=[]) R,Zl.sr (l1:=[]) (l2:=[]),R,R⟩ λbx bu w279 K280 S281 f282=>⟨((S276.tr S281).cl R),Ob h λx150 hx150 h=>Jm1 (κ:=K280) (E:=E6) 11 [] R R R R R R R R R Y29 Tryzinfo2 R R R R (f112.stp (S120.tr (S123.tr (S132.tr (S138.tr (S145.tr (S221.tr (S229.tr (S234.tr (S238.tr (S240.tr (S249.tr (S255.tr (S260.tr (S264.tr (S266.tr (S276.tr S281)))))))))))))))) R R) (Sl.srcP (bR _) f282.rdc) bJ hx150 R λaS aQ w284 K285 S286 f287=>⟨((S276.tr (S281.tr S286)).cl R),Jd3 R U108 R Z29 (Jt1 (Ji1 (κ:=K285) 8 (off:=2) (vc:=[.slice aS x150.length aQ]) (cs':=[.slice av x129.length au,.slice aI x138.length aH,.slice aS x150.length aQ]) R R R R R R R Z29 R R (f268.stp (S276.tr (S281.tr S286)) R R) R R λw289 S290 f291=>⟨tv,Jo (Jz (Jp (Jf3 R ?_)))⟩))⟩⟩⟩
 cases h
 exact Jz1 λa ha=>⟨k,_,Ja3 _,⟨K285,((s9.1:(List Place)),((IntKind.i64.wrap (s4.2.1+1)):Int),(x129:(List Int)),(x138:(List (List Int))),(x150:(List Int))),aE,aD,av,au,aI,aH,aS,aQ,R,(S108.tr (S120.tr (S123.tr (S132.tr (S138.tr (S145.tr (S221.tr (S229.tr (S234.tr (S238.tr (S240.tr (S249.tr (S255.tr (S260.tr (S264.tr (S266.tr (S276.tr (S281.tr (S286.tr S290))))))))))))))))))).wk R,(f146.stp (S221.tr (S229.tr (S234.tr (S238.tr (S240.tr (S249.tr (S255.tr (S260.tr (S264.tr (S266.tr (S276.tr (S281.tr (S286.tr S290))))))))))))) R R),(f235.stp (S238.tr (S240.tr (S249.tr (S255.tr (S260.tr (S264.tr (S266.tr (S276.tr (S281.tr (S286.tr S290)))))))))) R R),(f261.stp (S264.tr (S266.tr (S276.tr (S281.tr (S286.tr S290))))) R R),(f287.stp S290 R R),f291,hk115⟩,(ha.mm R)⟩
 rintro _ w98 ⟨K99,s6,aF,ay,ab,aj,ad,ai,af,ah,rfl,S100,f101,f102,f103,f104,f105,rfl⟩
 have h:=hK96
 dsimp only[aft]at h
 refine Jp (Je [1,2,1,2,2] R (Jl tv R R R R (Jd2 (cs:=[.slice ab s6.2.2.1.length aj,.slice ad s6.2.2.2.1.length ai,.slice af s6.2.2.2.2.length ah]) I108 Z108 R R R (haE f105.cells)) (Jn 1 R (Jj1 (κ:=K99) 3 (vc:=[.slice ab s6.2.2.1.length aj,.slice ad s6.2.2.2.1.length ai,.slice af s6.2.2.2.2.length ah]) R R R R R R R Z108 R R (f8.stp (S16.tr (S31.tr (S43.tr (S57.tr (S64.tr (S81.tr (S86.tr (S90.tr (S93.tr S100))))))))) R R) R λw297 S298 f299=>⟨tv,Jb 2 R (Ju (Ja2 (l:=[.cell 6 108,.tmp 7,.tmp 8]) V70 (bL R f299 I108 Z108 R (Jp2 R (Jp2 R R))) R ?_))⟩))))
 cases h
 exact⟨(λb=>ren [(9,2),(10,3),(11,4),(7,5)] (K99 b)),ab,aj,ad,ai,af,ah,aF,ay,R,((hE.stp (S3.tr (S7.tr (S16.tr (S31.tr (S43.tr (S57.tr (S64.tr (S81.tr (S86.tr (S90.tr (S93.tr (S100.tr S298)))))))))))) R R).map (ren [(9,2),(10,3),(11,4),(7,5)]) R R),((f102.stp S298 R R).map (ren [(9,2),(10,3),(11,4),(7,5)]) R R),((f103.stp S298 R R).map (ren [(9,2),(10,3),(11,4),(7,5)]) R R),((f104.stp S298 R R).map (ren [(9,2),(10,3),(11,4),(7,5)]) R R),((f101.stp S298 R R).map (ren [(9,2),(10,3),(11,4),(7,5)]) R R)⟩
 refine JT λh=>Jx R (Je [2,1,1,2,2] R (Jf R (bI (parts:=[]) (cells:=[.slice none 0 0,.slice none 0 0,.slice none 0 0]) R R (by kernel_rfl)) (Jo1 (κ:=K42) (E:=(Ep.fz Place.rp)) 6 R R R R R Y109 Tryzinfo116 R λbe bl w45 K46 S47 f48=>⟨tv,Jj1 (κ:=K46) 3 (vc:=[.slice none 0 0,.slice none 0 0,.slice none 0 0]) R R R R R R R Z108 R R (f8.stp (S16.tr (S31.tr (S43.tr S47))) R R) R λw50 S51 f52=>⟨tv,Jb 2 R (Ju (Jw (Ja2 (l:=[.cell 6 108,.tmp 7,.tmp 8]) V70 (bL R f52 I108 Z108 R (Jp2 R (Jp2 R R))) R ?_)))⟩⟩)))
 cases h
 exact⟨(λb=>ren [(6,5)] (K46 b)),none,0,none,0,none,0,be,bl,R,((hE.stp (S3.tr (S7.tr (S16.tr (S31.tr (S43.tr (S47.tr S51)))))) R R).map (ren [(6,5)]) R R),Ow.nil,Ow.nil,Ow.nil,((f48.stp S51 R R).map (ren [(6,5)]) R R)⟩
theorem qO {w:World}{κ:Col}{ac ak af ai aj ah ae ad ab aa}{p0:l7Game}{a1 u1}{p1:(List Bool)}{p2:Int}(g0_0:Rd (Rp.int .i64) κ w 0 ac ak p0.owner) (g0_1:Rd (Rp.int .i64) κ w 0 af ai p0.prio) (g0_2:Rd (Rp.sl (Rp.int .i64)) κ w 0 aj ah p0.next) (g0_3:Rd (Rp.sl (Rp.int .i64)) κ w 0 ae ad p0.prev) (g0_4:Oc E6 2 κ w 2 ab aa p0.pick) (g1:Rd Rp.bool κ w 0 a1 u1 p1){r:Int×(List Int)}(h:lh p0 p1 p2=some r):Ret Tryz.prog 177 [.agg #[.slice ac p0.owner.length ak,.slice af p0.prio.length ai,.slice aj p0.next.length ah,.slice ae p0.prev.length ad,.slice ab p0.pick.length aa],.slice a1 p1.length u1,vi p2] w (λv w'=>∃(κ':Col),v=vi r.1/\Ent κ w κ' w'/\Oc E6 2 κ' w' 2 ab aa r.2/\p0.pick.length=r.2.length):=by
 unfold lh at h
 refine Ret.enter F177 R N177 R ?_
 dsimp only[envOf]
 have hE:=Ent.refl κ w
 refine Je [1,2] R (Jf1 (κ:=κ) 3 R R R R R R R λb3 w1 K2 S3 f4=>⟨tv,Jb 1 R (Jq (Je3 R (Ob h λq2 hq7 hK6=>?_)))⟩)
 clear h
 refine Jx1 (λL w'=>∃κ',∃s3:Int×(List Int),L=[]/\Stp [2] K2 w1 κ' w'/\Oc E6 2 κ' w' 2 ab aa s3.2/\p0.pick.length=s3.2.length/\q2=t9 s3) ?_ ?_
 refine Jv (Jy1 (λk L w'=>∃κ',∃s1:Int×(List Int),L=[(1,.slice a1 p1.length u1),(2,vi p2),(3,.pointer (some ⟨b3,0,none⟩)),(7,vi s1.1)]/\Stp [2] K2 w1 κ' w'/\Oc E6 2 κ' w' 2 ab aa s1.2/\p0.pick.length=s1.2.length/\whileM (ij p0 p1 p2) k s1=some q2) ⟨_,_,⟨K2,((0:Int),(p0.pick:(List Int))),R,Jj3,(g0_4.stp S3 R R),R,hq7⟩,(KM R)⟩ ?_)
 rintro k _ w13 ⟨K14,s1,rfl,S15,f16,hn17,h⟩
 rcases k with _ | k
 cases h
 obtain⟨o5,h,hk19⟩:=BI h;unfold ij at h
 refine Jq (Jg3 [2,2,1,2,2,1,2,2] 1 R (Jd3 R U191 R Z26 ?_))
 have f20:=f4.stp S15 R R
 refine Jb3 R I26 (f20.ld 2 R R) (Jn 1 R (Ob h λx13 hx13 h=>Jc3 R g0_2 hx13 U26 Z29 ?_))
 have f21:=g0_2.stp (S3.tr S15) R R
 obtain⟨ax13,ux13,f22,hl23⟩:=f21.gSl hx13
 refine Jb3 R I29 hl23 (Jf R (Je2 U29 R R) (Jb 1 R ?_))
 revert h
 cases ht24:decide (s1.1<(x13.length:Int))
 refine JF λh=>Jy R (Jc1 (Jt (Jt ?_)))
 cases h
 have h:=hk19
 refine Jb1 ?_
 cases h
 exact Jw1 _ ⟨K14,((s1.1:Int),(s1.2:(List Int))),R,S15.wk R,f16,hn17,R⟩ KN
 refine JT λh=>Jx R (Js (Jp (Jq (Jv (Je [2,1,2,2,1,2,2,1,2] R (Jd3 R U191 R Z26 (Jb3 R I26 (f20.ld 2 R R) (Jn 1 R (Ob h λx22 hx22 h=>Jc3 R f21 hx22 U26 Z29 ?_)))))))))
 obtain⟨ax22,ux22,f25,hl26⟩:=f21.gSl hx22
 refine Jb3 R I29 hl26 (Jn 1 R (Ob h λx25 hx25 h=>Jc3 R f25 hx25 U29 Z2 (Jb3 R I2 (f25.gInt hx25) (Jb 1 R (Jq (Jg3 [2,2,2,1,2] 2 R (Ob h λx29 hx29 h=>Jc3 R g1 hx29 U193 Z4 ?_)))))))
 have f27:=g1.stp (S3.tr S15) R R
 refine Jb3 R I4 (f27.gBool hx29) (Jb 1 R ?_)
 revert h
 cases ht28:(!x29)
 refine JF λh=>Jy R (Js (Jp (Je [2,1,2,2,2,1] R (Jd3 R U191 R Z29 (Jb3 R I29 (f20.ld 4 R R) (Jn 2 R (Ob h λx36 hx36 h=>Jf R (Jf2 f16.rdc hx36 U29 Z2 R R hn17 R) (Ob h λy252 hy252 h=>Jk1 (κ:=K14) (E:=E6) 2 [] R R R R R R R R Z2 R R R R f16 hy252 λw29 K30 S31 f32=>⟨tv,?_⟩))))))))
 have hn33:p0.pick.length=y252.length:=hn17.trans (Jt2 hy252).2.2.2.symm
 refine Jd (Jq (Js1 (κ:=K30) [0,3] none [(1,2),(2,2),(4,2),(0,0),(3,0),(5,2),(6,0),(7,1)] [] (by kernel_rfl) (by kernel_rfl) λw35 S34=>Jn 1 R (Jd3 R U191 R Z29 (Jn 1 R ?_))))
 have f36:=f20.stp (S31.tr S34) R R
 refine Jg R (Jd2 (cs:=[.slice ac p0.owner.length ak,.slice af p0.prio.length ai,.slice aj p0.next.length ah,.slice ae p0.prev.length ad,.slice ab p0.pick.length aa]) I191 Z191 R R R (haC f36.cells R)) (Jg R (Jc2 I29 R R (hvC (f36.ld 0 R R) R)) (Ob h λx42 hx42 h=>Jc3 R g0_0 hx42 U29 Z2 ?_))
 have f37:=g0_0.stp (S3.tr (S15.tr (S31.tr S34))) R R
 refine Jg R (Jc2 I2 R R (hvC (f37.gInt hx42) R)) (Ob h λx44 hx44 h=>?_)
 have f41:=f32.stp S34 R R
 have S001:=(S3.tr (S15.tr (S31.tr S34)))
 refine Jh R R R C215 (Ret.cast (by simp only[hn33,List.cons_append,List.nil_append]) (qg (κ:=Mk K30) (p0:=(⟨p0.owner,p0.prio,p0.next,p0.prev,y252⟩:l7Game)) (Ji3 f37) (Ji3 (g0_1.stp S001 R R)) (Ji3 (f21.stp (S31.tr S34) R R)) (Ji3 (g0_3.stp S001 R R)) (Ji3 f41.rdc) (Ji3 (f27.stp (S31.tr S34) R R)) hx44)) ?_
 rintro _ w43 ⟨k44,rfl,e45⟩
 obtain⟨K46,S47,m48⟩:=Ji e45 4 R
 refine⟨(S47.cl R),Jt1 (Jd ?_)⟩
 revert h
 cases ht50:x44
 refine JF λh=>Jy R (Js (Jz (Jp (Jf3 R ?_))))
 cases h
 exact Jz1 λa ha=>⟨k,_,Ja3 _,⟨K46,(((IntKind.i64.wrap (s1.1+1)):Int),(y252:(List Int))),R,(S15.tr (S31.tr (S34.tr S47))).wk R,(f41.stp S47 R R),hn33,hk19⟩,(ha.mm R)⟩
 refine JT λh=>Jx R (Je3 R (Ju (Ja1 (Jw (Jw ?_)))))
 cases h
 obtain rfl:=Option.some.inj hk19
 have h:=hK6
 dsimp only[aft]at h
 refine Ja1 (Jq2 (Jw (Ja2 (l:=[.tmp 6]) V177 (Jp2 R R) R ?_)))
 cases h
 exact⟨K46,R,(hE.stp (S3.tr (S15.tr (S31.tr (S34.tr S47)))) R R),(f41.stp S47 R R),hn33⟩
 refine JT λh=>Jx R (Jc1 (Jt (Jb1 (Jp (Jf3 R ?_)))))
 cases h
 exact Jz1 λa ha=>⟨k,_,Ja3 _,⟨K14,(((IntKind.i64.wrap (s1.1+1)):Int),(s1.2:(List Int))),R,S15.wk R,f16,hn17,hk19⟩,(ha.mm R)⟩
 rintro _ w8 ⟨K9,s3,rfl,S10,f11,hn12,rfl⟩
 have h:=hK6
 dsimp only[aft]at h
 refine Jp (Je3 R (Ju (Ja2 (l:=[.tmp 6]) V177 (Jp2 R R) R ?_)))
 cases h
 exact⟨K9,R,(hE.stp (S3.tr S10) R R),f11,hn12⟩
theorem nO {w:World}{κ:Col}{p0:Sig}{a1 u1}{p1:(List Clause)}(g1:Rd Clause.rp κ w 0 a1 u1 p1){r:Bool}(h:gw p0 p1=some r):Ret Tryz.prog 129 [.agg #[vi p0.In,vi p0.Out],.slice a1 p1.length u1] w (λv w'=>∃(κ':Col),v= .bool r/\Ent κ w κ' w'):=by
 unfold gw at h
 refine Ret.enter F129 R N129 R ?_
 dsimp only[envOf]
 have hE:=Ent.refl κ w
 refine Je [1,2] R (Jf1 (κ:=κ) 2 R R R R R R R λb2 w1 K2 S3 f4=>⟨tv,Jb 1 R (Jg3 [2,2,2,2,2,2,1,2,2,2] 1 R (Jf R (Je2 U49 R R) (Jn 2 R (Ob h λp13 h hK5=>Ju1 [(4,2),(5,2),(6,1),(7,2),(8,2)] [(9,2)] (λL w'=>L=[(4,.bool false),(13,.bool p13)]/\∃κ',Stp [] K2 w1 κ' w') tv ?_ ?_))))⟩)
 revert h
 cases ht6:decide ((p1.length:Int)<=3)
 refine JF λh=>Jn 2 R (Jd1 R R R R (Jn 2 R ?_))
 cases h
 exact Jv1 _ tv ⟨R,_,Jj3⟩ (KM R)
 refine JT λh=>Jn 1 R (Jf R (fR (first:=[]) (captured:=[.tmp 2]) R R R ⟨_,R⟩) (Ob h λx11 hx11 h=>Jh R R R C178 (cL (κ:=Mk K2) (c1_0:=p0) (Ji3 (g1.stp S3 R R)) (f4.map (mp [] 0) R R) hx11) ?_))
 rintro _ w8 ⟨k9,rfl,e10⟩
 obtain⟨K11,S12,m13⟩:=Ji e10 3 R
 refine⟨tv,Jn 2 R ?_⟩
 cases h
 exact Jv1 _ tv ⟨R,_,S12.wk R⟩ (KM R)
 rintro _ w15 _ ⟨rfl,K16,S17⟩
 have h:=hK5
 refine Jb 1 R (Ju (Ja2 (l:=[.tmp 4]) V129 (Jp2 R R) R ?_))
 cases h
 exact⟨K16,R,(hE.stp (S3.tr S17) R R)⟩
theorem mc {w:World}{κ:Col}{ai ak aj ah}{p0:Arena}{a1 u1}{p1:(List Pair)}{p2:Int}(g0_0:Rd (Rp.int .i64) κ w 0 ai ak p0.Owner) (g0_1:Rd (Rp.sl (Rp.int .i64)) κ w 0 aj ah p0.Next) (g1:Rd Pair.rp κ w 0 a1 u1 p1){r:Parity×(List Place)×Bool}(h:dZ p0 p1 p2=some r):Ret Tryz.prog 79 [.agg #[.slice ai p0.Owner.length ak,.slice aj p0.Next.length ah],.slice a1 p1.length u1,vi p2] w (λv w'=>∃(κ':Col) (ra0:Option Addr) (ru0:Nat) (ra1:Option Addr) (ru1:Nat) (ra2:Option Addr) (ru2:Nat) (ra3:Option Addr) (ru3:Nat),v= .tuple #[.agg #[.slice ra0 r.1.Arena.Owner.length ru0,.slice ra1 r.1.Arena.Next.length ru1,.slice ra2 r.1.Prio.length ru2],.slice ra3 r.2.1.length ru3,.bool r.2.2]/\Ent κ w κ' w'/\Oc E6 2 κ' w' 2 ra0 ru0 r.1.Arena.Owner/\Oc (Ep.fz (Rp.sl (Rp.int .i64))) 29 κ' w' 3 ra1 ru1 r.1.Arena.Next/\Oc E6 2 κ' w' 4 ra2 ru2 r.1.Prio/\Oc (Ep.fz Place.rp) 116 κ' w' 5 ra3 ru3 r.2.1):=by
 unfold dZ at h
 refine Ret.enter F79 R N79 R ?_
 dsimp only[envOf]
 have hE:=Ent.refl κ w
 refine Je [1,1,1,2,2] R (Jf1 (κ:=κ) 2 R R R R R R R λb3 w1 K2 S3 f4=>⟨tv,Jf1 (κ:=K2) 3 R R R R R R R λb4 w5 K6 S7 f8=>⟨tv,Jg1 (κ:=K6) 4 R R R R R X108 R λb6 w9 K10 S11 f12=>⟨tv,Jb 2 R (Jg3 [2,2,1,1] 1 R (Jf R (bI (parts:=[(0,.tmp 11)]) (cells:=[vi p2,.slice none 0 0]) R R (by kernel_rfl)) (Jg1 (κ:=K10) 5 R R R R R X116 R λb9 w13 K14 S15 f16=>⟨tv,Jj1 (κ:=K14) 5 (vc:=[vi p2,.slice none 0 0]) R R R R R R R Z116 R R f16 R λw17 S18 f19=>⟨tv,Jd (Jq (Je [1,2,2] R ?_))⟩⟩)))⟩⟩⟩)
 have f20:=f8.stp (S11.tr (S15.tr S18)) R R
 refine Jb3 R I98 (f20.ld 0 R R) (Jf R (Je2 U98 R R) (Jb 1 R ?_))
 have hN21:(p1.length:Int)<=9223372036854775807:=g1.len_le
 refine Ob h λq2 hq23 hK22=>?_
 clear h
 refine Jx1 (λL w'=>∃κ',∃s3:(List Int),∃ad ac,L=[(3,.pointer (some ⟨b3,0,none⟩)),(4,.pointer (some ⟨b4,0,none⟩)),(6,.pointer (some ⟨b6,0,none⟩)),(9,.pointer (some ⟨b9,0,none⟩))]/\Stp [5,6] K14 w17 κ' w'/\Oc E6 2 κ' w' 6 ad ac s3/\Bc κ' w' 5 b9 116 [vi p2,.slice ad s3.length ac]/\q2=t9 s3) ?_ ?_
 refine Jv (Jy1 (λk L w'=>∃κ' v15,∃s1:(List Int),∃ab aa,L=[(3,.pointer (some ⟨b3,0,none⟩)),(4,.pointer (some ⟨b4,0,none⟩)),(6,.pointer (some ⟨b6,0,none⟩)),(9,.pointer (some ⟨b9,0,none⟩)),(14,vi (p1.length:Int)),(15,vi v15)]/\Stp [5,6] K14 w17 κ' w'/\Oc E6 2 κ' w' 6 ab aa s1/\Bc κ' w' 5 b9 116 [vi p2,.slice ab s1.length aa]/\0<=v15/\Int.toNat ((p1.length:Int)-v15)=k/\cntM gZ k v15 s1=some q2) ⟨_,_,⟨K14,0,(([]:List Int):(List Int)),none,0,R,Jj3,Ow.nil,f19,(by decide),(by simp),hq23⟩,(KM R)⟩ ?_)
 rintro k _ w29 ⟨K30,v15,s1,ab,aa,rfl,S31,f32,f33,hj21,hJ21,h⟩
 rcases k with _ | k
 have hk34:=h;obtain⟨o21,h⟩:=bO (t9 (Sum.inl s1):(Parity×(List Place)×Bool)⊕(((List Int))⊕((List Int))))
 have hc21:decide (v15<(p1.length:Int))=false:=Jo2 (by omega)
 refine Je3 R (Jq (Jw2 R hc21 (Jc1 (Jt (Jt ?_)))))
 cases h
 have h:=hk34
 refine Jb1 ?_
 cases h
 exact Jw1 _ ⟨K30,(s1:(List Int)),ab,aa,R,S31.wk R,f32,f33,R⟩ (KM R)
 obtain⟨o21,h,hk34⟩:=BI h;unfold gZ at h
 have hc21:decide (v15<(p1.length:Int))=true:=Jn2 (by omega)
 refine Je3 R (Jq (Jv2 R hc21 (Js (Jp (Jq (Jv (Je3 R (Ja [2,1,2,1,1,2,1] R (Jd3 R U116 R Z29 (Jb3 R I29 (f33.ld 1 R R) (Jn 1 R (Jn1 (κ:=K30) (E:=E6) 7 [] (parts:=[(0,.tmp 20)]) (cells:=[vi v15]) (xs:=([v15]:List Int)) R R R R R R Y29 Tryzinfo2 R R R R R R R R R R ⟨[vi v15],[],Zl K30 w29 [],Zl K30 w29 [],R,Zl.sp (l1:=[]) (l2:=[]) R,Zl.sr (l1:=[]) (l2:=[]),R,R⟩ λav aw w35 K36 S37 f38=>⟨tv,Ob h λx22 hx22 h=>Jm1 (κ:=K36) (E:=E6) 6 [] R R R R R R R R R Y29 Tryzinfo2 R R R R (f32.stp S37 R R) (Sl.srcP (bR _) f38.rdc) bJ hx22 R λaf ae w40 K41 S42 f43=>⟨tv,Jd3 R U116 R Z29 (Ji1 (κ:=K41) 5 (off:=1) (vc:=[.slice af x22.length ae]) (cs':=[vi p2,.slice af x22.length ae]) R R R R R R R Z29 R R (f33.stp (S37.tr S42) R R) R R λw45 S46 f47=>⟨tv,Jo (Jz (Jp (Jf3 R ?_)))⟩)⟩⟩))))))))))))
 have hw21:IntKind.wrap .i64 (v15+1)=v15+1:=wr1 hj21 (Jm2 hc21) hN21
 rw[hw21]
 have hc21:=Jm2 hc21
 cases h
 exact Jz1 λa ha=>⟨k,_,Ja3 _,⟨K41,v15+1,(x22:(List Int)),af,ae,R,(S31.tr (S37.tr (S42.tr S46))).wk R,(f43.stp S46 R R),f47,by omega,by omega,hk34⟩,(ha.mm R)⟩
 rintro _ w24 ⟨K25,s3,ad,ac,rfl,S26,f27,f28,rfl⟩
 have h:=hK22
 dsimp only[aft]at h
 refine Jp (Je [1,1,2,2,1,2,2,2,1,2,2] R (Jl tv R R R R (Jd2 (cs:=[.slice ai p0.Owner.length ak,.slice aj p0.Next.length ah]) I104 Z104 R R R (haE (f4.stp (S7.tr (S11.tr (S15.tr (S18.tr S26)))) R R).cells)) (Jl tv R R R R (Jd2 (cs:=[vi p2,.slice ad s3.length ac]) I116 Z116 R R R (haE f28.cells)) (Jf R (fR (first:=[]) (captured:=[.tmp 4]) R R R ⟨_,R⟩) (Jf R (fR (first:=[]) (captured:=[.tmp 4]) R R R ⟨_,R⟩) ?_)))))
 obtain⟨K50,S51,z52⟩:=dg K25 w24 6
 obtain⟨K55,S56,z57⟩:=dg K50 w24 3
 have S001:=(S3.tr (S7.tr (S11.tr (S15.tr (S18.tr (S26.tr (S51.tr S56)))))))
 refine Ob h λx29 hx29 h=>Jh R R R C136 (dT (κ:=λb=>mp [] 1 (K55 b)) (p0:=p0) (p1:=(⟨p2,s3⟩:Place)) (Jl2 (g0_0.stp S001 R R) (mp [] 1) R R) (Jl2 (g0_1.stp S001 R R) (mp [] 1) R R) (Jl2 ((Sl.st z52 f27.rdc).stp S56 R R) (mp [] 1) R R) (Jl2 (g1.stp S001 R R) (mp [] 1) R R) ((Bc.fzz z57 (f20.stp (S26.tr S51) R R)).map (mp [] 1) R R) hx29) ?_
 rintro _ w63 ⟨k64,ao,ap,am,al,aq,an,au,ar,rfl,e65,f66,f67,f68,f69⟩
 obtain⟨K70,S71,m72,z73⟩:=Jj e65 7 R
 refine⟨tv,Jn 3 R (Jj1 (κ:=K70) 4 (vc:=[.slice ao x29.1.Arena.Owner.length ap,.slice am x29.1.Arena.Next.length al,.slice aq x29.1.Prio.length an]) R R R R R R R Z108 R R (f12.stp (S15.tr (S18.tr (S26.tr (S51.tr (S56.tr S71))))) R R) R λw79 S80 f81=>⟨tv,Jb 2 R (Ju (Ja2 (l:=[.cell 6 108,.tmp 7,.tmp 8]) V79 (bL R f81 I108 Z108 R (Jp2 R (Jp2 R R))) R ?_))⟩)⟩
 cases h
 exact⟨(λb=>ren [(9,2),(10,3),(11,4),(12,5)] (K70 b)),ao,ap,am,al,aq,an,au,ar,R,((hE.stp (S3.tr (S7.tr (S11.tr (S15.tr (S18.tr (S26.tr (S51.tr (S56.tr (S71.tr S80))))))))) R R).map (ren [(9,2),(10,3),(11,4),(12,5)]) R R),(((f66.mx (bH _) m72 R (R:7+2=9)).stp S80 R R).map (ren [(9,2),(10,3),(11,4),(12,5)]) R R),(((f67.mxz z73 m72 R (R:7+3=10)).stp S80 R R).map (ren [(9,2),(10,3),(11,4),(12,5)]) R R),(((f68.mx (bH _) m72 R (R:7+4=11)).stp S80 R R).map (ren [(9,2),(10,3),(11,4),(12,5)]) R R),(((f69.mxz z73 m72 R (R:7+5=12)).stp S80 R R).map (ren [(9,2),(10,3),(11,4),(12,5)]) R R)⟩
end Go.Proofs.YtpcjbkgbnoocaaaGreat
