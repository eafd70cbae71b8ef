/- The walks, part 8. By program. -/
import Derived.Test.YtleekpaohfpooaaGreatFns7KE
set_option linter.unusedVariables false
set_option linter.unusedSimpArgs false
open Go.IntKind renaming wrap → yC
open Sum renaming inr → yD, inl → yE
open Int renaming toNat → yG
namespace Go.Proofs.YtleekpaohfpooaaGreat
open Go Go.Wk Go.Proofs
set_option maxRecDepth 100000
set_option maxHeartbeats 1000000
variable {w:World}{κ:Col}
theorem cY {a0 u0}{p0:(List Clause)}{c1_0:Sig}{b1_0}(g0:Rd Clause.rp κ w 0 a0 u0 p0) (gb1_0:Bc κ w 0 b1_0 28 [vi c1_0.In,vi c1_0.Out]){r:Bool}(h:bR p0 c1_0=some r):Ret Tryz.prog 126 [.slice a0 p0.length u0,.func (.func 127) #[] #[.pointer (some ⟨b1_0,0,none⟩)]] w (Pvb κ w r):=by
 unfold bR at h
 refine Jk3 κ F126 R N126 R λhE=>Je3 R<|Jg3 [2,2,1,2,2] 2 R<|Ob h λx7 hx7 h=>Jr3 R C194 (dh (κ:=Mk κ) (c1_0:=c1_0) (Ji3 g0) (gb1_0.map (mp [] 0) R R) hx7) ?_
 rintro _ w1 ⟨k2,rfl,e3⟩
 obtain⟨K4,S5,m6⟩:=Ji e3 2 R
 refine Tv<|Jb 2 R<|Ju<|Ja2 (l:=[.tmp 4]) V126 (Jp2 R R) R ?_
 cases h
 exact⟨K4,R,(hE.stp S5)⟩
theorem eB {aJ aN aK aS}{p0:Arena}{ax aq}{p1:Place}{aL aH}{c2_0:(List Pair)}{b2_0}(g0_0:Rd (Rp.int .i64) κ w 0 aJ aN p0.Owner) (g0_1:Rd (Rp.sl (Rp.int .i64)) κ w 0 aK aS p0.Next) (g1_1:Rd (Rp.int .i64) κ w 0 ax aq p1.Record) (g2_0:Rd Pair.rp κ w 0 aL aH c2_0) (gb2_0:Bc κ w 0 b2_0 69 [.slice aL c2_0.length aH]){r:Parity×(List Place)×Bool}(h:ci p0 p1 c2_0=some r):Ret Tryz.prog 109 [.agg #[.slice aJ p0.Owner.length aN,.slice aK p0.Next.length aS],.agg #[vi p1.At,.slice ax p1.Record.length aq],.func (.func 110) #[] #[.pointer (some ⟨b2_0,0,none⟩)],.func (.func 112) #[] #[.pointer (some ⟨b2_0,0,none⟩)]] w (λv w'=>∃(κ':Col) (ra0:Option Addr) (ru0:Nat) (ra1:Option Addr) (ru1:Nat) (ra2:Option Addr) (ru2:Nat) (ra3:Option Addr) (ru3:Nat),v= .tuple #[.agg #[.slice ra0 r.1.Arena.Owner.length ru0,.slice ra1 r.1.Arena.Next.length ru1,.slice ra2 r.1.Prio.length ru2],.slice ra3 r.2.1.length ru3,.bool r.2.2]/\Ent κ w κ' w'/\Oc E6 2 κ' w' 2 ra0 ru0 r.1.Arena.Owner/\Oc (Ep.fz (Rp.sl (Rp.int .i64))) 37 κ' w' 3 ra1 ru1 r.1.Arena.Next/\Oc E6 2 κ' w' 4 ra2 ru2 r.1.Prio/\Oc (Ep.fz Place.rp) 88 κ' w' 5 ra3 ru3 r.2.1):=by
 unfold ci at h
 refine Jk3 κ F109 R N109 R λhE=>Je [1,1,1,2,2] R<|Js3 (κ:=κ) 2 R λb4 w1 K2 S3 f4=>Tv<|Js3 (κ:=K2) 3 R λb5 w5 K6 S7 f8=>Tv<|Jt3 (κ:=K6) 4 R X79 R λb8 w9 K10 S11 f12=>Tv<|Jb 2 R<|Je [1,1,2] R<|Jb4 tv R (Jc4 (haE (f8.stp S11).cells) I88 Z88 R)<|Jw3 (κ:=K10) (E:=(Ep.fz Place.rp)) 5 [] (parts:=[(0,.tmp 20)]) (cells:=[vi p1.At,.slice ax p1.Record.length aq]) (xs:=([p1]:List Place)) R Y80 fk R ⟨[vi p1.At,.slice ax p1.Record.length aq],[],Zl K10 w9 [],Zl K10 w9 [],R,Zl.sp (l1:=[]) (l2:=[]) R,Zl.sr (l1:=[]) (l2:=[]),(Place.mk_rel<|Sl.z1<|g1_1.stp<|T3 S3 S7 S11),R⟩ λaV aT w15 K16 S17 f18=>Tv<|Jb 1 R<|Je [2,1,1] R<|Jf R (bK (parts:=[]) (cells:=[.slice none 0 0,.slice none 0 0,.slice none 0 0]) R R (by kernel_rfl))<|Jt3 (κ:=K16) 6 R X79 R λb12 w19 K20 S21 f22=>Tv<|Jv3 (κ:=K20) 6 (vc:=[.slice none 0 0,.slice none 0 0,.slice none 0 0]) R Z79 R f22 R λw23 S24 f25=>Tv<|Jd<|Jq<|Je3 R<|Ob h λq2 hq28 hK27=>?_
 clear h
 refine Jo3 [2,3,8,12] (λE L w'=>∃κ',∃s3:(List Place)×Int×(List Int)×(List<|List Int)×(List Int),∃ao au ae ak ah aj ab aa,L=(11,.slice ao s3.1.length au)::E/\Stp [5,6,7,8,9,10,14,17,18,25,26,27] K20 w23 κ' w'/\Oc (Ep.fz Place.rp) 88 κ' w' 5 ao au s3.1/\Oc E6 2 κ' w' 7 ae ak s3.2.2.1/\Oc (Ep.fz<|Rp.sl<|Rp.int .i64) 37 κ' w' 8 ah aj s3.2.2.2.1/\Oc E6 2 κ' w' 9 ab aa s3.2.2.2.2/\Bc κ' w' 6 b12 79 [.slice ae s3.2.2.1.length ak,.slice ah s3.2.2.2.1.length aj,.slice ab s3.2.2.2.2.length aa]/\q2=yD s3) ?_ ?_
 refine Jv<|Jp3 [2,3,4,8,12] (λk E L w'=>∃κ',∃s1:(List Place)×Int×(List Int)×(List<|List Int)×(List Int),∃af ac az aA ap ar ay am,L=(11,.slice af s1.1.length ac)::(13,vi s1.2.1)::E/\Stp [5,6,7,8,9,10,14,17,18,25,26,27] K20 w23 κ' w'/\Oc (Ep.fz Place.rp) 88 κ' w' 5 af ac s1.1/\Oc E6 2 κ' w' 7 az aA s1.2.2.1/\Oc (Ep.fz<|Rp.sl<|Rp.int .i64) 37 κ' w' 8 ap ar s1.2.2.2.1/\Oc E6 2 κ' w' 9 ay am s1.2.2.2.2/\Bc κ' w' 6 b12 79 [.slice az s1.2.2.1.length aA,.slice ap s1.2.2.2.1.length ar,.slice ay s1.2.2.2.2.length am]/\ca (bN p0 c2_0) k s1=some q2) ⟨_,_,⟨K20,((([p1]:List Place):(List Place)),(0:Int),(([]:List Int):(List Int)),(([]:List (List Int)):(List<|List Int)),(([]:List Int):(List Int))),aV,aT,none,0,none,0,none,0,R,Jj3,(f18.stp<|S21.tr S24),Ow.nil,Ow.nil,Ow.nil,f25,hq28⟩,(KM R)⟩ ?_
 rintro k _ w37 ⟨K38,s1,af,ac,az,aA,ap,ar,ay,am,rfl,S39,f40,f41,f42,f43,f44,h⟩
 rcases k with _ | k
 cases h
 obtain⟨o26,h,hk46⟩:=BI h;unfold bN at h
 refine Jq<|Jg3 [2,2,2,2] 2 R<|Jn3 R U80 R R<|Jb 1 R ?_
 revert h
 cases ht47:decide (s1.2.1<(s1.1.length:Int))
 refine JF λh=>Jy R<|Jc1<|Jt<|Jt ?_
 cases h
 have h:=hk46
 refine Jb1 ?_
 cases h
 exact Jw1 _ ⟨K38,(s1.1,s1.2.1,s1.2.2.1,s1.2.2.2.1,s1.2.2.2.2),af,ac,az,aA,ap,ar,ay,am,R,S39.wk R,f40,f41,f42,f43,f44,R⟩<|KM R
 refine JT λh=>Jx R<|Js<|Jp<|Jq<|Jv<|Jg3 [2,2,2,1,1,1] 2 R<|Ob h λx31 hx31 h=>Jc3 R f40.rdc hx31 U80 Z88 ?_
 obtain⟨cse48,hre48,hle48⟩:=Ow.gZS f40 hx31
 obtain⟨ae48_0,ue48_0,rfl,fe48_0⟩:=Place.un hre48
 refine Jb4 tv R (Jc4 (haE hle48) I88 Z88 R)<|Jt3 (κ:=K38) 10 R X88 R λb14 w49 K50 S51 f52=>Tv<|Jv3 (κ:=K50) 10 (vc:=[vi x31.At,.slice ae48_0 x31.Record.length ue48_0]) R Z88 R f52 R λw53 S54 f55=>Tv<|Jd<|Jg3 [2,1,1,2] 1 R<|Jb4 tv R (Jc4 (haE f55.cells) I88 Z88 R)<|Ob h λx35 hx35 h=>?_
 have f56:=fe48_0.stp (S51.tr S54)
 have f57:=g2_0.stp (T9 S3 S7 S11 S17 S21 S24 S39 S51 S54)
 have f58:=gb2_0.stp (T9 S3 S7 S11 S17 S21 S24 S39 S51 S54)
 refine WO.callV R R R R R R R R C110 (oT (κ:=Mk K50) (p0:=x31) (Ji3 f56) (Ji3 f57) (f58.map (mp [] 0) R R) hx35) ?_
 rintro _ w59 ⟨k60,bb,bd,rfl,e61,f62⟩
 obtain⟨K63,S64,m65⟩:=Ji e61 11 R
 refine Tv<|Jb 1 R<|Je [1,2] R<|Jx3 (κ:=K63) (E:=E6) 14 R Y37 bG R λaU ba w68 K69 S70 f71=>Tv<|Jb 1 R<|Jq<|Je [2,1,2,1,2,1,2,2] R<|Jd3 R U75 R Z31 ?_
 have f72:=f4.stp (T10 S7 S11 S17 S21 S24 S39 S51 S54 S64 S70)
 refine Jb3 R I31 (f72.ld 1 R R)<|Jd3 R U88 R Z2 ?_
 have f73:=f55.stp (S64.tr S70)
 refine Jb3 R I2 (f73.ld 0 R R)<|Ob h λx41 hx41 h=>Jc3 R g0_1 hx41 U31 Z37 ?_
 obtain⟨ax41,ux41,f75,hl76⟩:=(g0_1.stp (T11 S3 S7 S11 S17 S21 S24 S39 S51 S54 S64 S70)).gSl hx41
 refine Jb3 R I37 hl76<|Jn3 R U37 R R<|Jb 1 R ?_
 have hN77:(x41.length:Int)<=9223372036854775807:=f75.len_le
 refine Ob h λq5 hq79 hK78=>?_
 clear h
 refine Jo3 [2,3,4,8,12,13,14] (λE L w'=>∃κ',∃s6:(List Place)×(List Int),∃aC aB aF aD,L=(11,.slice aC s6.1.length aB)::(16,.slice aF s6.2.length aD)::E/\Stp [5,14,17,18] K69 w68 κ' w'/\Oc (Ep.fz Place.rp) 88 κ' w' 5 aC aB s6.1/\Oc E6 2 κ' w' 14 aF aD s6.2/\q5=yD s6) ?_ ?_
 refine Jv<|Jp3 [2,3,4,8,12,13,14,15,42,43] (λk E L w'=>∃κ' v44,∃s4:(List Place)×(List Int),∃ai ad al aw,L=(11,.slice ai s4.1.length ad)::(16,.slice al s4.2.length aw)::(44,vi v44)::E/\Stp [5,14,17,18] K69 w68 κ' w'/\Oc (Ep.fz Place.rp) 88 κ' w' 5 ai ad s4.1/\Oc E6 2 κ' w' 14 al aw s4.2/\0<=v44/\yG ((x41.length:Int)-v44)=k/\cntM (bV x35 x41) k v44 s4=some q5) ⟨_,_,⟨K69,0,(s1.1,(([]:List Int):(List Int))),af,ac,aU,ba,R,Jj3,(f40.stp<|T4 S51 S54 S64 S70),f71,(by decide),(by simp),hq79⟩,(KM R)⟩ ?_
 rintro k _ w85 ⟨K86,v44,s4,ai,ad,al,aw,rfl,S87,f88,f89,hj77,hJ77,h⟩
 rcases k with _ | k
 have hk91:=h;obtain⟨o77,h⟩:=bT (yD (yE s4):(Parity×(List Place)×Bool)⊕(((List Place)×(List Int))⊕((List Place)×(List Int))))
 have hc77:decide (v44<(x41.length:Int))=false:=Jo2 (by omega)
 refine Je3 R<|Jq<|Jw2 R hc77<|Jc1<|Jt<|Jt ?_
 cases h
 have h:=hk91
 refine Jb1 ?_
 cases h
 exact Jw1 _ ⟨K86,(s4.1,s4.2),ai,ad,al,aw,R,S87.wk R,f88,f89,R⟩<|KM R
 obtain⟨o77,h,hk91⟩:=BI h;unfold bV at h
 have hc77:decide (v44<(x41.length:Int))=true:=Jn2 (by omega)
 refine Je3 R<|Jq<|Jv2 R hc77<|Js<|Jp<|Jq<|Jv<|Je [2,1,2] R<|Ob h λx46 hx46 h=>Jc3 R f75 hx46 U37 Z2<|Jb3 R I2 ((f75.stp S87).gInt hx46)<|Jb 1 R<|Jg3 [2,2,2,1,2] 3 R<|Ob h λx51 hx51 h=>?_
 have f93:=(f62.mx (bL _) m65 R (R:11+2=13)).stp (S70.tr S87)
 refine Jr3 R C174 (rv (κ:=Mk K86) (Ji3 f88.rdc) (Ji3 f93.rdc) hx51) ?_
 rintro _ w94 ⟨k95,rfl,e96⟩
 obtain⟨K97,S98,m99⟩:=Ji e96 15 R
 refine Tv<|Jb 1 R<|Jq<|Je3 R<|Ob h λq7 h hK101=>Jo3 [2,3,4,8,12,13,14,15,16,42,43,44] (λE L w'=>∃κ' av an,L=(11,.slice av q7.1.length an)::(19,vi q7.2)::E/\Stp [5,17,18] K97 w94 κ' w'/\Oc (Ep.fz Place.rp) 88 κ' w' 5 av an q7.1) ?_ ?_
 revert h
 cases ht106:decide (x51<0)
 refine JF λh=>Jy R<|Js ?_
 cases h
 exact Jw1 _ ⟨K97,ai,ad,R,Jj3,(f88.stp S98)⟩<|KM R
 refine JT λh=>Jx R<|Jg3 [2,2,2] 1 R<|Jn3 R U80 R R<|Jb 1 R<|Jh3 [2,2,1,2,1,2,1,1,2] 2 R<|Jx3 (κ:=K97) (E:=E6) 17 R Y37 bG R λbi bf w107 K108 S109 f110=>Tv<|Jn 1 R<|Ob h λx60 hx60 h=>Jy3 (κ:=K108) (E:=E6) 17 [] R Y37 bG R f110 (Sl.srcP (bP _) (f93.stp<|S98.tr S109).rdc) bI hx60 R λaE aG w112 K113 S114 f115=>Tv<|Jf R (bK (parts:=[(0,.tmp 57),(1,.tmp 60)]) (cells:=[vi x46,.slice aE x60.length aG]) R R (by kernel_rfl)) ?_
 obtain⟨K116,S117,z118⟩:=fV K113 w112 17
 refine Jw3 (κ:=K116) (E:=(Ep.fz Place.rp)) 18 [] (parts:=[(0,.tmp 61)]) (cells:=[vi x46,.slice aE x60.length aG]) (xs:=([(⟨x46,x60⟩:Place)]:List Place)) R Y80 fk R ⟨[vi x46,.slice aE x60.length aG],[],Zl K116 w112 [],Zl K116 w112 [],R,Zl.sp (l1:=[]) (l2:=[]) R,Zl.sr (l1:=[]) (l2:=[]),(Place.mk_rel (x:=(⟨x46,x60⟩:Place))<|Sl.z1<|Sl.st z118 f115.rdc),R⟩ λbh bg w120 K121 S122 f123=>Tv<|Ob h λx63 hx63 h=>Jy3 (κ:=K121) (E:=(Ep.fz Place.rp)) 5 [18] R Y80 fk R (f88.stp<|T5 S98 S109 S114 S117 S122) f123.src (dE R) hx63 R λaX aW w125 K126 S127 f128=>Tv<|Jc 1 R ?_
 cases h
 exact Jw1 _ ⟨K126,aX,aW,R,(T5 S109 S114 S117 S122 S127).wk R,f128⟩<|KM R
 rintro _ w102 ⟨K103,av,an,rfl,S104,f105⟩
 have h:=hK101
 refine Jp<|Jh3 [2,2,1,1,2] 2 R<|Jw3 (κ:=K103) (E:=E6) 17 [] (parts:=[(0,.tmp 65)]) (cells:=[vi q7.2]) (xs:=([q7.2]:List Int)) R Y37 bG R ⟨[vi q7.2],[],Zl K103 w102 [],Zl K103 w102 [],R,Zl.sp (l1:=[]) (l2:=[]) R,Zl.sr (l1:=[]) (l2:=[]),R,R⟩ λbc be w130 K131 S132 f133=>Tv<|Ob h λx67 hx67 h=>Jy3 (κ:=K131) (E:=E6) 14 [] R Y37 bG R (f89.stp<|T3 S98 S104 S132) (Sl.srcP (bP _) f133.rdc) bI hx67 R λaZ aY w135 K136 S137 f138=>Tv<|Jc 1 R<|Jz<|Jp<|Jf3 R ?_
 have hw77:yC .i64 (v44+1)=v44+1:=wr1 hj77 (Jm2 hc77) hN77
 rw[hw77]
 have hc77:=Jm2 hc77
 cases h
 exact Jz1 λa ha=>⟨k,_,Ja3 _,⟨K136,v44+1,(q7.1,x67),av,an,aZ,aY,R,(T5 S87 S98 S104 S132 S137).wk R,(f105.stp<|S132.tr S137),f138,by omega,by omega,hk91⟩,(ha.mm R)⟩
 rintro _ w80 ⟨K81,s6,aC,aB,aF,aD,rfl,S82,f83,f84,rfl⟩
 have h:=yI hK78
 refine Jp<|Jq<|Jg3 [2,2,2] 1 R<|Jn3 R U80 R R<|Jb 1 R ?_
 revert h
 cases ht140:decide (256<(s6.1.length:Int))
 refine JF λh=>Jy R<|Js<|Jp<|Jg3 [2,1] 1 R<|Ob h λx74 hx74 h=>Jr3 R C106 (gR (κ:=λb=>mp [(14,2)] 0<|K81 b) (f84.map (mp [(14,2)] 0) R R) hx74) ?_
 rintro _ w146 ⟨k147,rfl,e148,f149,hn150⟩
 obtain⟨K151,S152,m153⟩:=Ji e148 15 R
 refine Tv<|Jd<|Js1 (κ:=K151) [0,2,6,10] (some 12) [(1,2),(3,2),(7,2),(10,2),(0,0),(2,0),(4,0),(5,2),(6,0),(8,0),(9,1),(11,1)] [(12,1)] (by kernel_rfl) (by kernel_rfl) λw157 S156=>Jd3 R U75 R Z37<|Jd3 R U88 R Z2<|Jn 2 R ?_
 have f158:=f44.stp (T7 S51 S54 S64 S70 S82 S152 S156)
 refine Jg R (Jc4 (haC f158.cells R) I79 Z79 R)<|Jg R (Jc2 I37 R R<|hvC ((f72.stp<|T3 S82 S152 S156).ld 0 R R) R) ?_
 have f160:=f73.stp (T3 S82 S152 S156)
 have S001:=(T5 S64 S70 S82 S152 S156)
 refine Jg R (Jc2 I2 R R<|hvC (f160.ld 0 R R) R)<|Ob h λx80 hx80 h=>Jc3 R g0_0 hx80 U37 Z2<|Jg R (Jc2 I2 R R<|hvC ((g0_0.stp<|T14 S3 S7 S11 S17 S21 S24 S39 S51 S54 S64 S70 S82 S152 S156).gInt hx80) R)<|Jg R (Jc4 (haC f160.cells R) I88 Z88 R)<|Ob h λx84 hx84 h=>WO.callV R R R R R R R R C112 (oU (κ:=Mk K151) (p0:=x31) (Ji3<|f56.stp S001) (Ji3<|f57.stp S001) ((f58.stp S001).map (mp [] 0) R R) hx84) ?_
 rintro _ w165 ⟨k166,rfl,e167⟩
 obtain⟨K168,S169,m170⟩:=Ji e167 18 R
 refine⟨(S169.cl R),?_⟩
 obtain⟨K173,S174,z175⟩:=fV K168 w165 17
 have S002:=(T9 S51 S54 S64 S70 S82 S152 S156 S169 S174)
 refine Ob h λx86 hx86 h=>Jr3 R C175 (Ret.cast (by simp only[(hn150),List.cons_append,List.nil_append])<|o4 (κ:=λb=>mp [(7,2),(8,3),(9,4)] 1<|K173 b) (p0:=(⟨(⟨s1.2.2.1,s1.2.2.2.1⟩:Arena),s1.2.2.2.2⟩:Parity)) ((f41.stp S002).map (mp [(7,2),(8,3),(9,4)] 1) R R) ((f42.stp S002).map (mp [(7,2),(8,3),(9,4)] 1) R R) ((f43.stp S002).map (mp [(7,2),(8,3),(9,4)] 1) R R) (Jl2 (Sl.st z175 ((f149.mx (bL _) m153 R (R:15+2=17)).stp (S156.tr S169)).rdc) (mp [(7,2),(8,3),(9,4)] 1) R R) hx86) ?_
 rintro _ w180 ⟨k181,aO,aQ,aR,aM,aI,aP,rfl,e182,f183,f184,f185⟩
 obtain⟨K186,S187,m188,z189⟩:=Jj e182 20 R
 have S003:=(T3 S169 S174 S187)
 refine⟨(S003.cl R),Jt1<|Jv3 (κ:=K186) 6 (vc:=[.slice aO x86.Arena.Owner.length aQ,.slice aR x86.Arena.Next.length aM,.slice aI x86.Prio.length aP]) R Z79 R (f158.stp S003) R λw194 S195 f196=>Tv<|Jo<|Jz<|Jp<|Jf3 R ?_⟩
 cases h
 exact Jz1 λa ha=>⟨k,_,Ja3 _,⟨(λb=>ren [(25,7),(26,8),(27,9)]<|K186 b),(s6.1,((IntKind.i64.wrap<|s1.2.1+1):Int),x86.Arena.Owner,x86.Arena.Next,x86.Prio),aC,aB,aO,aQ,aR,aM,aI,aP,R,(Jy2 ((T12 S39 S51 S54 S64 S70 S82 S152 S156 S169 S174 S187 S195).wk R) [(25,7),(26,8),(27,9)] R),((f83.stp<|T6 S152 S156 S169 S174 S187 S195).map (ren [(25,7),(26,8),(27,9)]) R R),(((f183.mx (bL _) m188 R (R:20+5=25)).stp S195).map (ren [(25,7),(26,8),(27,9)]) R R),(((f184.mxz z189 m188 R (R:20+6=26)).stp S195).map (ren [(25,7),(26,8),(27,9)]) R R),(((f185.mx (bL _) m188 R (R:20+7=27)).stp S195).map (ren [(25,7),(26,8),(27,9)]) R R),(f196.map (ren [(25,7),(26,8),(27,9)]) R R),hk46⟩,(ha.mm R)⟩
 refine JT λh=>Jx R<|Je [2,1,2,2] R<|Jf R (bK (parts:=[]) (cells:=[.slice none 0 0,.slice none 0 0,.slice none 0 0]) R R (by kernel_rfl))<|Jv3 (κ:=K81) 4 (vc:=[.slice none 0 0,.slice none 0 0,.slice none 0 0]) R Z79 R (f12.stp<|T9 S17 S21 S24 S39 S51 S54 S64 S70 S82) R λw142 S143 f144=>Tv<|Jb 2 R<|Ju<|Jw<|Ja1<|Jw<|Jw ?_
 cases h
 obtain rfl:=Option.some.inj hk46
 have h:=yL hK27
 refine Ja1<|Jq2<|Jw<|Ja2 (l:=[.cell 8 79,.tmp 9,.tmp 10]) V109 (bM R f144 I79 Z79 R<|Jp2 R<|Jp2 R R) R ?_
 cases h
 exact⟨K81,none,0,none,0,none,0,none,0,R,(hE.stp<|T13 S3 S7 S11 S17 S21 S24 S39 S51 S54 S64 S70 S82 S143),Ow.nil,Ow.nil,Ow.nil,Ow.nil⟩
 rintro _ w29 ⟨K30,s3,ao,au,ae,ak,ah,aj,ab,aa,rfl,S31,f32,f33,f34,f35,f36,rfl⟩
 have h:=yI hK27
 refine Jp<|Je [1,2,1,2,2] R<|Jb4 tv R (Jc4 (haE f36.cells) I79 Z79 R)<|Jn 1 R<|Jv3 (κ:=K30) 4 (vc:=[.slice ae s3.2.2.1.length ak,.slice ah s3.2.2.2.1.length aj,.slice ab s3.2.2.2.2.length aa]) R Z79 R (f12.stp<|T4 S17 S21 S24 S31) R λw202 S203 f204=>Tv<|Jb 2 R<|Ju<|Ja2 (l:=[.cell 8 79,.tmp 9,.tmp 10]) V109 (bM R f204 I79 Z79 R<|Jp2 R<|Jp2 R R) R ?_
 cases h
 exact⟨(λb=>ren [(7,2),(8,3),(9,4)]<|K30 b),ae,ak,ah,aj,ab,aa,ao,au,R,((hE.stp<|T8 S3 S7 S11 S17 S21 S24 S31 S203).map (ren [(7,2),(8,3),(9,4)]) R R),((f33.stp S203).map (ren [(7,2),(8,3),(9,4)]) R R),((f34.stp S203).map (ren [(7,2),(8,3),(9,4)]) R R),((f35.stp S203).map (ren [(7,2),(8,3),(9,4)]) R R),((f32.stp S203).map (ren [(7,2),(8,3),(9,4)]) R R)⟩
theorem lD {ae ad ac ai af ah}{p0:Parity}(g0_0_0:Rd (Rp.int .i64) κ w 0 ae ad p0.Arena.Owner) (g0_0_1:Rd (Rp.sl (Rp.int .i64)) κ w 0 ac ai p0.Arena.Next) (g0_1:Rd (Rp.int .i64) κ w 0 af ah p0.Prio){r:(List Int)}(h:er p0=some r):Ret Tryz.prog 44 [.agg #[.slice ae p0.Arena.Owner.length ad,.slice ac p0.Arena.Next.length ai,.slice af p0.Prio.length ah]] w (Pvs E6 2 κ w r):=by
 unfold er at h
 refine Jk3 κ F44 R N44 R λhE=>Je [1,2] R<|Js3 (κ:=κ) 2 R λb1 w1 K2 S3 f4=>Tv<|Jb 1 R<|Je [2,1,2,1,2] R<|Jd3 R U79 R Z37<|Jb3 R I37 (f4.ld 2 R R)<|Jn3 R U37 R R<|Ob h λx11 hx11 h=>Jl1 (κ:=K2) (E:=E6) (z:=(0:Int)) 3 R R R R R R R Y37 bG R R R R R (λ_ _ _=>R) (Ju2 hx11) λab aa w5 K6 S7 f8=>Tv<|Jb 1 R<|Jq<|Js1 (κ:=K6) [2] none [(1,2),(0,0),(2,0),(3,1),(4,1),(5,2),(6,2),(7,2),(8,2),(9,2)] [] (by kernel_rfl) (by kernel_rfl) λw10 S9=>Jd3 R U79 R Z75 ?_
 have f11:=f4.stp (S7.tr S9)
 refine Jg R (Jc4 (haC f11.cells R) I79 Z79 R)<|Jg R (Jc4 (haC (f11.lds 0 2 R) R) I75 Z75 R)<|Ob h λx16 hx16 h=>?_
 have f12:=g0_0_0.stp (T3 S3 S7 S9)
 have f13:=g0_0_1.stp (T3 S3 S7 S9)
 refine Jr3 R C115 (tQ (κ:=Mk K6) (p0:=p0.Arena) (Ji3 f12) (Ji3 f13) hx16) ?_
 rintro _ w14 ⟨k15,an,ak,rfl,e16,f17⟩
 obtain⟨K18,S19,m20⟩:=Ji e16 4 R
 refine⟨(S19.cl R),Ob h λx17 hx17 h=>Jr3 R C114 (pz (κ:=Mk K18) (p0:=p0) (Ji3<|f12.stp S19) (Ji3<|f13.stp S19) (Ji3<|g0_1.stp<|T4 S3 S7 S9 S19) (Ji3 (f17.mx (bL _) m20 R (R:4+2=6)).rdc) hx17) ?_⟩
 rintro _ w26 ⟨k27,al,ao,aj,am,rfl,e28,f29,f30⟩
 obtain⟨K31,S32,m33⟩:=Ji e28 7 R
 refine⟨((S19.tr S32).cl R),?_⟩
 have f36:=f30.mx (bL _) m33 R (R:7+3=10)
 refine Jn 5 R<|Jt1<|Jd<|Jq<|Jg3 [2,2,2] 1 R<|Jn3 R U37 R R<|Jb 1 R ?_
 have hN37:(x17.2.length:Int)<=9223372036854775807:=f36.len_le
 refine Ob h λq2 hq39 hK38=>?_
 clear h
 refine Jo3 [3] (λE L w'=>∃κ',∃s3:(List Int),L=E/\Stp [3] K31 w26 κ' w'/\Oc E6 2 κ' w' 3 ab aa s3/\x11.length=s3.length/\q2=yD s3) ?_ ?_
 refine Jv<|Jp3 [3,20,21] (λk E L w'=>∃κ' v22,∃s1:(List Int),L=(22,vi v22)::E/\Stp [3] K31 w26 κ' w'/\Oc E6 2 κ' w' 3 ab aa s1/\x11.length=s1.length/\0<=v22/\yG ((x17.2.length:Int)-v22)=k/\cntM (g6 x17) k v22 s1=some q2) ⟨_,_,⟨K31,0,x11,R,Jj3,(f8.stp<|T3 S9 S19 S32),R,(by decide),(by simp),hq39⟩,(KM R)⟩ ?_
 rintro k _ w45 ⟨K46,v22,s1,rfl,S47,f48,hn49,hj37,hJ37,h⟩
 rcases k with _ | k
 have hk51:=h;obtain⟨o37,h⟩:=bT (yD (yE s1):(List Int)⊕(((List Int))⊕((List Int))))
 have hc37:decide (v22<(x17.2.length:Int))=false:=Jo2 (by omega)
 refine Je3 R<|Jq<|Jw2 R hc37<|Jc1<|Jt<|Jt ?_
 cases h
 have h:=hk51
 refine Jb1 ?_
 cases h
 exact Jw1 _ ⟨K46,s1,R,S47.wk R,f48,hn49,R⟩<|KM R
 obtain⟨o37,h,hk51⟩:=BI h;unfold g6 at h
 have hc37:decide (v22<(x17.2.length:Int))=true:=Jn2 (by omega)
 refine Je3 R<|Jq<|Jv2 R hc37<|Js<|Jp<|Jq<|Jv<|Je [2,1,2] R<|Ob h λx24 hx24 h=>Jc3 R f36.rdc hx24 U37 Z2<|Jb3 R I2 ((f36.stp S47).rdc.gInt hx24)<|Jb 1 R<|Jh3 [2,2,2,1] 2 R<|Ob h λx28 hx28 h=>Jf R (Jf2 f48.rdc hx28 U37 Z2 R R hn49 R)<|Ob h λy153 hy153 h=>Jk1 (κ:=K46) (E:=E6) 3 [] R R R R R R R R Z2 R R R R f48 hy153 λw53 K54 S55 f56=>Tv<|?_
 have hn57:x11.length=y153.length:=hn49.trans (Jt2 hy153).2.2.2.symm
 refine Jo<|Jz<|Jp<|Jf3 R ?_
 have hw37:yC .i64 (v22+1)=v22+1:=wr1 hj37 (Jm2 hc37) hN37
 rw[hw37]
 have hc37:=Jm2 hc37
 cases h
 exact Jz1 λa ha=>⟨k,_,Ja3 _,⟨K54,v22+1,y153,R,(S47.tr S55).wk R,f56,hn57,by omega,by omega,hk51⟩,(ha.mm R)⟩
 rintro _ w40 ⟨K41,s3,rfl,S42,f43,hn44,rfl⟩
 have h:=yI hK38
 refine Jp<|Je3 R<|Ju<|Ja2 (l:=[.tmp 2]) V44 (Jp2 R R) R ?_
 cases h
 exact⟨(λb=>ren [(3,2)]<|K41 b),ab,aa,(by simp only[hn44]),((hE.stp<|T6 S3 S7 S9 S19 S32 S42).map (ren [(3,2)]) R R),(f43.map (ren [(3,2)]) R R)⟩
theorem qD {aj af ae ai ah ak}{p0:Parity}{a1 u1}{p1:(List Int)}{a2 u2}{p2:(List Int)}(g0_0_0:Rd (Rp.int .i64) κ w 0 aj af p0.Arena.Owner) (g0_0_1:Rd (Rp.sl (Rp.int .i64)) κ w 0 ae ai p0.Arena.Next) (g0_1:Rd (Rp.int .i64) κ w 0 ah ak p0.Prio) (g1:Rd (Rp.int .i64) κ w 0 a1 u1 p1) (g2:Rd (Rp.int .i64) κ w 0 a2 u2 p2){r:Answer}(h:jY p0 p1 p2=some r):Ret Tryz.prog 117 [.agg #[.slice aj p0.Arena.Owner.length af,.slice ae p0.Arena.Next.length ai,.slice ah p0.Prio.length ak],.slice a1 p1.length u1,.slice a2 p2.length u2] w (λv w'=>∃(κ':Col) (ra0:Option Addr) (ru0:Nat) (ra1:Option Addr) (ru1:Nat),v= .agg #[.slice ra0 r.Won.length ru0,.slice ra1 r.Plan.length ru1]/\Ent κ w κ' w'/\Oc E6 2 κ' w' 2 ra0 ru0 r.Won/\Oc E6 2 κ' w' 3 ra1 ru1 r.Plan):=by
 unfold jY at h
 refine Jk3 κ F117 R N117 R λhE=>Je [1,1] R<|Js3 (κ:=κ) 2 R λb3 w1 K2 S3 f4=>Tv<|Jt3 (κ:=K2) 3 R X85 R λb6 w5 K6 S7 f8=>Tv<|Jd<|Je [1,2,1,2] R<|Jx3 (κ:=K6) (E:=E6) 4 R Y37 bG R λaw an w9 K10 S11 f12=>Tv<|Jn 1 R<|Ob h λx16 hx16 h=>Jy3 (κ:=K10) (E:=E6) 4 [] R Y37 bG R f12 (Sl.srcP (bP _)<|g1.stp<|T3 S3 S7 S11) bI hx16 R λaa ab w14 K15 S16 f17=>Tv<|Jb 1 R<|Jq<|Jg3 [2,2,2] 1 R<|Jn3 R U37 R R<|Jb 1 R ?_
 have hN18:(x16.length:Int)<=9223372036854775807:=f17.len_le
 refine Ob h λq2 hq20 hK19=>?_
 clear h
 refine Jo3 [2,6,7] (λE L w'=>∃κ',∃s3:(List Int),L=E/\Stp [4] K15 w14 κ' w'/\Oc E6 2 κ' w' 4 aa ab s3/\x16.length=s3.length/\q2=yD s3) ?_ ?_
 refine Jv<|Jp3 [2,3,6,7,18] (λk E L w'=>∃κ' v19,∃s1:(List Int),L=(19,vi v19)::E/\Stp [4] K15 w14 κ' w'/\Oc E6 2 κ' w' 4 aa ab s1/\x16.length=s1.length/\0<=v19/\yG ((x16.length:Int)-v19)=k/\cntM (gj p0 p2) k v19 s1=some q2) ⟨_,_,⟨K15,0,x16,R,Jj3,f17,R,(by decide),(by simp),hq20⟩,(KM R)⟩ ?_
 rintro k _ w26 ⟨K27,v19,s1,rfl,S28,f29,hn30,hj18,hJ18,h⟩
 rcases k with _ | k
 have hk31:=h;obtain⟨o18,h⟩:=bT (yD (yE s1):Answer⊕(((List Int))⊕((List Int))))
 have hc18:decide (v19<(x16.length:Int))=false:=Jo2 (by omega)
 refine Je3 R<|Jq<|Jw2 R hc18<|Jc1<|Jt<|Jt ?_
 cases h
 have h:=hk31
 refine Jb1 ?_
 cases h
 exact Jw1 _ ⟨K27,s1,R,S28.wk R,f29,hn30,R⟩<|KM R
 obtain⟨o18,h,hk31⟩:=BI h;unfold gj at h
 have hc18:decide (v19<(x16.length:Int))=true:=Jn2 (by omega)
 refine Je3 R<|Jq<|Jv2 R hc18<|Js<|Jp<|Jq<|Jv<|Je3 R<|Jq<|Jq<|Js1 (κ:=K27) [0,2,4] none [(0,2),(1,2),(3,2),(6,2),(7,2),(8,2),(2,0),(4,2),(5,0),(9,0),(10,2),(11,2),(12,2),(13,2),(14,2),(15,0),(16,2),(17,2)] [] (by kernel_rfl) (by kernel_rfl) λw33 S32=>Jd3 R U79 R Z75<|Jd3 R U75 R Z37<|Jn 3 R<|Ob h λx30 hx30 h=>Jc3 R g2 hx30 U37 Z2 ?_
 have f34:=f4.stp (T5 S7 S11 S16 S28 S32)
 refine Jg R (Jc2 I37 R R<|hvC (f34.ld 0 R R) R)<|Ob h λx26 hx26 h=>Jc3 R g0_0_0 hx26 U37 Z2 ?_
 have f35:=g0_0_0.stp (T6 S3 S7 S11 S16 S28 S32)
 refine Jg R (Jc2 I2 R R<|hvC (f35.gInt hx26) R) ?_
 have f36:=g2.stp (T6 S3 S7 S11 S16 S28 S32)
 refine Jg R (Jc2 I2 R R<|hvC (f36.gInt hx30) R)<|Jn 2 R<|Ob h λp39 h hK37=>Jq3 [2,3,6,7,8,18,19] (λE L w'=>L=(39,.bool p39)::E/\∃κ',Stp [] K27 w33 κ' w') [(12,2),(13,2),(14,2),(15,0),(16,2),(17,2)] [] (Cl.refl _ _ _) ?_ ?_
 revert h
 cases ht38:(x26 !=x30)
 refine JF λh=>Jn 2 R<|Ob h λx36 hx36 h=>Jf R (Jf2 f29.rdc hx36 U37 Z2 R R hn30 R)<|Jg R (Jc2 I2 R R<|hvC ((f29.stp S32).rdc.gInt hx36) R)<|Jn 2 R ?_
 cases h
 exact Jv1 _ (Cl.refl _ _ _) ⟨R,_,Jj3⟩<|KM R
 refine JT λh=>Jn 3 R<|Ja4 R<|Jn 2 R ?_
 cases h
 exact Jv1 _ (Cl.refl _ _ _) ⟨R,_,Jj3⟩<|KM R
 rintro _ w40 _ ⟨rfl,K41,S42⟩
 have h:=hK37
 refine Jt1<|Jd ?_
 revert h
 cases ht43:p39
 refine JF λh=>Jy R<|Js<|Jp<|Jg3 [2,2,2,2,2,1,1,2] 1 R<|Jf R (bK (parts:=[(0,.tmp 40)]) (cells:=[.slice a2 p2.length u2,.slice none 0 0]) R R (by kernel_rfl))<|Jn 2 R<|Ob h λx44 hx44 h=>Jc3 R f36 hx44 U37 Z2 ?_
 have f45:=f36.stp S42
 refine Jb3 R I2 (f45.gInt hx44)<|Ob h λx46 hx46 h=>Jr3 R C183 (qr (κ:=Mk K41) (p0:=(⟨p2,([]:List Int)⟩:Answer)) (Ji3 f45) Sl.nil hx46) ?_
 rintro _ w46 ⟨k47,am,ax,rfl,e48,f49⟩
 obtain⟨K50,S51,m52⟩:=Ji e48 5 R
 refine Tv<|Jb 1 R<|Je [2,2,1,2,2,1,2,2] R<|Jd3 R U79 R Z75<|Jd3 R U75 R Z31 ?_
 have f55:=f34.stp (S42.tr S51)
 refine Jb3 R I31 (f55.ld 1 R R)<|Jn 1 R<|Ob h λx51 hx51 h=>Jc3 R g0_0_1 hx51 U31 Z37 ?_
 have f56:=g0_0_1.stp (T8 S3 S7 S11 S16 S28 S32 S42 S51)
 obtain⟨ax51,ux51,f57,hl58⟩:=f56.gSl hx51
 refine Jb3 R I37 hl58<|Jn3 R U37 R R<|Jb 1 R ?_
 have hN59:(x51.length:Int)<=9223372036854775807:=f57.len_le
 refine Ob h λq5 hq61 hK60=>?_
 clear h
 refine Jo3 [2,3,6,7,18,19] (λE L w'=>∃κ',∃s6:(List Int),L=E/\Stp [4] K50 w46 κ' w'/\Oc E6 2 κ' w' 4 aa ab s6/\x16.length=s6.length/\q5=yD s6) ?_ ?_
 refine Jv<|Jp3 [2,3,6,7,8,9,18,19,52,53] (λk E L w'=>∃κ' v54,∃s4:(List Int),L=(54,vi v54)::E/\Stp [4] K50 w46 κ' w'/\Oc E6 2 κ' w' 4 aa ab s4/\x16.length=s4.length/\0<=v54/\yG ((x51.length:Int)-v54)=k/\cntM (eV p0 p2 v19 x46 x51) k v54 s4=some q5) ⟨_,_,⟨K50,0,s1,R,Jj3,(f29.stp<|T3 S32 S42 S51),hn30,(by decide),(by simp),hq61⟩,(KM R)⟩ ?_
 rintro k _ w67 ⟨K68,v54,s4,rfl,S69,f70,hn71,hj59,hJ59,h⟩
 rcases k with _ | k
 have hk73:=h;obtain⟨o59,h⟩:=bT (yD (yE s4):Answer⊕(((List Int))⊕((List Int))))
 have hc59:decide (v54<(x51.length:Int))=false:=Jo2 (by omega)
 refine Je3 R<|Jq<|Jw2 R hc59<|Jc1<|Jt<|Jt ?_
 cases h
 have h:=hk73
 refine Jb1 ?_
 cases h
 exact Jw1 _ ⟨K68,s4,R,S69.wk R,f70,hn71,R⟩<|KM R
 obtain⟨o59,h,hk73⟩:=BI h;unfold eV at h
 have hc59:decide (v54<(x51.length:Int))=true:=Jn2 (by omega)
 refine Je3 R<|Jq<|Jv2 R hc59<|Js<|Jp<|Jq<|Jv<|Je [2,1,2] R<|Ob h λx56 hx56 h=>Jc3 R f57 hx56 U37 Z2<|Jb3 R I2 ((f57.stp S69).gInt hx56)<|Jb 1 R<|Jq<|Jq<|Js1 (κ:=K68) [0] none [(0,2),(1,2),(2,2),(4,2),(5,2),(6,2),(3,0),(7,0),(8,2)] [] (by kernel_rfl) (by kernel_rfl) λw76 S75=>Jn 2 R<|Ob h λx60 hx60 h=>Jc3 R f45 hx60 U37 Z2<|Jn 2 R<|Ob h λx64 hx64 h=>Jc3 R f45 hx64 U37 Z2 ?_
 have f77:=f45.stp (T3 S51 S69 S75)
 refine Jg R (Jc2 I2 R R<|hvC (f77.gInt hx60) R)<|Jg R (Jc2 I2 R R<|hvC (f77.gInt hx64) R)<|Jn 1 R<|Jt1<|Jd ?_
 revert h
 cases ht78:(x60 !=x64)
 refine JF λh=>Jy R<|Js<|Jp<|Jg3 [2,2,2,2,1] 3 R<|Ob h λx70 hx70 h=>Jf R (Jf2 f70.rdc hx70 U37 Z2 R R hn71 R)<|Ob h λy167 hy167 h=>Jk1 (κ:=K68) (E:=E6) 4 [] R R R R R R R R Z2 R R R R (f70.stp S75) hy167 λw81 K82 S83 f84=>Tv<|?_
 have hn85:x16.length=y167.length:=hn71.trans (Jt2 hy167).2.2.2.symm
 refine Jd<|Je [1,2,1,2,1,2,2,2,2,2] R<|Jb4 tv R (Jc4 (haE (f55.stp<|T3 S69 S75 S83).cells) I79 Z79 R)<|Jn 1 R<|Ob h λx74 hx74 h=>Jr3 R C184 (Ret.cast (by simp only[hn85,List.cons_append,List.nil_append])<|sJ (κ:=Mk K82) (p0:=p0) (Ji3<|f35.stp<|T5 S42 S51 S69 S75 S83) (Ji3<|f56.stp<|T3 S69 S75 S83) (Ji3<|g0_1.stp<|T11 S3 S7 S11 S16 S28 S32 S42 S51 S69 S75 S83) (Ji3 f84.rdc) hx74) ?_
 rintro _ w90 ⟨k91,aA,ay,ar,az,ao,aC,rfl,e92,f93,f94,f95⟩
 obtain⟨K96,S97,m98⟩:=Ji e92 8 R
 refine Tv<|Jn 1 R<|Ob h λx76 hx76 h=>Jr3 R C114 (pz (κ:=Mk K96) (p0:=x74) (Ji3 (f93.mx (bL _) m98 R (R:8+2=10)).rdc) (Ji3 (f94.mx (cR (bL _) _) m98 R (R:8+3=11)).rdc) (Ji3 (f95.mx (bL _) m98 R (R:8+4=12)).rdc) (Ji3 ((f49.mx (bL _) m52 R (R:5+2=7)).stp (T4 S69 S75 S83 S97)).rdc) hx76) ?_
 rintro _ w104 ⟨k105,aB,av,al,ap,rfl,e106,f107,f108⟩
 obtain⟨K109,S110,m111⟩:=Ji e106 13 R
 refine Tv<|Jb 5 R<|Jq<|Jg3 [2,2,2,1,2,2,2,2,2,2,2,2,2,2,1,2,2,2,2,2,2,2] 2 R<|Ob h λx81 hx81 h=>Jc3 R f77 hx81 U37 Z2 ?_
 have f115:=f77.stp (T3 S83 S97 S110)
 refine Jb3 R I2 (f115.gInt hx81)<|Jn 2 R<|Ob h λp88 h hK116=>Jq3 [2,3,6,7,8,9,12,18,19,52,53,54] (λE L w'=>L=(88,.bool p88)::E/\∃κ',Stp [] K109 w104 κ' w') [(6,2),(7,2),(8,2),(9,2)] [(10,2),(11,2),(12,2),(13,2),(14,1),(15,2),(16,2),(17,2),(18,2),(19,2),(20,2),(21,2)] tv ?_ ?_
 revert h
 cases ht117:(x81==0)
 refine JF λh=>Jn 4 R ?_
 cases h
 exact Jv1 _ tv ⟨R,_,Jj3⟩<|KM R
 refine JT λh=>Jn 1 R<|Jn3 R U37 R R<|Jn 2 R ?_
 cases h
 exact Jv1 _ tv ⟨R,_,Jj3⟩<|KM R
 rintro _ w118 _ ⟨rfl,K119,S120⟩
 have h:=hK116
 refine Jn 1 R<|Ob h λp100 h hK121=>Jq3 [2,3,6,7,8,9,18,19,52,53,54] (λE L w'=>L=(100,.bool p100)::E/\∃κ',Stp [] K119 w118 κ' w') [(11,2),(12,2),(13,2),(14,1),(15,2),(16,2),(17,2),(18,2),(19,2),(20,2),(21,2)] [] tv ?_ ?_
 revert h
 cases ht122:p88
 refine JF λh=>Jn 2 R<|Ob h λx92 hx92 h=>Jc3 R f115 hx92 U37 Z2<|Jb3 R I2 ((f115.stp S120).gInt hx92)<|Jn 2 R<|Ob h λp99 h hK124=>Jq3 [2,3,6,7,8,9,18,19,52,53,54,89,90,91,92,93,94,95] (λE L w'=>L=(99,.bool p99)::E/\∃κ',Stp [] K119 w118 κ' w') [(17,2),(18,2),(19,2),(20,2)] [(21,2)] tv ?_ ?_
 revert h
 cases ht125:(x92==1)
 refine JF λh=>Jn 4 R ?_
 cases h
 exact Jv1 _ tv ⟨R,_,Jj3⟩<|KM R
 refine JT λh=>Jn 1 R<|Jn3 R U37 R R<|Jn 2 R ?_
 cases h
 exact Jv1 _ tv ⟨R,_,Jj3⟩<|KM R
 rintro _ w126 _ ⟨rfl,K127,S128⟩
 have h:=hK124
 refine Jn 1 R ?_
 cases h
 exact Jv1 _ tv ⟨R,_,S128.wk R⟩<|KM R
 refine JT λh=>Jn 3 R<|Jz3 R<|Jn 7 R ?_
 cases h
 exact Jv1 _ tv ⟨R,_,Jj3⟩<|KM R
 rintro _ w129 _ ⟨rfl,K130,S131⟩
 have h:=hK121
 refine Jd ?_
 revert h
 cases ht132:p100
 refine JF λh=>Jy R<|Js<|Jp<|Jh3 [2,2,2,1] 2 R<|Ob h λx103 hx103 h=>Jf R (Jf2 f84.rdc hx103 U37 Z2 R R hn85 R)<|Ob h λy180 hy180 h=>Jk1 (κ:=K130) (E:=E6) 4 [] R R R R R R R R Z2 R R R R (f84.stp<|T4 S97 S110 S120 S131) hy180 λw135 K136 S137 f138=>Tv<|?_
 have hn139:x16.length=y180.length:=hn85.trans (Jt2 hy180).2.2.2.symm
 refine Jo<|Jz<|Jp<|Jf3 R ?_
 have hw59:yC .i64 (v54+1)=v54+1:=wr1 hj59 (Jm2 hc59) hN59
 rw[hw59]
 have hc59:=Jm2 hc59
 cases h
 exact Jz1 λa ha=>⟨k,_,Ja3 _,⟨K136,v54+1,y180,R,(T8 S69 S75 S83 S97 S110 S120 S131 S137).wk R,f138,hn139,by omega,by omega,hk73⟩,(ha.mm R)⟩
 refine JT λh=>Jx R<|Jc1<|Jt<|Jz2 R<|Jt<|Jt ?_
 cases h
 have h:=hk73
 refine Jb1 ?_
 cases h
 exact Jw1 _ ⟨K130,y167,R,(T7 S69 S75 S83 S97 S110 S120 S131).wk R,(f84.stp<|T4 S97 S110 S120 S131),hn85,R⟩<|KM R
 refine JT λh=>Jx R<|Jc1<|Jt<|Jb1<|Jp<|Jf3 R ?_
 have hw59:yC .i64 (v54+1)=v54+1:=wr1 hj59 (Jm2 hc59) hN59
 rw[hw59]
 have hc59:=Jm2 hc59
 cases h
 exact Jz1 λa ha=>⟨k,_,Ja3 _,⟨K68,v54+1,s4,R,(S69.tr S75).wk R,(f70.stp S75),hn71,by omega,by omega,hk73⟩,(ha.mm R)⟩
 rintro _ w62 ⟨K63,s6,rfl,S64,f65,hn66,rfl⟩
 have h:=yI hK60
 refine Jz<|Jp<|Jf3 R ?_
 have hw18:yC .i64 (v19+1)=v19+1:=wr1 hj18 (Jm2 hc18) hN18
 rw[hw18]
 have hc18:=Jm2 hc18
 cases h
 exact Jz1 λa ha=>⟨k,_,Ja3 _,⟨K63,v19+1,s6,R,(T5 S28 S32 S42 S51 S64).wk R,f65,hn66,by omega,by omega,hk31⟩,(ha.mm R)⟩
 refine JT λh=>Jx R<|Jc1<|Jt<|Jb1<|Jp<|Jf3 R ?_
 have hw18:yC .i64 (v19+1)=v19+1:=wr1 hj18 (Jm2 hc18) hN18
 rw[hw18]
 have hc18:=Jm2 hc18
 cases h
 exact Jz1 λa ha=>⟨k,_,Ja3 _,⟨K41,v19+1,s1,R,(T3 S28 S32 S42).wk R,(f29.stp<|S32.tr S42),hn30,by omega,by omega,hk31⟩,(ha.mm R)⟩
 rintro _ w21 ⟨K22,s3,rfl,S23,f24,hn25,rfl⟩
 have h:=yI hK19
 refine Jp<|Je [1,2,1,2,2,1] R<|Jx3 (κ:=K22) (E:=E6) 5 R Y37 bG R λaq au w140 K141 S142 f143=>Tv<|Jn 1 R<|Ob h λx108 hx108 h=>Jy3 (κ:=K141) (E:=E6) 5 [] R Y37 bG R f143 (Sl.srcP (bP _)<|g2.stp<|T6 S3 S7 S11 S16 S23 S142) bI hx108 R λad ac w145 K146 S147 f148=>Tv<|Jn 1 R<|Jf R (bK (parts:=[(0,.tmp 108),(1,.tmp 109)]) (cells:=[.slice ad x108.length ac,.slice aa x16.length ab]) R R (by kernel_rfl))<|Jv3 (κ:=K146) 3 (vc:=[.slice ad x108.length ac,.slice aa x16.length ab]) R Z85 R (f8.stp<|T5 S11 S16 S23 S142 S147) R λw150 S151 f152=>Tv<|Jd<|Ju<|Ja2 (l:=[.cell 6 85]) V117 (bM R f152 I85 Z85 R R) R ?_
 cases h
 exact⟨(λb=>ren [(5,2),(4,3)]<|K146 b),ad,ac,aa,ab,(by simp only[hn25]),((hE.stp<|T8 S3 S7 S11 S16 S23 S142 S147 S151).map (ren [(5,2),(4,3)]) R R),((f148.stp S151).map (ren [(5,2),(4,3)]) R R),((f24.stp<|T3 S142 S147 S151).map (ren [(5,2),(4,3)]) R R)⟩
theorem qa {p0:Sig}{ab ac aa ad}{p1:Det}(g1_0:Rd (Rp.sl (Rp.int .i64)) κ w 0 ab ac p1.Next) (g1_1:Rd Pair.rp κ w 0 aa ad p1.Pairs){r:Bool}(h:mV p0 p1=some r):Ret Tryz.prog 119 [.agg #[vi p0.In,vi p0.Out],.agg #[.slice ab p1.Next.length ac,.slice aa p1.Pairs.length ad]] w (Pvb κ w r):=by
 unfold mV at h
 refine Jk3 κ F119 R N119 R λhE=>Je [1,1,2] R<|Js3 (κ:=κ) 2 R λb2 w1 K2 S3 f4=>Tv<|Js3 (κ:=K2) 3 R λb3 w5 K6 S7 f8=>Tv<|Jb 1 R<|Je [2,1,2,2] R<|Jd3 R U71 R Z31<|Jb3 R I31 (f8.ld 0 R R)<|Jn3 R U31 R R<|Jb 1 R<|Jq<|Jg3 [2,2,2,2,2,2,2,2,1,2,1,2,2] 3 R<|Ob h λp16 h hK9=>Jq3 [2,3,5] (λE L w'=>L=(16,.bool p16)::E/\∃κ',Stp [] K6 w5 κ' w') [(3,2),(4,2),(5,2)] [(6,2),(7,2),(8,1),(9,2),(10,1),(11,2),(12,2)] tv ?_ ?_
 revert h
 cases ht10:decide ((p1.Next.length:Int)<1)
 refine JF λh=>Jn 3 R ?_
 cases h
 exact Jv1 _ tv ⟨R,_,Jj3⟩<|KM R
 refine JT λh=>Jn 3 R ?_
 cases h
 exact Jv1 _ tv ⟨R,_,Jj3⟩<|KM R
 rintro _ w11 _ ⟨rfl,K12,S13⟩
 have h:=hK9
 refine Jn 1 R<|Ob h λp23 h hK14=>Jq3 [2,3,5] (λE L w'=>L=(23,.bool p23)::E/\∃κ',Stp [] K12 w11 κ' w') [(7,2),(8,1),(9,2),(10,1),(11,2),(12,2)] [] tv ?_ ?_
 revert h
 cases ht15:p16
 refine JF λh=>Jd3 R U71 R Z69<|Jb3 R I69 ((f8.stp S13).ld 1 R R)<|Jn 1 R<|Ob h λx21 hx21 h=>Jr3 R C185 (m9 (κ:=Mk K12) (Ji3<|g1_1.stp<|T3 S3 S7 S13) hx21) ?_
 rintro _ w18 ⟨k19,rfl,e20⟩
 obtain⟨K21,S22,m23⟩:=Ji e20 4 R
 refine Tv<|Jn 2 R ?_
 cases h
 exact Jv1 _ tv ⟨R,_,S22.wk R⟩<|KM R
 refine JT λh=>Jn 1 R<|Jz3 R<|Jn 1 R<|Jz3 R<|Jn 2 R ?_
 cases h
 exact Jv1 _ tv ⟨R,_,Jj3⟩<|KM R
 rintro _ w25 _ ⟨rfl,K26,S27⟩
 have h:=hK14
 refine Jd ?_
 revert h
 cases ht28:p23
 refine JF λh=>Jy R<|Js<|Jp<|Jq<|Je [2,1,2,2] R<|Jd3 R U71 R Z31<|Jb3 R I31 ((f8.stp<|S13.tr S27).ld 0 R R)<|Jn3 R U31 R R<|Jb 1 R ?_
 have hN31:(p1.Next.length:Int)<=9223372036854775807:=g1_0.len_le
 refine Ob h λq2 hq33 hK32=>?_
 clear h
 refine Jx1 (λL w'=>∃κ',L=[]/\Stp [] K26 w25 κ' w'/\q2=yD ()) ?_ ?_
 refine Jv<|Jp3 [2,5,25,26] (λk E L w'=>∃κ' v27,L=(27,vi v27)::E/\Stp [] K26 w25 κ' w'/\0<=v27/\yG ((p1.Next.length:Int)-v27)=k/\cntM (kc p0 p1) k v27 ()=some q2) ⟨_,_,⟨K26,0,R,Jj3,(by decide),(by simp),hq33⟩,(KM R)⟩ ?_
 rintro k _ w37 ⟨K38,v27,rfl,S39,hj31,hJ31,h⟩
 rcases k with _ | k
 have hk40:=h;obtain⟨o31,h⟩:=bT (yD (yE ()):Bool⊕((Unit)⊕(Unit)))
 have hc31:decide (v27<(p1.Next.length:Int))=false:=Jo2 (by omega)
 refine Je3 R<|Jq<|Jw2 R hc31<|Jc1<|Jt<|Jt ?_
 cases h
 have h:=hk40
 refine Jb1 ?_
 cases h
 exact Jw1 _ ⟨K38,R,S39.wk R,R⟩ KN
 obtain⟨o31,h,hk40⟩:=BI h;unfold kc at h
 have hc31:decide (v27<(p1.Next.length:Int))=true:=Jn2 (by omega)
 refine Je3 R<|Jq<|Jv2 R hc31<|Js<|Jp<|Jq<|Jv<|Je [2,1,2] R<|Ob h λx29 hx29 h=>Jc3 R g1_0 hx29 U31 Z37 ?_
 obtain⟨ax29,ux29,f42,hl43⟩:=(g1_0.stp (T5 S3 S7 S13 S27 S39)).gSl hx29
 refine Jb3 R I37 hl43<|Jb 1 R<|Jg3 [2,2,1,1,2,2,2,2,1,2,2] 1 R<|Jn3 R U37 R R<|Jb4 tv R (Jc4 (haE (f4.stp<|T4 S7 S13 S27 S39).cells) I28 Z28 R)<|Ob h λx34 hx34 h=>Jr3 R C103 (fO (κ:=Mk K38) (p0:=p0) hx34) ?_
 rintro _ w45 ⟨k46,rfl,e47⟩
 obtain⟨K48,S49,m50⟩:=Ji e47 4 R
 refine Tv<|Jn 2 R<|Ob h λp41 h hK52=>Jq3 [2,5,25,26,27] (λE L w'=>L=(41,.bool p41)::E/\∃κ',Stp [] K48 w45 κ' w') [(6,2),(7,2),(8,1),(9,2),(10,2)] [] tv ?_ ?_
 revert h
 cases ht53:((x29.length:Int) !=x34)
 refine JF λh=>Jn 2 R<|Ob h λx39 hx39 h=>Jr3 R C159 (oW (κ:=Mk K48) (Ji3<|f42.stp S49) hx39) ?_
 rintro _ w55 ⟨k56,rfl,e57⟩
 obtain⟨K58,S59,m60⟩:=Ji e57 6 R
 refine Tv<|Jn 2 R ?_
 cases h
 exact Jv1 _ tv ⟨R,_,S59.wk R⟩<|KM R
 refine JT λh=>Jn 2 R<|Jz3 R<|Jn 2 R ?_
 cases h
 exact Jv1 _ tv ⟨R,_,Jj3⟩<|KM R
 rintro _ w62 _ ⟨rfl,K63,S64⟩
 have h:=hK52
 refine Jd ?_
 revert h
 cases ht65:p41
 refine JF λh=>Jy R<|Js<|Jz<|Jp<|Jf3 R ?_
 have hw31:yC .i64 (v27+1)=v27+1:=wr1 hj31 (Jm2 hc31) hN31
 rw[hw31]
 have hc31:=Jm2 hc31
 cases h
 exact Jz1 λa ha=>⟨k,_,Ja3 _,⟨K63,v27+1,R,(T3 S39 S49 S64).wk R,by omega,by omega,hk40⟩,(ha.mm R)⟩
 refine JT λh=>Jx R<|Je3 R<|Ju<|Ja1<|Jw<|Jw ?_
 cases h
 obtain rfl:=Option.some.inj hk40
 have h:=yL hK32
 refine Ja1<|Jq2<|Jw<|Ja2 (l:=[.tmp 4]) V119 (Jp2 R R) R ?_
 cases h
 exact⟨K63,R,(hE.stp<|T7 S3 S7 S13 S27 S39 S49 S64)⟩
 rintro _ w34 ⟨K35,rfl,S36,rfl⟩
 have h:=yI hK32
 refine Jp<|Je3 R<|Ju<|Ja2 (l:=[.tmp 4]) V119 (Jp2 R R) R ?_
 cases h
 exact⟨K35,R,(hE.stp<|T5 S3 S7 S13 S27 S36)⟩
 refine JT λh=>Jx R<|Je3 R<|Ju<|Jw<|Ja2 (l:=[.tmp 4]) V119 (Jp2 R R) R ?_
 cases h
 exact⟨K26,R,(hE.stp<|T4 S3 S7 S13 S27)⟩
theorem lZ {p0:Sig}{a1 u1}{p1:(List Clause)}(g1:Rd Clause.rp κ w 0 a1 u1 p1){r:Bool}(h:eE p0 p1=some r):Ret Tryz.prog 75 [.agg #[vi p0.In,vi p0.Out],.slice a1 p1.length u1] w (Pvb κ w r):=by
 unfold eE at h
 refine Jk3 κ F75 R N75 R λhE=>Je [1,2] R<|Js3 (κ:=κ) 2 R λb2 w1 K2 S3 f4=>Tv<|Jb 1 R<|Jq<|Je [1,1,2,2,2,2,2,2] R<|Jb4 tv R (Jc4 (haE f4.cells) I28 Z28 R)<|Ob h λx7 hx7 h=>Jr3 R C58 (gz (κ:=Mk K2) (p0:=p0) hx7) ?_
 rintro _ w5 ⟨k6,rfl,e7⟩
 obtain⟨K8,S9,m10⟩:=Ji e7 3 R
 refine Tv<|Jn 2 R<|Ob h λp13 h hK12=>Jq3 [1,2] (λE L w'=>L=(13,.bool p13)::E/\∃κ',Stp [] K8 w5 κ' w') [(4,2),(5,2),(6,2),(7,2)] [] tv ?_ ?_
 revert h
 cases ht13:(!x7)
 refine JF λh=>Jn 1 R<|Jn3 R U29 R R<|Jn 2 R ?_
 cases h
 exact Jv1 _ tv ⟨R,_,Jj3⟩<|KM R
 refine JT λh=>Jn 4 R ?_
 cases h
 exact Jv1 _ tv ⟨R,_,Jj3⟩<|KM R
 rintro _ w14 _ ⟨rfl,K15,S16⟩
 have h:=hK12
 refine Jd ?_
 revert h
 cases ht17:p13
 refine JF λh=>Jy R<|Js<|Jp<|Jq<|Je3 R ?_
 have hN19:(p1.length:Int)<=9223372036854775807:=g1.len_le
 refine Ob h λq2 hq21 hK20=>?_
 clear h
 refine Jx1 (λL w'=>∃κ',L=[]/\Stp [] K15 w14 κ' w'/\q2=yD ()) ?_ ?_
 refine Jv<|Jp3 [1,2] (λk E L w'=>∃κ' v5,L=(5,vi v5)::E/\Stp [] K15 w14 κ' w'/\0<=v5/\yG ((p1.length:Int)-v5)=k/\cntM (fp p0 p1) k v5 ()=some q2) ⟨_,_,⟨K15,0,R,Jj3,(by decide),(by simp),hq21⟩,(KM R)⟩ ?_
 rintro k _ w25 ⟨K26,v5,rfl,S27,hj19,hJ19,h⟩
 rcases k with _ | k
 have hk28:=h;obtain⟨o19,h⟩:=bT (yD (yE ()):Bool⊕((Unit)⊕(Unit)))
 have hc19:decide (v5<(p1.length:Int))=false:=Jo2 (by omega)
 refine Jq<|Jg3 [2,2,2,2] 2 R<|Jn3 R U29 R R<|Jb 1 R<|Jw2 R hc19<|Jc1<|Jt<|Jt ?_
 cases h
 have h:=hk28
 refine Jb1 ?_
 cases h
 exact Jw1 _ ⟨K26,R,S27.wk R,R⟩ KN
 obtain⟨o19,h,hk28⟩:=BI h;unfold fp at h
 have hc19:decide (v5<(p1.length:Int))=true:=Jn2 (by omega)
 refine Jq<|Jg3 [2,2,2,2] 2 R<|Jn3 R U29 R R<|Jb 1 R<|Jv2 R hc19<|Js<|Jp<|Jq<|Jv<|Jq<|Js1 (κ:=K26) [0,2] none [(1,2),(2,2),(3,2),(0,0),(4,0),(5,1),(6,2)] [] (by kernel_rfl) (by kernel_rfl) λw30 S29=>Jn 2 R<|Ob h λx23 hx23 h=>Jc3 R g1 hx23 U29 Z67<|Jg R (Jc4 (haC (f4.stp<|T4 S9 S16 S27 S29).cells R) I28 Z28 R) ?_
 obtain⟨cse33,hre33,hle33⟩:=((g1.stp (T5 S3 S9 S16 S27 S29))).gSt hx23
 obtain⟨ae33_0,ue33_0,ae33_1,ue33_1,rfl,fe33_0,fe33_1⟩:=Clause.un hre33
 refine Jg R (Jc4 (haC hle33 R) I67 Z67 R)<|Ob h λx25 hx25 h=>Jr3 R C150 (kz (κ:=Mk K26) (p0:=p0) (p1:=x23) (Ji3 fe33_0) (Ji3 fe33_1) hx25) ?_
 rintro _ w34 ⟨k35,rfl,e36⟩
 obtain⟨K37,S38,m39⟩:=Ji e36 5 R
 refine⟨(S38.cl R),Jn 1 R<|Jt1<|Jd ?_⟩
 revert h
 cases ht41:(!x25)
 refine JF λh=>Jy R<|Js<|Jz<|Jp<|Jf3 R ?_
 have hw19:yC .i64 (v5+1)=v5+1:=wr1 hj19 (Jm2 hc19) hN19
 rw[hw19]
 have hc19:=Jm2 hc19
 cases h
 exact Jz1 λa ha=>⟨k,_,Ja3 _,⟨K37,v5+1,R,(T3 S27 S29 S38).wk R,by omega,by omega,hk28⟩,(ha.mm R)⟩
 refine JT λh=>Jx R<|Je3 R<|Ju<|Ja1<|Jw<|Jw ?_
 cases h
 obtain rfl:=Option.some.inj hk28
 have h:=yL hK20
 refine Ja1<|Jq2<|Jw<|Ja2 (l:=[.tmp 4]) V75 (Jp2 R R) R ?_
 cases h
 exact⟨K37,R,(hE.stp<|T6 S3 S9 S16 S27 S29 S38)⟩
 rintro _ w22 ⟨K23,rfl,S24,rfl⟩
 have h:=yI hK20
 refine Jp<|Je3 R<|Ju<|Ja2 (l:=[.tmp 4]) V75 (Jp2 R R) R ?_
 cases h
 exact⟨K23,R,(hE.stp<|T4 S3 S9 S16 S24)⟩
 refine JT λh=>Jx R<|Je3 R<|Ju<|Jw<|Ja2 (l:=[.tmp 4]) V75 (Jp2 R R) R ?_
 cases h
 exact⟨K15,R,(hE.stp<|T3 S3 S9 S16)⟩
theorem mn {p0:Sig}{aw av ar au}{p1:Clause}(g1_1:Rd (Rp.int .i64) κ w 0 aw av p1.A) (g1_2:Rd (Rp.int .i64) κ w 0 ar au p1.B){r:Det}(h:jk p0 p1=some r):Ret Tryz.prog 122 [.agg #[vi p0.In,vi p0.Out],.agg #[vi p1.Kind,.slice aw p1.A.length av,.slice ar p1.B.length au]] w (λv w'=>∃(κ':Col) (ra0:Option Addr) (ru0:Nat) (ra1:Option Addr) (ru1:Nat),v= .agg #[.slice ra0 r.Next.length ru0,.slice ra1 r.Pairs.length ru1]/\Ent κ w κ' w'/\Oc (Ep.own E6 2) 37 κ' w' 2 ra0 ru0 r.Next/\Oc Pair.ep127 127 κ' w' 3 ra1 ru1 r.Pairs):=by
 unfold jk at h
 refine Jk3 κ F122 R N122 R λhE=>Je [1,1,1] R<|Js3 (κ:=κ) 2 R λb2 w1 K2 S3 f4=>Tv<|Js3 (κ:=K2) 3 R λb3 w5 K6 S7 f8=>Tv<|Jt3 (κ:=K6) 4 R X71 R λb4 w9 K10 S11 f12=>Tv<|Jd<|Jq<|Je [1,1,1,2] R ?_
 have f13:=f4.stp (S7.tr S11)
 refine Jb4 tv R (Jc4 (haE f13.cells) I28 Z28 R) ?_
 have f14:=f8.stp S11
 refine Jb4 tv R (Jc4 (haE f14.cells) I67 Z67 R)<|Ob h λx11 hx11 h=>?_
 have f15:=g1_1.stp (T3 S3 S7 S11)
 have f16:=g1_2.stp (T3 S3 S7 S11)
 refine Jr3 R C150 (kz (κ:=Mk K10) (p0:=p0) (p1:=p1) (Ji3 f15) (Ji3 f16) hx11) ?_
 rintro _ w17 ⟨k18,rfl,e19⟩
 obtain⟨K20,S21,m22⟩:=Ji e19 5 R
 refine Tv<|Jb 1 R ?_
 revert h
 cases ht24:(!x11)
 refine JF λh=>Jy R<|Js<|Jp<|Je [2,1,1,1,2,1,1] R<|Jd3 R U67 R Z2 ?_
 have f30:=f14.stp S21
 refine Jb3 R I2 (f30.ld 0 R R)<|Ob h λx16 hx16 h=>Jr3 R C187 (rP (κ:=Mk K20) hx16) ?_
 rintro _ w31 ⟨k32,ap,aq,ao,al,rfl,e33,f34,f35⟩
 obtain⟨K36,S37,m38⟩:=Ji e33 7 R
 refine Tv<|Jw3 (κ:=K36) (E:=Pair.ep127) 11 [9,10] (parts:=[(0,.tmp 16)]) (cells:=[.slice ap x16.Ask.length aq,.slice ao x16.Give.length al]) (xs:=([x16]:List Pair)) R Y69 cw R ⟨[.slice ap x16.Ask.length aq,.slice ao x16.Give.length al],[],Zl K36 w31 [9,10],Zl K36 w31 [],R,Zl.sp (l1:=[9,10]) (l2:=[]) R,Zl.sr (l1:=[9,10]) (l2:=[]),⟨[.slice ap x16.Ask.length aq],[.slice ao x16.Give.length al],Zl K36 w31 [9],Zl K36 w31 [10],R,Zl.sp (l1:=[9]) (l2:=[10]) R,Zl.sr (l1:=[9]) (l2:=[10]),⟨_,_,R,(f34.mx (bL _) m38 R (R:7+2=9))⟩,⟨_,_,R,(f35.mx (bL _) m38 R (R:7+3=10))⟩⟩,R⟩ λab aa w42 K43 S44 f45=>Tv<|Jf R (bK (parts:=[(1,.tmp 17)]) (cells:=[.slice none 0 0,.slice ab ([x16]:List Pair).length aa]) R R (by kernel_rfl))<|Jt3 (κ:=K43) 12 R X71 R λb5 w46 K47 S48 f49=>Tv<|Jv3 (κ:=K47) 12 (vc:=[.slice none 0 0,.slice ab ([x16]:List Pair).length aa]) R Z71 R f49 R λw50 S51 f52=>Tv<|Jd<|Jq<|Je3 R<|Ob h λq2 hq55 hK54=>?_
 clear h
 refine Jo3 [4,5] (λE L w'=>∃κ',∃s3:Int×(List<|List Int),∃ac ad,L=E/\Stp [12,13,16,17] K47 w50 κ' w'/\Oc (Ep.own E6 2) 37 κ' w' 13 ac ad s3.2/\Bc κ' w' 12 b5 71 [.slice ac s3.2.length ad,.slice ab ([x16]:List Pair).length aa]/\q2=yD s3) ?_ ?_
 refine Jv<|Jp3 [2,3,4,5] (λk E L w'=>∃κ',∃s1:Int×(List<|List Int),∃aj ah,L=(6,vi s1.1)::E/\Stp [12,13,16,17] K47 w50 κ' w'/\Oc (Ep.own E6 2) 37 κ' w' 13 aj ah s1.2/\Bc κ' w' 12 b5 71 [.slice aj s1.2.length ah,.slice ab ([x16]:List Pair).length aa]/\ca (fB p0 p1) k s1=some q2) ⟨_,_,⟨K47,((0:Int),(([]:List (List Int)):(List<|List Int))),none,0,R,Jj3,Ow.nil,f52,hq55⟩,(KM R)⟩ ?_
 rintro k _ w61 ⟨K62,s1,aj,ah,rfl,S63,f64,f65,h⟩
 rcases k with _ | k
 cases h
 obtain⟨o53,h,hk66⟩:=BI h;unfold fB at h
 refine Jq<|Jg3 [2,2,1,1,2] 1 R<|Jd3 R U67 R Z2 ?_
 have f67:=f30.stp (T5 S37 S44 S48 S51 S63)
 refine Jb3 R I2 (f67.ld 0 R R)<|Ob h λx22 hx22 h=>Jr3 R C188 (pA (κ:=Mk K62) hx22) ?_
 rintro _ w68 ⟨k69,rfl,e70⟩
 obtain⟨K71,S72,m73⟩:=Ji e70 14 R
 refine Tv<|Jb 1 R ?_
 revert h
 cases ht75:decide (s1.1<x22)
 refine JF λh=>Jy R<|Jc1<|Jt<|Jt ?_
 cases h
 have h:=hk66
 refine Jb1 ?_
 cases h
 exact Jw1 _ ⟨K71,(s1.1,s1.2),aj,ah,R,(S63.tr S72).wk R,(f64.stp S72),(f65.stp S72),R⟩<|KM R
 refine JT λh=>Jx R<|Js<|Jp<|Jq<|Jv<|Je [1,2] R<|Jx3 (κ:=K71) (E:=E6) 16 R Y37 bG R λax az w76 K77 S78 f79=>Tv<|Jb 1 R<|Jq<|Je3 R<|Ob h λq5 hq82 hK81=>?_
 clear h
 refine Jo3 [2,3,4,5,6] (λE L w'=>∃κ',∃s6:(List Int)×Int,∃af ae,L=(7,.slice af s6.1.length ae)::E/\Stp [16] K77 w76 κ' w'/\Oc E6 2 κ' w' 16 af ae s6.1/\q5=yD s6) ?_ ?_
 refine Jv<|Jp3 [2,3,4,5,6] (λk E L w'=>∃κ',∃s4:(List Int)×Int,∃ak ai,L=(7,.slice ak s4.1.length ai)::(8,vi s4.2)::E/\Stp [16] K77 w76 κ' w'/\Oc E6 2 κ' w' 16 ak ai s4.1/\ca (fJ p0 p1 s1) k s4=some q5) ⟨_,_,⟨K77,((([]:List Int):(List Int)),(0:Int)),ax,az,R,Jj3,f79,hq82⟩,(KM R)⟩ ?_
 rintro k _ w87 ⟨K88,s4,ak,ai,rfl,S89,f90,h⟩
 rcases k with _ | k
 cases h
 obtain⟨o80,h,hk91⟩:=BI h;unfold fJ at h
 refine Jq<|Jg3 [2,1,1,2] 1 R<|Jb4 tv R (Jc4 (haE (f13.stp<|T9 S21 S37 S44 S48 S51 S63 S72 S78 S89).cells) I28 Z28 R)<|Ob h λx29 hx29 h=>Jr3 R C120 (eu (κ:=Mk K88) (p0:=p0) hx29) ?_
 rintro _ w93 ⟨k94,rfl,e95⟩
 obtain⟨K96,S97,m98⟩:=Ji e95 17 R
 refine Tv<|Jb 1 R ?_
 revert h
 cases ht100:decide (s4.2<x29)
 refine JF λh=>Jy R<|Jc1<|Jt<|Jt ?_
 cases h
 have h:=hk91
 refine Jb1 ?_
 cases h
 exact Jw1 _ ⟨K96,(s4.1,s4.2),ak,ai,R,(S89.tr S97).wk R,(f90.stp S97),R⟩<|KM R
 have S001:=(T10 S21 S37 S44 S48 S51 S63 S72 S78 S89 S97)
 refine JT λh=>Jx R<|Js<|Jp<|Jq<|Jv<|Jh3 [2,1,2,2,1,1,1,2] 1 R<|Jb4 tv R (Jc4 (haE (f67.stp<|T4 S72 S78 S89 S97).cells) I67 Z67 R)<|Jn 2 R<|Ob h λx37 hx37 h=>Jr3 R C189 (rK (κ:=Mk K96) (p0:=p1) (Ji3<|f15.stp S001) (Ji3<|f16.stp S001) hx37) ?_
 rintro _ w104 ⟨k105,rfl,e106⟩
 obtain⟨K107,S108,m109⟩:=Ji e106 19 R
 refine Tv<|Jw3 (κ:=K107) (E:=E6) 21 [] (parts:=[(0,.tmp 37)]) (cells:=[vi x37]) (xs:=([x37]:List Int)) R Y37 bG R ⟨[vi x37],[],Zl K107 w104 [],Zl K107 w104 [],R,Zl.sp (l1:=[]) (l2:=[]) R,Zl.sr (l1:=[]) (l2:=[]),R,R⟩ λaD aB w111 K112 S113 f114=>Tv<|Ob h λx39 hx39 h=>Jy3 (κ:=K112) (E:=E6) 16 [] R Y37 bG R (f90.stp<|T3 S97 S108 S113) (Sl.srcP (bP _) f114.rdc) bI hx39 R λaA ay w116 K117 S118 f119=>Tv<|Jc 1 R<|Jz<|Jp<|Jf3 R ?_
 cases h
 exact Jz1 λa ha=>⟨k,_,Ja3 _,⟨K117,(x39,((IntKind.i64.wrap<|s4.2+1):Int)),aA,ay,R,(T5 S89 S97 S108 S113 S118).wk R,f119,hk91⟩,(ha.mm R)⟩
 rintro _ w83 ⟨K84,s6,af,ae,rfl,S85,f86,rfl⟩
 have h:=yI hK81
 refine Jp<|Ja [2,1,2,1,1,2,1] R<|Jd3 R U71 R Z31 ?_
 have f121:=f65.stp (T3 S72 S78 S85)
 refine Jb3 R I31 (f121.ld 0 R R)<|Jn 1 R<|Jw3 (κ:=K84) (E:=(Ep.own E6 2)) 17 [16] (parts:=[(0,.tmp 42)]) (cells:=[.slice af s6.1.length ae]) (xs:=([s6.1]:List (List Int))) R Y31 bQ R ⟨[.slice af s6.1.length ae],[],Zl K84 w83 [16],Zl K84 w83 [],R,Zl.sp (l1:=[16]) (l2:=[]) R,Zl.sr (l1:=[16]) (l2:=[]),⟨_,_,R,f86⟩,R⟩ λaE aC w122 K123 S124 f125=>Tv<|Ob h λx44 hx44 h=>Jy3 (κ:=K123) (E:=(Ep.own E6 2)) 13 [17] R Y31 bQ R (f64.stp<|T4 S72 S78 S85 S124) f125.src (dE R) hx44 R λan am w127 K128 S129 f130=>Tv<|Jd3 R U71 R Z31<|Ju3 (κ:=K128) 12 (off:=0) (vc:=[.slice an x44.length am]) (cs':=[.slice an x44.length am,.slice ab ([x16]:List Pair).length aa]) R Z31 R (f121.stp<|S124.tr S129) R λw132 S133 f134=>Tv<|Jo<|Jz<|Jp<|Jf3 R ?_
 cases h
 exact Jz1 λa ha=>⟨k,_,Ja3 _,⟨K128,(((IntKind.i64.wrap<|s1.1+1):Int),x44),an,am,R,(T7 S63 S72 S78 S85 S124 S129 S133).wk R,(f130.stp S133),f134,hk66⟩,(ha.mm R)⟩
 rintro _ w56 ⟨K57,s3,ac,ad,rfl,S58,f59,f60,rfl⟩
 have h:=yI hK54
 refine Jp<|Je [1,1] R<|Jb4 tv R (Jc4 (haE f60.cells) I71 Z71 R)<|Jv3 (κ:=K57) 4 (vc:=[.slice ac s3.2.length ad,.slice ab ([x16]:List Pair).length aa]) R Z71 R (f12.stp<|T6 S21 S37 S44 S48 S51 S58) R λw139 S140 f141=>Tv<|Jd<|Ju<|Ja2 (l:=[.cell 4 71]) V122 (bM R f141 I71 Z71 R R) R ?_
 cases h
 exact⟨(λb=>ren [(13,2),(11,3)]<|K57 b),ac,ad,ab,aa,R,((hE.stp<|T10 S3 S7 S11 S21 S37 S44 S48 S51 S58 S140).map (ren [(13,2),(11,3)]) R R),((f59.stp S140).map (ren [(13,2),(11,3)]) R R),((f45.stp<|T4 S48 S51 S58 S140).map (ren [(13,2),(11,3)]) R R)⟩
 refine JT λh=>Jx R<|Je [2,1] R<|Jf R (bK (parts:=[]) (cells:=[.slice none 0 0,.slice none 0 0]) R R (by kernel_rfl))<|Jv3 (κ:=K20) 4 (vc:=[.slice none 0 0,.slice none 0 0]) R Z71 R (f12.stp S21) R λw26 S27 f28=>Tv<|Jd<|Ju<|Jw<|Ja2 (l:=[.cell 4 71]) V122 (bM R f28 I71 Z71 R R) R ?_
 cases h
 exact⟨K20,none,0,none,0,R,(hE.stp<|T5 S3 S7 S11 S21 S27),Ow.nil,Ow.nil⟩
theorem nW {a0 u0}{p0:(List Pair)}{p1:Int}(g0:Rd Pair.rp κ w 0 a0 u0 p0){r:Bool}(h:jz p0 p1=some r):Ret Tryz.prog 133 [.slice a0 p0.length u0,vi p1] w (Pvb κ w r):=by
 unfold jz at h
 refine Jk3 κ F133 R N133 R λhE=>Je3 R<|Jq<|Jg3 [2,1,2,2,2,2,2,2] 1 R<|Ob h λx7 hx7 h=>Jr3 R C59 (cX (κ:=Mk κ) hx7) ?_
 rintro _ w1 ⟨k2,rfl,e3⟩
 obtain⟨K4,S5,m6⟩:=Ji e3 2 R
 refine Tv<|Jn 2 R<|Ob h λp13 h hK8=>Jq3 [0,1] (λE L w'=>L=(13,.bool p13)::E/\∃κ',Stp [] K4 w1 κ' w') [(4,2),(5,2),(6,2),(7,2)] [] tv ?_ ?_
 revert h
 cases ht9:(!x7)
 refine JF λh=>Jn 1 R<|Jn3 R U69 R R<|Jn 2 R ?_
 cases h
 exact Jv1 _ tv ⟨R,_,Jj3⟩<|KM R
 refine JT λh=>Jn 4 R ?_
 cases h
 exact Jv1 _ tv ⟨R,_,Jj3⟩<|KM R
 rintro _ w10 _ ⟨rfl,K11,S12⟩
 have h:=hK8
 refine Jd ?_
 revert h
 cases ht13:p13
 refine JF λh=>Jy R<|Js<|Jp<|Jq<|Je3 R ?_
 have hN15:(p0.length:Int)<=9223372036854775807:=g0.len_le
 refine Ob h λq2 hq17 hK16=>?_
 clear h
 refine Jx1 (λL w'=>∃κ',L=[]/\Stp [] K11 w10 κ' w'/\q2=yD ()) ?_ ?_
 refine Jv<|Jp3 [0,1] (λk E L w'=>∃κ' v5,L=(5,vi v5)::E/\Stp [] K11 w10 κ' w'/\0<=v5/\yG ((p0.length:Int)-v5)=k/\cntM (gV p0 p1) k v5 ()=some q2) ⟨_,_,⟨K11,0,R,Jj3,(by decide),(by simp),hq17⟩,(KM R)⟩ ?_
 rintro k _ w21 ⟨K22,v5,rfl,S23,hj15,hJ15,h⟩
 rcases k with _ | k
 have hk24:=h;obtain⟨o15,h⟩:=bT (yD (yE ()):Bool⊕((Unit)⊕(Unit)))
 have hc15:decide (v5<(p0.length:Int))=false:=Jo2 (by omega)
 refine Jq<|Jg3 [2,2,2,2] 2 R<|Jn3 R U69 R R<|Jb 1 R<|Jw2 R hc15<|Jc1<|Jt<|Jt ?_
 cases h
 have h:=hk24
 refine Jb1 ?_
 cases h
 exact Jw1 _ ⟨K22,R,S23.wk R,R⟩ KN
 obtain⟨o15,h,hk24⟩:=BI h;unfold gV at h
 have hc15:decide (v5<(p0.length:Int))=true:=Jn2 (by omega)
 refine Jq<|Jg3 [2,2,2,2] 2 R<|Jn3 R U69 R R<|Jb 1 R<|Jv2 R hc15<|Js<|Jp<|Jq<|Jv<|Jg3 [2,2,2,2,1,2,1,2,2,2,2,2,2,1,2,1,2,2] 2 R<|Ob h λx22 hx22 h=>Jc3 R g0 hx22 U69 Z127<|Jd3 R U127 R Z37 ?_
 have f25:=g0.stp (T3 S5 S12 S23)
 obtain⟨cse26,hre26,hle26⟩:=(f25).gSt hx22
 obtain⟨ae26_0,ue26_0,ae26_1,ue26_1,rfl,fe26_0,fe26_1⟩:=Pair.un hre26
 refine Jb3 R I37 (λw' hw'=>hle26 w' hw' 0 _ R)<|Jn 1 R<|Ob h λx26 hx26 h=>Jr3 R C80 (ni (κ:=Mk K22) (Ji3 fe26_0) hx26) ?_
 rintro _ w27 ⟨k28,rfl,e29⟩
 obtain⟨K30,S31,m32⟩:=Ji e29 4 R
 refine Tv<|Jn 2 R<|Ob h λp37 h hK34=>Jq3 [0,1,5] (λE L w'=>L=(37,.bool p37)::E/\∃κ',Stp [] K30 w27 κ' w') [(9,2),(10,2),(11,2),(12,2),(13,1),(14,2),(15,1),(16,2),(17,2)] [] tv ?_ ?_
 revert h
 cases ht35:(!x26)
 refine JF λh=>Jn 2 R<|Ob h λx31 hx31 h=>Jc3 R f25 hx31 U69 Z127<|Jd3 R U127 R Z37 ?_
 obtain⟨cse37,hre37,hle37⟩:=((f25.stp S31)).gSt hx31
 obtain⟨ae37_0,ue37_0,ae37_1,ue37_1,rfl,fe37_0,fe37_1⟩:=Pair.un hre37
 refine Jb3 R I37 (λw' hw'=>hle37 w' hw' 1 _ R)<|Jn 1 R<|Ob h λx35 hx35 h=>Jr3 R C80 (ni (κ:=Mk K30) (Ji3 fe37_1) hx35) ?_
 rintro _ w38 ⟨k39,rfl,e40⟩
 obtain⟨K41,S42,m43⟩:=Ji e40 6 R
 refine Tv<|Jn 2 R ?_
 cases h
 exact Jv1 _ tv ⟨R,_,S42.wk R⟩<|KM R
 refine JT λh=>Jn 4 R<|Jz3 R<|Jn 1 R<|Jz3 R<|Jn 2 R ?_
 cases h
 exact Jv1 _ tv ⟨R,_,Jj3⟩<|KM R
 rintro _ w45 _ ⟨rfl,K46,S47⟩
 have h:=hK34
 refine Jd ?_
 revert h
 cases ht48:p37
 refine JF λh=>Jy R<|Js<|Jz<|Jp<|Jf3 R ?_
 have hw15:yC .i64 (v5+1)=v5+1:=wr1 hj15 (Jm2 hc15) hN15
 rw[hw15]
 have hc15:=Jm2 hc15
 cases h
 exact Jz1 λa ha=>⟨k,_,Ja3 _,⟨K46,v5+1,R,(T3 S23 S31 S47).wk R,by omega,by omega,hk24⟩,(ha.mm R)⟩
 refine JT λh=>Jx R<|Je3 R<|Ju<|Ja1<|Jw<|Jw ?_
 cases h
 obtain rfl:=Option.some.inj hk24
 have h:=yL hK16
 refine Ja1<|Jq2<|Jw<|Ja2 (l:=[.tmp 4]) V133 (Jp2 R R) R ?_
 cases h
 exact⟨K46,R,(hE.stp<|T5 S5 S12 S23 S31 S47)⟩
 rintro _ w18 ⟨K19,rfl,S20,rfl⟩
 have h:=yI hK16
 refine Jp<|Je3 R<|Ju<|Ja2 (l:=[.tmp 4]) V133 (Jp2 R R) R ?_
 cases h
 exact⟨K19,R,(hE.stp<|T3 S5 S12 S20)⟩
 refine JT λh=>Jx R<|Je3 R<|Ju<|Jw<|Ja2 (l:=[.tmp 4]) V133 (Jp2 R R) R ?_
 cases h
 exact⟨K11,R,(hE.stp<|S5.tr S12)⟩
theorem qA {ac ab aa af ad ae}{p0:Parity}(g0_0_0:Rd (Rp.int .i64) κ w 0 ac ab p0.Arena.Owner) (g0_0_1:Rd (Rp.sl (Rp.int .i64)) κ w 0 aa af p0.Arena.Next) (g0_1:Rd (Rp.int .i64) κ w 0 ad ae p0.Prio){r:Bool}(h:gx p0=some r):Ret Tryz.prog 138 [.agg #[.slice ac p0.Arena.Owner.length ab,.slice aa p0.Arena.Next.length af,.slice ad p0.Prio.length ae]] w (Pvb κ w r):=by
 unfold gx at h
 refine Jk3 κ F138 R N138 R λhE=>Je [1,2] R<|Js3 (κ:=κ) 2 R λb1 w1 K2 S3 f4=>Tv<|Jb 1 R<|Jq<|Je [2,1,1,2,2,2,1,2,2,2,1,2,2,2] R<|Jd3 R U79 R Z75<|Jb4 tv R (Jc4 (haE<|f4.lds 0 2 R) I75 Z75 R)<|Ob h λx6 hx6 h=>Jr3 R C132 (ny (κ:=Mk K2) (p0:=p0.Arena) (Ji3<|g0_0_0.stp S3) (Ji3<|g0_0_1.stp S3) hx6) ?_
 rintro _ w7 ⟨k8,rfl,e9⟩
 obtain⟨K10,S11,m12⟩:=Ji e9 3 R
 refine Tv<|Jn 2 R<|Ob h λp17 h hK14=>Jq3 [1] (λE L w'=>L=(17,.bool p17)::E/\∃κ',Stp [] K10 w7 κ' w') [(5,2),(6,1),(7,2),(8,2),(9,2),(10,1),(11,2),(12,2),(13,2)] [] tv ?_ ?_
 revert h
 cases ht15:(!x6)
 refine JF λh=>Jd3 R U79 R Z37 ?_
 have f16:=f4.stp S11
 refine Jb3 R I37 (f16.ld 2 R R)<|Jn3 R U37 R R<|Jd3 R U79 R Z75<|Jd3 R U75 R Z37<|Jb3 R I37 (f16.ld 0 R R)<|Jn3 R U37 R R<|Jn 2 R ?_
 cases h
 exact Jv1 _ tv ⟨R,_,Jj3⟩<|KM R
 refine JT λh=>Jn 1 R<|Jz3 R<|Jn 3 R<|Jz3 R<|Jn 3 R ?_
 cases h
 exact Jv1 _ tv ⟨R,_,Jj3⟩<|KM R
 rintro _ w17 _ ⟨rfl,K18,S19⟩
 have h:=hK14
 refine Jd ?_
 revert h
 cases ht20:p17
 refine JF λh=>Jy R<|Js<|Jp<|Jq<|Je3 R ?_
 have hN22:(p0.Prio.length:Int)<=9223372036854775807:=g0_1.len_le
 refine Ob h λq2 hq24 hK23=>?_
 clear h
 refine Jx1 (λL w'=>∃κ',L=[]/\Stp [] K18 w17 κ' w'/\q2=yD ()) ?_ ?_
 refine Jv<|Jp3 [1] (λk E L w'=>∃κ' v3,L=(3,vi v3)::E/\Stp [] K18 w17 κ' w'/\0<=v3/\yG ((p0.Prio.length:Int)-v3)=k/\cntM (gc p0) k v3 ()=some q2) ⟨_,_,⟨K18,0,R,Jj3,(by decide),(by simp),hq24⟩,(KM R)⟩ ?_
 rintro k _ w28 ⟨K29,v3,rfl,S30,hj22,hJ22,h⟩
 rcases k with _ | k
 have hk31:=h;obtain⟨o22,h⟩:=bT (yD (yE ()):Bool⊕((Unit)⊕(Unit)))
 have hc22:decide (v3<(p0.Prio.length:Int))=false:=Jo2 (by omega)
 refine Jq<|Jg3 [2,2,1,2,2] 1 R<|Jd3 R U79 R Z37<|Jb3 R I37 ((f4.stp<|T3 S11 S19 S30).ld 2 R R)<|Jn3 R U37 R R<|Jb 1 R<|Jw2 R hc22<|Jc1<|Jt<|Jt ?_
 cases h
 have h:=hk31
 refine Jb1 ?_
 cases h
 exact Jw1 _ ⟨K29,R,S30.wk R,R⟩ KN
 obtain⟨o22,h,hk31⟩:=BI h;unfold gc at h
 have hc22:decide (v3<(p0.Prio.length:Int))=true:=Jn2 (by omega)
 refine Jq<|Jg3 [2,2,1,2,2] 1 R<|Jd3 R U79 R Z37 ?_
 have f33:=f4.stp (T3 S11 S19 S30)
 refine Jb3 R I37 (f33.ld 2 R R)<|Jn3 R U37 R R<|Jb 1 R<|Jv2 R hc22<|Js<|Jp<|Jq<|Jv<|Je [2,1,2,2,1,1,2] R<|Jd3 R U79 R Z37<|Jb3 R I37 (f33.ld 2 R R)<|Jn 1 R<|Ob h λx28 hx28 h=>Jc3 R g0_1 hx28 U37 Z2<|Jb3 R I2 ((g0_1.stp<|T4 S3 S11 S19 S30).gInt hx28)<|Ob h λx30 hx30 h=>Jr3 R C59 (cX (κ:=Mk K29) hx30) ?_
 rintro _ w35 ⟨k36,rfl,e37⟩
 obtain⟨K38,S39,m40⟩:=Ji e37 5 R
 refine Tv<|Jb 1 R ?_
 revert h
 cases ht42:(!x30)
 refine JF λh=>Jy R<|Js<|Jz<|Jp<|Jf3 R ?_
 have hw22:yC .i64 (v3+1)=v3+1:=wr1 hj22 (Jm2 hc22) hN22
 rw[hw22]
 have hc22:=Jm2 hc22
 cases h
 exact Jz1 λa ha=>⟨k,_,Ja3 _,⟨K38,v3+1,R,(S30.tr S39).wk R,by omega,by omega,hk31⟩,(ha.mm R)⟩
 refine JT λh=>Jx R<|Je3 R<|Ju<|Ja1<|Jw<|Jw ?_
 cases h
 obtain rfl:=Option.some.inj hk31
 have h:=yL hK23
 refine Ja1<|Jq2<|Jw<|Ja2 (l:=[.tmp 2]) V138 (Jp2 R R) R ?_
 cases h
 exact⟨K38,R,(hE.stp<|T5 S3 S11 S19 S30 S39)⟩
 rintro _ w25 ⟨K26,rfl,S27,rfl⟩
 have h:=yI hK23
 refine Jp<|Je3 R<|Ju<|Ja2 (l:=[.tmp 2]) V138 (Jp2 R R) R ?_
 cases h
 exact⟨K26,R,(hE.stp<|T4 S3 S11 S19 S27)⟩
 refine JT λh=>Jx R<|Je3 R<|Ju<|Jw<|Ja2 (l:=[.tmp 2]) V138 (Jp2 R R) R ?_
 cases h
 exact⟨K18,R,(hE.stp<|T3 S3 S11 S19)⟩
theorem re {p0:Sig}{aa ac af ai}{p1:Clause}{ah ad ae ab}{p2:Word}(g1_1:Rd (Rp.int .i64) κ w 0 aa ac p1.A) (g1_2:Rd (Rp.int .i64) κ w 0 af ai p1.B) (g2_0:Rd (Rp.int .i64) κ w 0 ah ad p2.Stem) (g2_1:Rd (Rp.int .i64) κ w 0 ae ab p2.Loop){r:Bool}(h:kR p0 p1 p2=some r):Ret Tryz.prog 77 [.agg #[vi p0.In,vi p0.Out],.agg #[vi p1.Kind,.slice aa p1.A.length ac,.slice af p1.B.length ai],.agg #[.slice ah p2.Stem.length ad,.slice ae p2.Loop.length ab]] w (Pvb κ w r):=by
 unfold kR at h
 refine Jk3 κ F77 R N77 R λhE=>Je [1,1,1,2] R<|Js3 (κ:=κ) 2 R λb3 w1 K2 S3 f4=>Tv<|Js3 (κ:=K2) 3 R λb4 w5 K6 S7 f8=>Tv<|Js3 (κ:=K6) 4 R λb5 w9 K10 S11 f12=>Tv<|Jb 1 R<|Jq<|Je [1,1,1,2,2,1,1,1,2,2] R ?_
 have f13:=f4.stp (S7.tr S11)
 refine Jb4 tv R (Jc4 (haE f13.cells) I28 Z28 R) ?_
 have f14:=f8.stp S11
 refine Jb4 tv R (Jc4 (haE f14.cells) I67 Z67 R)<|Ob h λx10 hx10 h=>?_
 have f15:=g1_1.stp (T3 S3 S7 S11)
 have f16:=g1_2.stp (T3 S3 S7 S11)
 refine Jr3 R C150 (kz (κ:=Mk K10) (p0:=p0) (p1:=p1) (Ji3 f15) (Ji3 f16) hx10) ?_
 rintro _ w17 ⟨k18,rfl,e19⟩
 obtain⟨K20,S21,m22⟩:=Ji e19 5 R
 refine Tv<|Jn 2 R<|Ob h λp17 h hK24=>Jq3 [4,5] (λE L w'=>L=(17,.bool p17)::E/\∃κ',Stp [] K20 w17 κ' w') [(5,1),(6,1),(7,1),(8,2),(9,2)] [] tv ?_ ?_
 revert h
 cases ht25:(!x10)
 have S001:=(T4 S3 S7 S11 S21)
 refine JF λh=>Jb4 tv R (Jc4 (haE (f13.stp S21).cells) I28 Z28 R)<|Jb4 tv R (Jc4 (haE (f12.stp S21).cells) I39 Z39 R)<|Ob h λx15 hx15 h=>Jr3 R C76 (oG (κ:=Mk K20) (p0:=p0) (p1:=p2) (Ji3<|g2_0.stp S001) (Ji3<|g2_1.stp S001) hx15) ?_
 rintro _ w30 ⟨k31,rfl,e32⟩
 obtain⟨K33,S34,m35⟩:=Ji e32 7 R
 refine Tv<|Jn 2 R ?_
 cases h
 exact Jv1 _ tv ⟨R,_,S34.wk R⟩<|KM R
 refine JT λh=>Jz3 R<|Jz3 R<|Jz3 R<|Jn 2 R ?_
 cases h
 exact Jv1 _ tv ⟨R,_,Jj3⟩<|KM R
 rintro _ w37 _ ⟨rfl,K38,S39⟩
 have h:=hK24
 refine Jd ?_
 revert h
 cases ht40:p17
 refine JF λh=>Jy R<|Js<|Jp<|Jq<|Js1 (κ:=K38) [4] none [(0,2),(3,2),(1,0),(4,0),(2,1),(5,1),(6,2)] [] (by kernel_rfl) (by kernel_rfl) λw43 S42=>Jd3 R U39 R Z37<|Jd3 R U39 R Z37 ?_
 have f44:=f12.stp (T3 S21 S39 S42)
 refine Jg R (Jc2 I37 R R<|hvC (f44.ld 0 R R) R)<|Jg R (Jc2 I37 R R<|hvC (f44.ld 1 R R) R)<|Ob h λx20 hx20 h=>?_
 have f45:=g2_0.stp (T6 S3 S7 S11 S21 S39 S42)
 refine Jr3 R C131 (km (κ:=Mk K38) (Ji3 f45) hx20) ?_
 rintro _ w46 ⟨k47,ak,al,rfl,e48,f49⟩
 obtain⟨K50,S51,m52⟩:=Ji e48 7 R
 refine⟨(S51.cl R),Ob h λx23 hx23 h=>?_⟩
 have f55:=g2_1.stp (T7 S3 S7 S11 S21 S39 S42 S51)
 refine Jy3 (κ:=K50) (E:=E6) 9 [] R Y37 bG R (f49.mx (bL _) m52 R (R:7+2=9)) (Sl.srcP (bP _) f55) bI hx23 R λam aj w56 K57 S58 f59=>⟨((S51.tr S58).cl R),Jn 1 R<|Jt1<|Jd<|Jq<|Je [2,1] R<|Jd3 R U67 R Z2 ?_⟩
 have f60:=f14.stp (T5 S21 S39 S42 S51 S58)
 refine Jb3 R I2 (f60.ld 0 R R)<|Jd<|Jv<|Je3 R ?_
 revert h
 cases ht61:(p1.Kind==1)
 refine JF λh=>Jy R<|Je3 R ?_
 revert h
 cases ht71:(p1.Kind==2)
 refine JF λh=>Jy R<|Je3 R ?_
 revert h
 cases ht83:(p1.Kind==3)
 refine JF λh=>Jy R<|Je3 R ?_
 revert h
 cases ht97:(p1.Kind==4)
 refine JF λh=>Jy R<|Je3 R ?_
 revert h
 cases ht109:(p1.Kind==5)
 refine JF λh=>Jy R<|Je3 R ?_
 revert h
 cases ht121:(p1.Kind==6)
 refine JF λh=>Jy R<|Js<|Jz<|Jp<|Je [2,1,2,1,1,2,2,2,1,2,1,1,2,2] R<|Jd3 R U39 R Z37 ?_
 have f131:=f44.stp (S51.tr S58)
 refine Jb3 R I37 (f131.ld 1 R R)<|Jd3 R U67 R Z37<|Jb3 R I37 (f60.ld 1 R R)<|Ob h λx70 hx70 h=>?_
 have f132:=f55.stp S58
 refine Jr3 R C155 (fS (κ:=Mk K57) (Ji3 f132) (Ji3<|f15.stp<|T5 S21 S39 S42 S51 S58) hx70) ?_
 rintro _ w134 ⟨k135,rfl,e136⟩
 obtain⟨K137,S138,m139⟩:=Ji e136 10 R
 refine Tv<|Jn 2 R<|Ob h λp78 h hK141=>Ju1 [(7,2),(8,1),(9,2),(10,1),(11,1),(12,2)] [(13,2)] (λL w'=>L=[(78,.bool p78)]/\∃κ',Stp [] K137 w134 κ' w') tv ?_ ?_
 revert h
 cases ht142:(!x70)
 refine JF λh=>Jd3 R U39 R Z37<|Jb3 R I37 ((f131.stp S138).ld 1 R R)<|Jd3 R U67 R Z37<|Jb3 R I37 ((f60.stp S138).ld 2 R R)<|Ob h λx77 hx77 h=>Jr3 R C155 (fS (κ:=Mk K137) (Ji3<|f132.stp S138) (Ji3<|f16.stp<|T6 S21 S39 S42 S51 S58 S138) hx77) ?_
 rintro _ w147 ⟨k148,rfl,e149⟩
 obtain⟨K150,S151,m152⟩:=Ji e149 12 R
 refine Tv<|Jn 1 R ?_
 cases h
 exact Jv1 _ tv ⟨R,_,S151.wk R⟩<|KM R
 refine JT λh=>Jn 1 R<|Jz3 R<|Jn 1 R<|Jz3 R<|Jz3 R<|Jn 1 R ?_
 cases h
 exact Jv1 _ tv ⟨R,_,Jj3⟩<|KM R
 rintro _ w154 _ ⟨rfl,K155,S156⟩
 have h:=hK141
 refine Jb 1 R<|Ju<|Ja2 (l:=[.tmp 6]) V77 (Jp2 R R) R ?_
 cases h
 exact⟨K155,R,(hE.stp<|T10 S3 S7 S11 S21 S39 S42 S51 S58 S138 S156)⟩
 refine JT λh=>Jx R<|Jg3 [2,2,1,1,2] 1 R<|Jd3 R U67 R Z37<|Jb3 R I37 (f60.ld 1 R R)<|Ob h λx65 hx65 h=>Jr3 R C155 (fS (κ:=Mk K57) (Ji3 f59.rdc) (Ji3<|f15.stp<|T5 S21 S39 S42 S51 S58) hx65) ?_
 rintro _ w123 ⟨k124,rfl,e125⟩
 obtain⟨K126,S127,m128⟩:=Ji e125 10 R
 refine Tv<|Jb 1 R<|Ju<|Ja1<|Jw<|Ja2 (l:=[.tmp 6]) V77 (Jp2 R R) R ?_
 cases h
 exact⟨K126,R,(hE.stp<|T9 S3 S7 S11 S21 S39 S42 S51 S58 S127)⟩
 refine JT λh=>Jx R<|Je [2,1,2,1,1,2] R<|Jd3 R U39 R Z37<|Jb3 R I37 ((f44.stp<|S51.tr S58).ld 1 R R)<|Jd3 R U67 R Z37<|Jb3 R I37 (f60.ld 1 R R)<|Ob h λx59 hx59 h=>Jr3 R C152 (oc (κ:=Mk K57) (Ji3<|f55.stp S58) (Ji3<|f15.stp<|T5 S21 S39 S42 S51 S58) hx59) ?_
 rintro _ w113 ⟨k114,rfl,e115⟩
 obtain⟨K116,S117,m118⟩:=Ji e115 10 R
 refine Tv<|Jb 1 R<|Ju<|Ja1<|Jw<|Ja2 (l:=[.tmp 6]) V77 (Jp2 R R) R ?_
 cases h
 exact⟨K116,R,(hE.stp<|T9 S3 S7 S11 S21 S39 S42 S51 S58 S117)⟩
 refine JT λh=>Jx R<|Je [2,1,2,1,1,2] R<|Jd3 R U39 R Z37<|Jb3 R I37 ((f44.stp<|S51.tr S58).ld 1 R R)<|Jd3 R U67 R Z37<|Jb3 R I37 (f60.ld 1 R R)<|Ob h λx52 hx52 h=>Jr3 R C155 (fS (κ:=Mk K57) (Ji3<|f55.stp S58) (Ji3<|f15.stp<|T5 S21 S39 S42 S51 S58) hx52) ?_
 rintro _ w101 ⟨k102,rfl,e103⟩
 obtain⟨K104,S105,m106⟩:=Ji e103 10 R
 refine Tv<|Jb 1 R<|Ju<|Ja1<|Jw<|Ja2 (l:=[.tmp 6]) V77 (Jp2 R R) R ?_
 cases h
 exact⟨K104,R,(hE.stp<|T9 S3 S7 S11 S21 S39 S42 S51 S58 S105)⟩
 have S002:=(T5 S21 S39 S42 S51 S58)
 refine JT λh=>Jx R<|Je [1,1,2,1,2] R<|Jb4 tv R (Jc4 (haE f60.cells) I67 Z67 R)<|Jb4 tv R (Jc4 (haE (f44.stp<|S51.tr S58).cells) I39 Z39 R)<|Jn 1 R<|Ob h λx45 hx45 h=>Jr3 R C154 (pX (κ:=Mk K57) (p0:=p1) (p1:=p2) (Ji3<|f15.stp S002) (Ji3<|f16.stp S002) (Ji3<|f45.stp<|S51.tr S58) (Ji3<|f55.stp S58) (Ji3 f59.rdc) hx45) ?_
 rintro _ w89 ⟨k90,rfl,e91⟩
 obtain⟨K92,S93,m94⟩:=Ji e91 10 R
 refine Tv<|Jb 1 R<|Ju<|Ja1<|Jw<|Ja2 (l:=[.tmp 6]) V77 (Jp2 R R) R ?_
 cases h
 exact⟨K92,R,(hE.stp<|T9 S3 S7 S11 S21 S39 S42 S51 S58 S93)⟩
 have S003:=(T5 S21 S39 S42 S51 S58)
 refine JT λh=>Jx R<|Je [1,2,2,1,2,1,2] R<|Jb4 tv R (Jc4 (haE f60.cells) I67 Z67 R)<|Jn 1 R<|Jd3 R U39 R Z37<|Jb3 R I37 ((f44.stp<|S51.tr S58).ld 0 R R)<|Jn3 R U37 R R<|Ob h λx39 hx39 h=>Jr3 R C153 (rb (κ:=Mk K57) (p0:=p1) (Ji3<|f15.stp S003) (Ji3<|f16.stp S003) (Ji3 f59.rdc) hx39) ?_
 rintro _ w75 ⟨k76,rfl,e77⟩
 obtain⟨K78,S79,m80⟩:=Ji e77 10 R
 refine Tv<|Jb 1 R<|Ju<|Ja1<|Jw<|Ja2 (l:=[.tmp 6]) V77 (Jp2 R R) R ?_
 cases h
 exact⟨K78,R,(hE.stp<|T9 S3 S7 S11 S21 S39 S42 S51 S58 S79)⟩
 refine JT λh=>Jx R<|Jg3 [2,2,1,1,2] 1 R<|Jd3 R U67 R Z37<|Jb3 R I37 (f60.ld 1 R R)<|Ob h λx31 hx31 h=>Jr3 R C152 (oc (κ:=Mk K57) (Ji3 f59.rdc) (Ji3<|f15.stp<|T5 S21 S39 S42 S51 S58) hx31) ?_
 rintro _ w63 ⟨k64,rfl,e65⟩
 obtain⟨K66,S67,m68⟩:=Ji e65 10 R
 refine Tv<|Jb 1 R<|Ju<|Ja1<|Jw<|Ja2 (l:=[.tmp 6]) V77 (Jp2 R R) R ?_
 cases h
 exact⟨K66,R,(hE.stp<|T9 S3 S7 S11 S21 S39 S42 S51 S58 S67)⟩
 refine JT λh=>Jx R<|Je3 R<|Ju<|Jw<|Ja2 (l:=[.tmp 6]) V77 (Jp2 R R) R ?_
 cases h
 exact⟨K38,R,(hE.stp<|T5 S3 S7 S11 S21 S39)⟩
end Go.Proofs.YtleekpaohfpooaaGreat
