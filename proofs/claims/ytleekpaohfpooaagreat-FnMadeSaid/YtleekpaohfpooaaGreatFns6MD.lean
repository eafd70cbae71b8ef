/- The walks, part 6. By program. -/
import Derived.Test.YtleekpaohfpooaaGreatFns2MD
import Derived.Test.YtleekpaohfpooaaGreatFns3MD
import Derived.Test.YtleekpaohfpooaaGreatFns4MD
set_option linter.unusedVariables false
set_option linter.unusedSimpArgs false
open Go.Wk.Ep renaming bool → Do, own → Dp, pair → Dx
open Int renaming toNat → Dq
open Go.IntKind renaming wrap → Dr
open Option.some renaming inj → Ds
open Go.Wk.Ow renaming nil → Dt
open Go.Wk.Sl renaming srcP → Du
open Sum renaming inr → Dv
namespace Go.Proofs.YtleekpaohfpooaaGreat
open Tryz
open Go Go.Wk Go.Proofs
set_option maxRecDepth 100000
set_option maxHeartbeats 1000000
section
variable {w:World}{J:Col}
theorem lH {bc aZ bh aW}{p0:Det}{aA ay aC ao}{p1:Det}(b7:Rd Rs J w 0 bc aZ p0.Next) (e0:Rd Pair.rp J w 0 bh aW p0.Pairs) (b8:Rd Rs J w 0 aA ay p1.Next) (e1:Rd Pair.rp J w 0 aC ao p1.Pairs){r:Det×Bool}(h:jh p0 p1=some r):Ret prog 104 [.agg #[.slice bc p0.Next.length aZ,.slice bh p0.Pairs.length aW],.agg #[.slice aA p1.Next.length ay,.slice aC p1.Pairs.length ao]] w (λfK a=>∃(b:Col) (dr:Option Addr) (dt:Nat) (ds:Option Addr) (du:Nat),fK= .tuple #[.agg #[.slice dr r.1.Next.length dt,.slice ds r.1.Pairs.length du],.bool r.2]/\Ent J w b a/\Oc (Dp E6 2) 37 b a 2 dr dt r.1.Next/\Oc Pair.ep127 127 b a 3 ds du r.1.Pairs):=by
 unfold jh at h
 refine Jl3 J func104 R ntmps104 R λb9=>Je [1,1,1,2] R<|Jt3 J 2 R λf1 gH dO V eS=>Tv<|Jt3 dO 3 R λf2 ho dU N eW=>Tv<|Ju3 dU 4 R X71 R λf3 dB ad C bR=>Tv<|Jb 1 R<|Jq<|Je [2,1,2,2,1,2,2,2] R<|Je3 R U71 R Z69 ?_
 have bT:=eS.stp (N.tr C)
 refine Jc3 R I69 (bT.ld 1 R R)<|Jo3 R U69 R R<|Je3 R U71 R Z69 ?_
 have bU:=eW.stp C
 refine Jc3 R I69 (bU.ld 1 R R)<|Jo3 R U69 R R<|Jb 2 R ?_
 revert h
 cases gq:decide (4<(Dr .i64 ((p0.Pairs.length:Int)+(p1.Pairs.length:Int))))
 refine JF λh=>Jy R<|Js<|Jp<|Je [2,1,2] R<|Jf R (Jj4 [vi 0,vi 0] R)<|Jx3 ad (Dx E6 E6) 5 [] (parts:=[(0,.tmp 30)]) (cells:=[vi 0,vi 0]) (xs:=([(0,0)]:List (Int×Int))) R Y123 jd R (Jf4 ⟨[vi 0],[vi 0],Zl ad dB [],Zl ad dB [],R,Zl.sp (l1:=[]) (l2:=[]) R,Zl.sr (l1:=[]) (l2:=[]),R,R⟩) λd3 d6 gZ dP n ey=>Tv<|Jb 1 R<|Je [2,1,1] R<|Jf R (Jj4 [.slice none 0 0,.slice none 0 0] R)<|Ju3 dP 6 R X71 R λY g6 aO j eE=>Tv<|Ji4 aO 6 R Z71 R eE R λdz k eJ=>Tv<|Jd<|Jq<|Jf3 R<|Ob h λdn fn c6=>?_
 clear h
 refine Jp3 [2,3,4,7] (λd e a=>∃b,∃g:(List<|Int×Int)×Int×VV,∃bM bO A B,e=(6,.slice bM g.1.length bO)::d/\Stp [5,6,7,8,9] aO dz b a/\Oc (Dx E6 E6) 120 b a 5 bM bO g.1/\Oc (Dp E6 2) 37 b a 7 A B g.2.2/\Bc b a 6 Y 71 [.slice A g.2.2.length B,.slice none 0 0]/\dn=Dv g) ?_ ?_
 refine Jv<|Jq3 [2,3,4,7] (λc d e a=>∃b,∃f:(List<|Int×Int)×Int×VV,∃ap aw be ba,e=(6,.slice ap f.1.length aw)::(8,vi f.2.1)::d/\Stp [5,6,7,8,9] aO dz b a/\Oc (Dx E6 E6) 120 b a 5 ap aw f.1/\Oc (Dp E6 2) 37 b a 7 be ba f.2.2/\Bc b a 6 Y 71 [.slice be f.2.2.length ba,.slice none 0 0]/\cd (gP p0 p1) c f=some dn) ⟨_,_,⟨aO,((([(0,0)]:List (Int×Int)):(List<|Int×Int)),(0:Int),([]:VV)),d3,d6,none,0,R,Jk3,(ey.stp<|j.tr k),Dt,eJ,fn⟩,(KM R)⟩ ?_
 rintro c _ hm ⟨cv,f,ap,aw,be,ba,rfl,D,b2,cW,cX,h⟩
 rcases c with _|c
 cases h
 obtain⟨gA,h,cb⟩:=BI h;unfold gP at h
 refine Jq<|Jh3 [2,2,2,2] 2 R<|Jo3 R U123 R R<|Jb 1 R ?_
 revert h
 cases gt:decide (f.2.1<(f.1.length:Int))
 refine JF λh=>Jy R<|Jc1<|Jt<|Jt ?_
 cases h
 have h:=cb
 refine Jb1 ?_
 cases h
 exact Jw1 _ ⟨cv,(f.1,f.2.1,f.2.2),ap,aw,be,ba,R,D.wk R,b2,cW,cX,R⟩<|KM R
 refine JT λh=>Jx R<|Js<|Jp<|Jq<|Jv<|Je [1,2] R<|Jy3 cv E6 8 R Y37 bS R λd0 d7 hn aP s eT=>Tv<|Jb 1 R<|Jq<|Jq<|Js1 (J:=aP) [0,2,5] none [(0,2),(2,2),(3,2),(4,2),(5,2),(10,2),(1,0),(6,0),(7,2),(8,0),(9,2)] [] (by kernel_rfl) (by kernel_rfl) λdA m=>Je3 R U71 R Z31<|Jn 2 R<|Ob h λhw de h=>Jd3 R b2.rdc de U123 Z120<|Jf R (jW U120 Z2 R R R R)<|Jn 1 R<|Jg R (Jd2 I31 R R<|hvC ((bT.stp<|T6 n j k D s m).ld 0 R R) R) ?_
 have cY:=b2.stp (s.tr m)
 obtain⟨gl,fs,fi⟩:=(cY.rdc).gSt de
 obtain⟨_,_,rfl,rfl,rfl⟩:=fs
 refine Jg R (Jd2 I2 R R<|hvC (λa ce=>fi a ce 0 _ R) R)<|Ob h λdF dg h=>Jd3 R b7 dg U31 Z37 ?_
 obtain⟨fW,gF,b3,fc⟩:=(b7.stp (T9 V N C n j k D s m)).gSl dg
 refine Jg R (Jd2 I37 R R<|hvC fc R)<|Jo3 R U37 R R<|Jt1<|Jd<|Ob h λdp fo e8=>?_
 clear h
 refine Jp3 [2,3,4,7,8] (λd e a=>∃b,∃u:(List<|Int×Int)×VI,∃bg a2 a5 bb,e=(6,.slice bg u.1.length a2)::(9,.slice a5 u.2.length bb)::d/\Stp [5,8,9] aP dA b a/\Oc (Dx E6 E6) 120 b a 5 bg a2 u.1/\Oc E6 2 b a 8 a5 bb u.2/\dp=Dv u) ?_ ?_
 refine Jv<|Jq3 [2,3,4,7,8,48,49] (λc d e a=>∃b G,∃E:(List<|Int×Int)×VI,∃ax ar bf a0,e=(6,.slice ax E.1.length ar)::(9,.slice bf E.2.length a0)::(50,vi G)::d/\Stp [5,8,9] aP dA b a/\Oc (Dx E6 E6) 120 b a 5 ax ar E.1/\Oc E6 2 b a 8 bf a0 E.2/\0<=G/\Dq ((dF.length:Int)-G)=c/\cntM (fh p1 f dF) c G E=some dp) ⟨_,_,⟨aP,0,(f.1,([]:VI)),ap,aw,d0,d7,R,Jk3,cY,(eT.stp m),(by decide),(by simp),fo⟩,(KM R)⟩ ?_
 rintro c _ hq ⟨bw,G,E,ax,ar,bf,a0,rfl,ak,b4,cZ,fb,c5,h⟩
 rcases c with _|c
 have bn:=h;obtain⟨fJ,h⟩:=exq bn
 have ab:=dcf c5
 refine Jf3 R<|Jq<|Jx2 R ab<|Jc1<|Jt<|Jt ?_
 cases h
 have h:=bn
 refine Jb1 ?_
 cases h
 exact Jw1 _ ⟨bw,(E.1,E.2),ax,ar,bf,a0,R,ak.wk R,b4,cZ,R⟩<|KM R
 obtain⟨fJ,h,bn⟩:=BI h;unfold fh at h
 have ab:=dct c5
 refine Jf3 R<|Jq<|Jw2 R ab<|Js<|Jp<|Jq<|Jv<|Jh3 [2,2,1,2,2] 1 R<|Ob h λaK dh h=>Jd3 R b3 dh U37 Z2<|Jc3 R I2 ((b3.stp ak).gInt dh)<|Jb 2 R<|Jq<|Js1 (J:=bw) [0,3,5] none [(0,2),(1,2),(3,2),(4,2),(5,2),(6,2),(10,2),(2,0),(7,0),(8,2),(9,0),(11,2),(12,0),(13,2),(14,1),(15,1)] [] (by kernel_rfl) (by kernel_rfl) λhr al=>Jn 1 R<|Je3 R U71 R Z31<|Jn 2 R<|Ob h λhx di h=>Jd3 R b4.rdc di U123 Z120<|Jf R (jW U120 Z2 R R R R)<|Jn 1 R<|Jg R (Jd2 I31 R R<|hvC ((bU.stp<|T8 n j k D s m ak al).ld 0 R R) R) ?_
 have c0:=b4.stp al
 obtain⟨gm,ft,fj⟩:=(c0.rdc).gSt di
 obtain⟨_,_,rfl,rfl,rfl⟩:=ft
 refine Jg R (Jd2 I2 R R<|hvC (λa ce=>fj a ce 1 _ R) R)<|Ob h λhy dj h=>Jd3 R b8 dj U31 Z37 ?_
 obtain⟨fX,gG,c1,fd⟩:=(b8.stp (T11 V N C n j k D s m ak al)).gSl dj
 refine Jg R (Jd2 I37 R R<|hvC fd R)<|Ob h λaL dk h=>Jd3 R c1 dk U37 Z2<|Jg R (Jd2 I2 R R<|hvC (c1.gInt dk) R)<|Jf R (Jj4 [vi aK,vi aL] R)<|Ju3 bw 9 R X120 R λfY hs cw am eX=>⟨(am.cl R),Ji4 cw 9 R Z120 R eX R λht aV c2=>⟨((am.tr aV).cl R),Jt1<|Jd<|Jh3 [2,1,1,2] 1 R<|Jc4 tv R (Jd4 (haE c2.cells) I120 Z120 R)<|Ob h λfQ fC h=>?_⟩⟩
 have b5:=c0.stp (am.tr aV)
 refine Js3 R call170 (jS (J:=Mk cw) (p1:=(aK,aL)) (Jj3 b5.rdc) fC) ?_
 rintro _ ch ⟨gw,rfl,ea⟩
 obtain⟨af,an,gz⟩:=Ji ea 10 R
 refine Tv<|Jb 1 R<|Jq<|Jf3 R<|Ob h λaH h e2=>Jp3 [2,3,4,7,8,9,48,49,50] (λd e a=>∃b a6 a8,e=(6,.slice a6 aH.1.length a8)::(13,vi aH.2)::d/\Stp [5] af ch b a/\Oc (Dx E6 E6) 120 b a 5 a6 a8 aH.1) ?_ ?_
 revert h
 cases go:decide (fQ<0)
 refine JF λh=>Jy R<|Js ?_
 cases h
 exact Jw1 _ ⟨af,ax,ar,R,Jk3,(b5.stp an)⟩<|KM R
 refine JT λh=>Jx R<|Jh3 [2,2,2] 1 R<|Jo3 R U123 R R<|Jb 1 R<|Ji3 [2,1,1,1,2] 1 R<|Jc4 tv R (Jd4 (haE (c2.stp an).cells) I120 Z120 R)<|Jx3 af (Dx E6 E6) 12 [] (parts:=[(0,.tmp 77)]) (cells:=[vi aK,vi aL]) (xs:=([(aK,aL)]:List (Int×Int))) R Y123 jd R (Jf4 ⟨[vi aK],[vi aL],Zl af ch [],Zl af ch [],R,Zl.sp (l1:=[]) (l2:=[]) R,Zl.sr (l1:=[]) (l2:=[]),R,R⟩) λf6 gg gJ dI cA ec=>Tv<|Ob h λhz fD h=>Jz3 dI (Dx E6 E6) 5 [] R Y123 jd R (b5.stp<|an.tr cA) (Du (ya (cc _)<|cc _) ec.rdc) bV fD R λd1 d2 gK dJ dV ed=>Tv<|Jc 1 R ?_
 cases h
 exact Jw1 _ ⟨dJ,d1,d2,R,(cA.tr dV).wk R,ed⟩<|KM R
 rintro _ gI ⟨dG,a6,a8,rfl,cz,eb⟩
 have h:=e2
 refine Jp<|Ji3 [2,2,1,1,2] 2 R<|Je4 dG 12 [aH.2] R Y37 bS R λgd gf gL dK bx ee=>Tv<|Ob h λfR fE h=>Jz3 dK E6 8 [] R Y37 bS R (cZ.stp<|T6 al am aV an cz bx) (Du (cc _) ee.rdc) bV fE R λd5 d4 gM dL cB ef=>Tv<|Jc 1 R<|Jz<|Jp<|Jg3 R ?_
 have fw:Dr .i64 (G+1)=G+1:=wr1 fb (Jn2 ab) b3.len_le
 rw[fw]
 have ab:=Jn2 ab
 cases h
 exact Ja2 ⟨dL,G+1,(aH.1,fR),a6,a8,d5,d4,R,(T8 ak al am aV an cz bx cB).wk R,(eb.stp<|bx.tr cB),ef,by omega,by omega,bn⟩ R
 rintro _ hp ⟨bv,u,bg,a2,a5,bb,rfl,aj,eU,eV,rfl⟩
 have h:=yI e8
 refine Jp<|Jq<|Jh3 [2,2,2] 1 R<|Jo3 R U123 R R<|Jb 1 R ?_
 revert h
 cases gp:decide (48<(u.1.length:Int))
 refine JF λh=>Jy R<|Js<|Jp<|Ja [2,1,2,1,1,2,1] R<|Je3 R U71 R Z31 ?_
 have cL:=cX.stp (T3 s m aj)
 refine Jc3 R I31 (cL.ld 0 R R)<|Jn 1 R<|Jx3 bv (Dp E6 2) 9 [8] (parts:=[(0,.tmp 91)]) (cells:=[.slice a5 u.2.length bb]) (xs:=([u.2]:VV)) R Y31 bW R (Jf4 ⟨_,_,R,eV⟩) λgc f7 gO dM aR eh=>Tv<|Ob h λck fF h=>Jz3 dM (Dp E6 2) 7 [9] R Y31 bW R (cW.stp<|T4 s m aj aR) eh.src (c9 R) fF R λbQ bK gR cl bz ei=>Tv<|Je3 R U71 R Z31<|Jv3 cl 6 (off:=0) (vc:=[.slice bQ ck.length bK]) (cs':=[.slice bQ ck.length bK,.slice none 0 0]) R Z31 R (cL.stp<|aR.tr bz) R λgS bA ej=>Tv<|Jo<|Jz<|Jp<|Jg3 R ?_
 cases h
 exact Ja2 ⟨cl,(u.1,((Dr .i64<|f.2.1+1):Int),ck),bg,a2,bQ,bK,R,(T7 D s m aj aR bz bA).wk R,(eU.stp<|T3 aR bz bA),(ei.stp bA),ej,cb⟩ R
 refine JT λh=>Jx R<|Je [2,1,2] R<|Jf R (Jj4 [.slice none 0 0,.slice none 0 0] R)<|Ji4 bv 4 R Z71 R (bR.stp<|T7 n j k D s m aj) R λgN dW eg=>Tv<|Jb 1 R<|Ju<|Jw<|Ja1<|Jw<|Jw ?_
 cases h
 obtain rfl:=Ds cb
 have h:=yL c6
 refine Ja1<|Jr2<|Jw<|Jb2 (l:=[.cell 4 71,.tmp 5]) results104 (cg R eg I71 Z71 R<|Jq2 R R) R ?_
 cases h
 exact⟨bv,none,0,none,0,R,(b9.stp<|T11 V N C n j k D s m aj dW),Dt,Dt⟩
 rintro _ bp ⟨ae,g,bM,bO,A,B,rfl,aU,b1,eQ,eR,rfl⟩
 have h:=yI c6
 have aQ:=(T7 V N C n j k aU)
 have cx:=(T4 n j k aU)
 refine Jp<|Jq<|Je [1,1,1,2,2] R<|Jc4 tv R (Jd4 (haE (bT.stp cx).cells) I71 Z71 R)<|Jc4 tv R (Jd4 (haE (bU.stp cx).cells) I71 Z71 R)<|Jx3 ae (Ep.fz Det.rp) 8 [] (parts:=[(0,.tmp 95),(1,.tmp 96)]) (cells:=[.slice bc p0.Next.length aZ,.slice bh p0.Pairs.length aW,.slice aA p1.Next.length ay,.slice aC p1.Pairs.length ao]) (xs:=([p0,p1]:List Det)) R underlying185 wO R ⟨[.slice bc p0.Next.length aZ,.slice bh p0.Pairs.length aW],[.slice aA p1.Next.length ay,.slice aC p1.Pairs.length ao],Zl ae bp [],Zl ae bp [],R,Zl.sp (l1:=[]) (l2:=[]) R,Zl.sr (l1:=[]) (l2:=[]),(Det.mk_rel (Sl.z1<|b7.stp aQ)<|Sl.z1<|e0.stp aQ),⟨[.slice aA p1.Next.length ay,.slice aC p1.Pairs.length ao],[],Zl ae bp [],Zl ae bp [],R,Zl.sp (l1:=[]) (l2:=[]) R,Zl.sr (l1:=[]) (l2:=[]),(Det.mk_rel (Sl.z1<|b8.stp aQ)<|Sl.z1<|e1.stp aQ),R⟩⟩ λf8 gb dv bq ag bX=>Tv<|Jo3 R runUnderlying185 R R<|Jb 1 R<|Ob h λdq fk e3=>?_
 clear h
 refine Jp3 [4,7] (λd e a=>∃b,∃bo:VP,∃a7 aX,e=d/\Stp [6,9,10,11,12,13,14,15] bq dv b a/\Oc Pair.ep127 127 b a 9 a7 aX bo/\Bc b a 6 Y 71 [.slice A g.2.2.length B,.slice a7 bo.length aX]/\dq=Dv bo) ?_ ?_
 refine Jv<|Jq3 [4,6,7,97,98] (λc d e a=>∃b H,∃ac:VP,∃aE aq,e=(99,vi H)::d/\Stp [6,9,10,11,12,13,14,15] bq dv b a/\Oc Pair.ep127 127 b a 9 aE aq ac/\Bc b a 6 Y 71 [.slice A g.2.2.length B,.slice aE ac.length aq]/\0<=H/\Dq ((([p0,p1]:List Det).length:Int)-H)=c/\cntM (df p0 p1 g) c H ac=some dq) ⟨_,_,⟨bq,0,([]:VP),none,0,R,Jk3,Dt,(eR.stp ag),(by decide),(by simp),fk⟩,(KM R)⟩ ?_
 rintro c _ gV ⟨cn,H,ac,aE,aq,rfl,aS,cM,cN,c7,bj,h⟩
 rcases c with _|c
 have bk:=h;obtain⟨fG,h⟩:=exq bk
 have ca:=dcf bj
 refine Jf3 R<|Jq<|Jx2 R ca<|Jc1<|Jt<|Jt ?_
 cases h
 have h:=bk
 refine Jb1 ?_
 cases h
 exact Jw1 _ ⟨cn,ac,aE,aq,R,aS.wk R,cM,cN,R⟩<|KM R
 obtain⟨fG,h,bk⟩:=BI h;unfold df at h
 have ca:=dct bj
 refine Jf3 R<|Jq<|Jw2 R ca<|Js<|Jp<|Jq<|Jv<|Jh3 [2,2,1,1,2,1] 1 R<|Ob h λdC c8 h=>Jd3 R bX.rdc c8 runUnderlying185 Z71 ?_
 obtain⟨gi,fp,fe⟩:=Ow.gZS (bX.stp aS) c8
 obtain⟨fS,gB,fT,gC,rfl,gn,b6⟩:=Det.un fp
 refine Jc4 tv R (Jd4 (haE fe) I71 Z71 R)<|Ju3 cn 10 R X71 R λfZ gW aM ah em=>Tv<|Jn 1 R<|Ji4 aM 10 R Z71 R em R λdw ai eo=>Tv<|Jd<|Je [2,1,2,2] R<|Je3 R U71 R Z69<|Jc3 R I69 (eo.ld 1 R R)<|Jo3 R U69 R R<|Jb 1 R<|Ob h λdl fl e4=>?_
 clear h
 refine Jp3 [4,6,7,97,98,99] (λd e a=>∃b,∃aJ:VP,∃a4 bd,e=d/\Stp [6,9,11,12,13,14,15] aM dw b a/\Oc Pair.ep127 127 b a 9 a4 bd aJ/\Bc b a 6 Y 71 [.slice A g.2.2.length B,.slice a4 aJ.length bd]/\dl=Dv aJ) ?_ ?_
 refine Jv<|Jq3 [4,6,7,14,97,98,99,105,106] (λc d e a=>∃b F,∃aI:VP,∃aY a3,e=(107,vi F)::d/\Stp [6,9,11,12,13,14,15] aM dw b a/\Oc Pair.ep127 127 b a 9 aY a3 aI/\Bc b a 6 Y 71 [.slice A g.2.2.length B,.slice aY aI.length a3]/\0<=F/\Dq ((dC.Pairs.length:Int)-F)=c/\cntM (dH g H dC) c F aI=some dl) ⟨_,_,⟨aM,0,ac,aE,aq,R,Jk3,(cM.stp<|ah.tr ai),(cN.stp<|ah.tr ai),(by decide),(by simp),fl⟩,(KM R)⟩ ?_
 rintro c _ gY ⟨co,F,aI,aY,a3,rfl,aT,cO,cP,e9,c3,h⟩
 rcases c with _|c
 have bl:=h;obtain⟨fH,h⟩:=exq bl
 have Z:=dcf c3
 refine Jf3 R<|Jq<|Jx2 R Z<|Jc1<|Jt<|Jt ?_
 cases h
 have h:=bl
 refine Jb1 ?_
 cases h
 exact Jw1 _ ⟨co,aI,aY,a3,R,aT.wk R,cO,cP,R⟩<|KM R
 obtain⟨fH,h,bl⟩:=BI h;unfold dH at h
 have Z:=dct c3
 refine Jf3 R<|Jq<|Jw2 R Z<|Js<|Jp<|Jq<|Jv<|Je [2,1,1,1] R<|Ob h λfN da h=>Jd3 R b6 da U69 Z127 ?_
 obtain⟨gj,fq,ff⟩:=((b6.stp (T3 ah ai aT))).gSt da
 obtain⟨fU,gD,fV,gE,rfl,eY,eZ⟩:=Pair.un fq
 refine Jc4 tv R (Jd4 (haE ff) I127 Z127 R)<|Ju3 co 11 R X127 R λf0 g0 cp Q er=>Tv<|Ji4 cp 11 R Z127 R er R λg1 S es=>Tv<|Jd<|Je [2,1,1] R<|Jf R (Jj4 [.slice none 0 0,.slice none 0 0] R)<|Ju3 cp 12 R X127 R λbi g2 aN K et=>Tv<|Ji4 aN 12 R Z127 R et R λdx L eu=>Tv<|Jd<|Jq<|Jh3 [2,2,2] 1 R<|Jo3 R U123 R R<|Jb 1 R<|Ob h λdm fm e5=>?_
 clear h
 refine Jp3 [4,6,7,14,18,97,98,99,105,106,107] (λd e a=>∃b,∃i:VI×VI,∃aB az au aD,e=d/\Stp [12,13,14,15] aN dx b a/\Oc E6 2 b a 13 aB az i.1/\Oc E6 2 b a 14 au aD i.2/\Bc b a 12 bi 127 [.slice aB i.1.length az,.slice au i.2.length aD]/\dm=Dv i) ?_ ?_
 refine Jv<|Jq3 [4,6,7,14,17,18,97,98,99,105,106,107,112,113] (λc d e a=>∃b v,∃t:VI×VI,∃aF av O P,e=(114,vi v)::d/\Stp [12,13,14,15] aN dx b a/\Oc E6 2 b a 13 aF av t.1/\Oc E6 2 b a 14 O P t.2/\Bc b a 12 bi 127 [.slice aF t.1.length av,.slice O t.2.length P]/\0<=v/\Dq ((g.1.length:Int)-v)=c/\cntM (gQ g H fN) c v t=some dm) ⟨_,_,⟨aN,0,(([]:VI),([]:VI)),none,0,none,0,R,Jk3,Dt,Dt,eu,(by decide),(by simp),fm⟩,(KM R)⟩ ?_
 rintro c _ g3 ⟨cq,v,t,aF,av,O,P,rfl,T,bY,bZ,b0,fa,c4,h⟩
 rcases c with _|c
 have bm:=h;obtain⟨fI,h⟩:=exq bm
 have aa:=dcf c4
 refine Jf3 R<|Jq<|Jx2 R aa<|Jc1<|Jt<|Jt ?_
 cases h
 have h:=bm
 refine Jb1 ?_
 cases h
 exact Jw1 _ ⟨cq,(t.1,t.2),aF,av,O,P,R,T.wk R,bY,bZ,b0,R⟩<|KM R
 obtain⟨fI,h,bm⟩:=BI h;unfold gQ at h
 have aa:=dct c4
 refine Jf3 R<|Jq<|Jw2 R aa<|Js<|Jp<|Jq<|Jv<|Jh3 [2,2,1,1,2,1] 1 R<|Ob h λI db h=>Jd3 R b1.rdc db U123 Z120 ?_
 obtain⟨gk,fr,fg⟩:=((b1.stp (T10 ag aS ah ai aT Q S K L T)).rdc).gSt db
 obtain⟨_,_,rfl,rfl,rfl⟩:=fr
 refine Jc4 tv R (Jd4 (haE fg) I120 Z120 R)<|Ju3 cq 15 R X120 R λcK g4 bs x ez=>Tv<|Jn 1 R<|Ji4 bs 15 R Z120 R ez R λg5 y eA=>Tv<|Jd<|Jq<|Jq<|Js1 (J:=bs) [11,15] none [(0,2),(2,2),(3,2),(1,0),(4,0),(5,1)] [] (by kernel_rfl) (by kernel_rfl) λg7 o=>Je3 R U127 R Z37<|Jn 1 R<|Ob h λhu dc h=>Jf R (tR (xs:=([I.1,I.2]:VI)) (p:=⟨cK,0,none⟩) dc R U120 Z2 R R R) ?_
 have cQ:=es.stp (T6 K L T x y o)
 refine Jg R (Jd2 I37 R R<|hvC (cQ.ld 0 R R) R) ?_
 have cR:=eA.stp o
 refine Jg R (Jd2 I2 R R<|hvC (cR.ldD (xs:=([I.1,I.2]:VI)) 0 R dc R) R)<|Ob h λfO fx h=>Js3 R C89 (cj (J:=Mk bs) (Jj3<|eY.stp<|T8 Q S K L T x y o) fx) ?_
 rintro _ fL ⟨gu,rfl,d8⟩
 obtain⟨bt,q,gx⟩:=Ji d8 16 R
 refine⟨(q.cl R),Jt1<|Jd<|Ob h λaG h e6=>Jp3 [4,6,7,14,17,18,19,20,97,98,99,105,106,107,112,113,114] (λd e a=>∃b W X,e=d/\Stp [12,13] bt fL b a/\Oc E6 2 b a 13 W X aG/\Bc b a 12 bi 127 [.slice W aG.length X,.slice O t.2.length P]) ?_ ?_⟩
 revert h
 cases gr:fO
 refine JF λh=>Jy R<|Js ?_
 cases h
 have cy:=(T4 x y o q)
 exact Jw1 _ ⟨bt,aF,av,R,Jk3,(bY.stp cy),(b0.stp cy)⟩<|KM R
 refine JT λh=>Jx R<|Ja [2,1,2,1,1,2,1] R<|Je3 R U127 R Z37 ?_
 have cT:=b0.stp (T4 x y o q)
 refine Jc3 R I37 (cT.ld 0 R R)<|Jn 1 R<|Je4 bt 18 [v] R Y37 bS R λf4 ge g9 dQ bD eC=>Tv<|Ob h λdD fy h=>Jz3 dQ E6 13 [] R Y37 bS R (bY.stp<|T5 x y o q bD) (Du (cc _) eC.rdc) bV fy R λbH bI hb cs cC eD=>Tv<|Je3 R U127 R Z37<|Jv3 cs 12 (off:=0) (vc:=[.slice bH dD.length bI]) (cs':=[.slice bH dD.length bI,.slice O t.2.length P]) R Z37 R (cT.stp<|bD.tr cC) R λhc cD eF=>Tv<|Jo ?_
 cases h
 exact Jw1 _ ⟨cs,bH,bI,R,(T3 bD cC cD).wk R,(eD.stp cD),eF⟩<|KM R
 rintro _ g8 ⟨cr,W,X,rfl,U,eB,cS⟩
 have h:=e6
 refine Jp<|Jq<|Js1 (J:=cr) [11,15] none [(0,2),(2,2),(3,2),(1,0),(4,0),(5,1)] [] (by kernel_rfl) (by kernel_rfl) λhd z=>Je3 R U127 R Z37<|Jn 1 R<|Ob h λhv dd h=>Jf R (tR (xs:=([I.1,I.2]:VI)) (p:=⟨cK,0,none⟩) dd R U120 Z2 R R R)<|Jg R (Jd2 I37 R R<|hvC ((cQ.stp<|T3 q U z).ld 1 R R) R)<|Jg R (Jd2 I2 R R<|hvC ((cR.stp<|T3 q U z).ldD (xs:=([I.1,I.2]:VI)) 0 R dd R) R)<|Ob h λfP fz h=>Js3 R C89 (cj (J:=Mk cr) (Jj3<|eZ.stp<|T11 Q S K L T x y o q U z) fz) ?_
 rintro _ fM ⟨gv,rfl,d9⟩
 obtain⟨bu,M,gy⟩:=Ji d9 18 R
 refine⟨(M.cl R),Jt1<|Jd<|Ob h λcf h e7=>Jp3 [4,6,7,14,17,18,97,98,99,105,106,107,112,113,114] (λd e a=>∃b a9 a1,e=d/\Stp [12,14] bu fM b a/\Oc E6 2 b a 14 a9 a1 cf/\Bc b a 12 bi 127 [.slice W aG.length X,.slice a9 cf.length a1]) ?_ ?_⟩
 revert h
 cases gs:fP
 refine JF λh=>Jy R<|Js ?_
 cases h
 exact Jw1 _ ⟨bu,O,P,R,Jk3,(bZ.stp<|T7 x y o q U z M),(cS.stp<|z.tr M)⟩<|KM R
 refine JT λh=>Jx R<|Ja [2,1,2,1,1,2,1] R<|Je3 R U127 R Z37 ?_
 have cU:=cS.stp (z.tr M)
 refine Jc3 R I37 (cU.ld 1 R R)<|Jn 1 R<|Je4 bu 20 [v] R Y37 bS R λga gh hf dS bE eI=>Tv<|Ob h λdE fA h=>Jz3 dS E6 14 [] R Y37 bS R (bZ.stp<|T8 x y o q U z M bE) (Du (cc _) eI.rdc) bV fA R λbP bN hg ct cF eK=>Tv<|Je3 R U127 R Z37<|Jv3 ct 12 (off:=1) (vc:=[.slice bP dE.length bN]) (cs':=[.slice W aG.length X,.slice bP dE.length bN]) R Z37 R (cU.stp<|bE.tr cF) R λhh cH eL=>Tv<|Jo ?_
 cases h
 exact Jw1 _ ⟨ct,bP,bN,R,(T3 bE cF cH).wk R,(eK.stp cH),eL⟩<|KM R
 rintro _ he ⟨dR,a9,a1,rfl,cE,eG,eH⟩
 have h:=e7
 refine Jz<|Jp<|Jg3 R ?_
 have fv:Dr .i64 (v+1)=v+1:=wr1 fa (Jn2 aa) b1.len_le
 rw[fv]
 have aa:=Jn2 aa
 cases h
 exact Ja2 ⟨dR,v+1,(aG,cf),W,X,a9,a1,R,(T9 T x y o q U z M cE).wk R,(eB.stp<|T3 z M cE),eG,eH,by omega,by omega,bm⟩ R
 rintro _ dy ⟨br,i,aB,az,au,aD,rfl,bC,ev,ew,ex,rfl⟩
 have h:=yI e5
 refine Jp<|Ja [2,1,1,1,1,2,1] R<|Je3 R U71 R Z69 ?_
 have cV:=cP.stp (T5 Q S K L bC)
 refine Jc3 R I69 (cV.ld 1 R R)<|Jc4 tv R (Jd4 (haE ex.cells) I127 Z127 R)<|Jx3 br Pair.ep127 15 [13,14] (parts:=[(0,.tmp 146)]) (cells:=[.slice aB i.1.length az,.slice au i.2.length aD]) (xs:=([(⟨i.1,i.2⟩:Pair)]:VP)) R Y69 cG R (Jf4 ⟨[.slice aB i.1.length az],[.slice au i.2.length aD],Zl br dy [13],Zl br dy [14],R,Zl.sp (l1:=[13]) (l2:=[14]) R,Zl.sr (l1:=[13]) (l2:=[14]),⟨_,_,R,ev⟩,⟨_,_,R,ew⟩⟩) λf9 f5 hi dT bF eM=>Tv<|Ob h λci fB h=>Jz3 dT Pair.ep127 9 [15] R Y69 cG R (cO.stp<|T6 Q S K L bC bF) eM.src (c9 R) fB R λbJ bL hj cu cI eN=>Tv<|Je3 R U71 R Z69<|Jv3 cu 6 (off:=1) (vc:=[.slice bJ ci.length bL]) (cs':=[.slice A g.2.2.length B,.slice bJ ci.length bL]) R Z69 R (cV.stp<|bF.tr cI) R λhk cJ eO=>Tv<|Jo<|Jz<|Jp<|Jg3 R ?_
 have fu:Dr .i64 (F+1)=F+1:=wr1 e9 (Jn2 Z) b6.len_le
 rw[fu]
 have Z:=Jn2 Z
 cases h
 exact Ja2 ⟨cu,F+1,ci,bJ,bL,R,(T9 aT Q S K L bC bF cI cJ).wk R,(eN.stp cJ),eO,by omega,by omega,bl⟩ R
 rintro _ gX ⟨dN,aJ,a4,bd,rfl,dY,ep,eq,rfl⟩
 have h:=yI e4
 refine Jz<|Jp<|Jg3 R<|wr2 c7 bj bX.len_le ▸ ?_
 cases h
 exact Ja2 ⟨dN,H+1,aJ,a4,bd,R,(T4 aS ah ai dY).wk R,ep,eq,nxz c7,nxm bj,bk⟩ R
 rintro _ gU ⟨cm,bo,a7,aX,rfl,bB,ek,el,rfl⟩
 have h:=yI e3
 refine Jp<|Je [1,1,2] R<|Jc4 tv R (Jd4 (haE el.cells) I71 Z71 R)<|Ji4 cm 4 R Z71 R (bR.stp<|T6 n j k aU ag bB) R λhl bG eP=>Tv<|Jb 1 R<|Ju<|Jb2 (l:=[.cell 4 71,.tmp 5]) results104 (cg R eP I71 Z71 R<|Jq2 R R) R ?_
 cases h
 exact⟨(λdZ=>ren [(7,2),(9,3)]<|cm dZ),A,B,a7,aX,R,((b9.stp<|T10 V N C n j k aU ag bB bG).map (ren [(7,2),(9,3)]) R R),((eQ.stp<|T3 ag bB bG).map (ren [(7,2),(9,3)]) R R),((ek.stp bG).map (ren [(7,2),(9,3)]) R R)⟩
 refine JT λh=>Jx R<|Je [2,1,2] R<|Jf R (Jj4 [.slice none 0 0,.slice none 0 0] R)<|Ji4 ad 4 R Z71 R bR R λgT dX en=>Tv<|Jb 1 R<|Ju<|Jw<|Jb2 (l:=[.cell 4 71,.tmp 5]) results104 (cg R en I71 Z71 R<|Jq2 R R) R ?_
 cases h
 exact⟨ad,none,0,none,0,R,(b9.stp<|T4 V N C dX),Dt,Dt⟩
theorem qY (n:Nat):∀{w:World}{J:Col}{K S T O Q I L M}{p0:solver}{A E}{p1:VB}{U}(ak:Rd Ri J w 0 K S p0.game.Arena.Owner) (al:Rd Rs J w 0 T O p0.game.Arena.Next) (am:Rd Ri J w 0 Q I p0.game.Prio) (an:Rd Rs J w 0 L M p0.preds) (B:Rd Rp.bool J w 0 A E p1) (ao:Bc J w 0 U 193 [.slice K p0.game.Arena.Owner.length S,.slice T p0.game.Arena.Next.length O,.slice Q p0.game.Prio.length I,.slice L p0.preds.length M]){r:VB×Int}(h:dV n p0 p1=some r),Ret prog 178 [.pointer (some ⟨U,0,none⟩),.slice A p1.length E] w (λcw a=>∃(b:Col) (a7:Option Addr) (a8:Nat),cw= .tuple #[.slice a7 r.1.length a8,vi r.2]/\Ent J w b a/\Rd Rp.bool b a 0 a7 a8 r.1):=by
 induction n with
 |zero=>
  intro w J K S T O Q I L M p0 A E p1 U ak al am an B ao r h
  cases h
 |succ n cm=>
  intro w J K S T O Q I L M p0 A E p1 U ak al am an B ao r h
  have h:ej (dV n) p0 p1=some r:=h
  unfold ej at h
  refine Jl3 J func178 R ntmps178 R λap=>Jf3 R<|Jh3 [2,1,2] 1 R<|Ob h λcE b8 h=>Js3 R call179 (ji (J:=Mk J) (Jj3 B) b8) ?_
  rintro _ dl ⟨dd,cX,cW,rfl,bK,bT⟩
  obtain⟨az,d,cq⟩:=Ji bK 2 R
  refine Tv<|Jb 1 R<|Jq<|Jh3 [2,2,2] 1 R<|Jo3 R U37 R R<|Jb 1 R ?_
  revert h
  cases c0:((cE.length:Int)==0)
  refine JF λh=>Jy R<|Js<|Jp<|Jh3 [2,2,2,1,2,1,2] 1 R<|Jf R (bX R R)<|Je3 R U193 R Z79 ?_
  have af:=ao.stp d
  refine Jc4 tv R (Jd4 (haE<|af.lds 0 3 R) I79 Z79 R)<|Jn 1 R<|Ob h λav b9 h=>?_
  have aQ:=ak.stp d
  have aR:=al.stp d
  have V:=am.stp d
  refine Js3 R call243 (xb (J:=Mk az) (p0:=p0.game) (Jj3 aQ) (Jj3 aR) (Jj3 V) (Jj3 (bT.mx (bZ _) cq R (R:2+2=4)).rdc) b9) ?_
  rintro _ dq ⟨dc,rfl,bJ⟩
  obtain⟨bi,j,dj⟩:=Ji bJ 5 R
  refine Tv<|Jb 1 R<|Jh3 [2,2,2] 1 R<|Jf R (xo R R R (by decide))<|Jb 1 R<|Je [1,2,1,2] R<|Jy3 bi Do 7 R Y178 da R λcV cQ dr bj k bR=>Tv<|Jn 1 R<|Ob h λcF ca h=>Jz3 bj Do 7 [] R Y178 da R bR (Du uH<|B.stp<|T3 d j k) bV ca R λbC bA cB ay q bS=>Tv<|Jb 1 R<|Ob h λcv b6 a0=>?_
  clear h
  refine Jv<|Jq3 [0,1,7,8] (λg i s a=>∃b,∃C:VB,∃N P,s=(9,.slice N C.length P)::i/\Stp [8,14,20,25] ay cB b a/\Oc Do 4 b a 7 N P C/\cd (fY (dV n) p0 p1 av) g C=some cv) ⟨_,_,⟨ay,cF,bC,bA,R,Jk3,bS,b6⟩,(KM R)⟩ ?_
  rintro g _ ds ⟨bk,C,N,P,rfl,m,ah,h⟩
  rcases g with _|g
  cases h
  obtain⟨dk,h,ar⟩:=BI h;unfold fY at h
  refine Jv<|Jh3 [2,2,1,2] 1 R<|Jo3 R U178 R R<|Ob h λF cb h=>Jl1 (J:=bk) (E:=Do) (z:=(false:Bool)) 8 R R R R R R R Y178 da R R R R R (λ_ _ _=>R) (Jv2 cb) λaH aE a9 aa c aT=>Tv<|Jb 1 R<|Jq<|Jh3 [2,2,2] 1 R<|Jo3 R U178 R R<|Jb 1 R<|Ob h λa5 b7 b2=>?_
  clear h
  refine Jp3 [0,1,7,8,9,10] (λi s a=>∃b,∃Y:VB,s=i/\Stp [8] aa a9 b a/\Oc Do 4 b a 8 aH aE Y/\F.length=Y.length/\a5=Dv Y) ?_ ?_
  refine Jv<|Jq3 [0,1,7,8,9,10,37] (λg i s a=>∃b x,∃D:VB,s=(38,vi x)::i/\Stp [8] aa a9 b a/\Oc Do 4 b a 8 aH aE D/\F.length=D.length/\0<=x/\Dq ((F.length:Int)-x)=g/\cntM (fZ p0 av C) g x D=some a5) ⟨_,_,⟨aa,0,F,R,Jk3,aT,R,(by decide),(by simp),b7⟩,(KM R)⟩ ?_
  rintro g _ cC ⟨aA,x,D,rfl,H,ai,au,a1,W,h⟩
  rcases g with _|g
  have X:=h;obtain⟨ct,h⟩:=exq X
  have aq:=dcf W
  refine Jf3 R<|Jq<|Jx2 R aq<|Jc1<|Jt<|Jt ?_
  cases h
  have h:=X
  refine Jb1 ?_
  cases h
  exact Jw1 _ ⟨aA,D,R,H.wk R,ai,au,R⟩<|KM R
  obtain⟨ct,h,X⟩:=BI h;unfold fZ at h
  have aq:=dct W
  refine Jf3 R<|Jq<|Jw2 R aq<|Js<|Jp<|Jq<|Jv<|Jf3 R<|Ji3 [2,2,2,2,2,1,2,2,2,2,2,1,2,2,1,2,2,2,2,1] 4 R<|Ob h λcG a2 h=>Jd3 R ah.rdc a2 U178 Z4<|Jc3 R I4 ((ah.stp<|c.tr H).rdc.gBool a2)<|Jn 1 R<|Ob h λcu h b3=>Jg4 [0,1,7,8,9,10,37,38,41,42] 58 cu aA cC [(7,2),(8,2),(9,2),(10,2),(11,1),(12,2),(13,2),(14,1),(15,2),(16,2),(17,2)] [(18,2),(19,1)] tv ?_ ?_
  revert h
  cases c4:cG
  refine JF λh=>Jn 4 R<|Ja4 R<|Jn 2 R<|Ja4 R<|Jn 3 R ?_
  cases h
  exact Jh4 tv R
  have aB:=(T6 j k q m c H)
  refine JT λh=>Jn 1 R<|Jf R (bX R R)<|Je3 R U193 R Z79<|Je3 R U79 R Z37<|Jc3 R I37 ((af.stp aB).ld 2 R R)<|Jn 1 R<|Ob h λdx a3 h=>Jd3 R V a3 U37 Z2<|Jc3 R I2 ((V.stp aB).gInt a3)<|Jn 3 R ?_
  cases h
  exact Jh4 tv R
  rintro _ du _ ⟨rfl,bm,aD⟩
  have h:=b3
  refine Ob h λdy cc h=>Jf R (Jg2 ai.rdc cc U178 Z4 R R au R)<|Ob h λba a4 h=>Jk1 (J:=bm) (E:=Do) 8 [] R R R R R R R R Z4 R R R R (ai.stp aD) a4 λdv bn bv bW=>Tv<|?_
  have b5:F.length=ba.length:=au.trans (Ju2 a4).2.2.2.symm
  refine Jo<|Jz<|Jp<|Jg3 R<|wr2 a1 W aT.len_le ▸ ?_
  cases h
  exact Ja2 ⟨bn,x+1,ba,R,(T3 H aD bv).wk R,bW,b5,nxz a1,nxm W,X⟩ R
  rintro _ dt ⟨bl,Y,rfl,o,bU,b4,rfl⟩
  have h:=yI b2
  refine Jp<|Jh3 [2,2,2,2,2,1,1,2] 5 R<|Ob h λdz ce h=>?_
  have aU:=aQ.stp (T6 j k q m c o)
  have aV:=aR.stp (T6 j k q m c o)
  have aW:=V.stp (T6 j k q m c o)
  have aX:=an.stp (T7 d j k q m c o)
  have aY:=ah.stp (c.tr o)
  have aZ:=af.stp (T6 j k q m c o)
  refine Js3 R call244 (Ret.cast (by simp only[b4,List.cons_append,List.nil_append])<|mQ (J:=Mk bl) (p0:=p0) (Jj3 aU) (Jj3 aV) (Jj3 aW) (Jj3 aX) (Jj3 aY.rdc) (Jj3 bU.rdc) (aZ.map (mp [] 0) R R) ce) ?_
  rintro _ dw ⟨de,cS,cT,rfl,bL,bY⟩
  obtain⟨bo,p,cr⟩:=Ji bL 9 R
  refine Tv<|Ob h λdB cf h=>?_
  have aj:=aY.stp p
  refine Js3 R call180 (jB (J:=Mk bo) (Jj3 aj.rdc) (Jj3 (bY.mx dA cr R (R:9+2=11)).rdc) cf) ?_
  rintro _ cD ⟨df,cY,cU,rfl,bM,b0⟩
  obtain⟨bp,e,cs⟩:=Ji bM 12 R
  refine Tv<|Jb 1 R<|Jh3 [2,2,1,2,2,2,2,2] 2 R ?_
  obtain⟨bq,f,cL⟩:=gD bp cD 14
  have aI:=Sl.st cL (b0.mx dA cs R (R:12+2=14)).rdc
  refine Ob h λcH cg h=>?_
  have aJ:=aU.stp (T3 p e f)
  have aK:=aV.stp (T3 p e f)
  have aL:=aW.stp (T3 p e f)
  have aM:=aX.stp (T3 p e f)
  have aN:=aZ.stp (T3 p e f)
  refine Js3 R call178 (cm (J:=λae=>mp [] 1<|bq ae) (p0:=p0) (Jm2 aJ (mp [] 1) R R) (Jm2 aK (mp [] 1) R R) (Jm2 aL (mp [] 1) R R) (Jm2 aM (mp [] 1) R R) (Jm2 aI (mp [] 1) R R) (aN.map (mp [] 1) R R) cg) ?_
  rintro _ cx ⟨c5,bz,bw,rfl,bD,bN⟩
  obtain⟨Z,t,dg,cM⟩:=Jj bD 15 R
  refine Tv<|?_
  have aO:=bN.mx cM
  refine Jb 5 R<|Jf3 R<|Jq<|Jf3 R<|Ob h λa6 h b1=>Jp3 [0,1,7,8,9] (λi s a=>∃b ac ad,s=(15,.slice ac a6.length ad)::i/\Stp [20] Z cx b a/\Rd Rp.bool b a 0 ac ad a6) ?_ ?_
  revert h
  cases c1:(cH.2==(Int.tmod av 2))
  refine JF λh=>Jy R<|Js ?_
  cases h
  exact Jw1 _ ⟨Z,bz,bw,R,Jk3,aO⟩<|KM R
  refine JT λh=>Jx R<|Ji3 [2,2,1,2] 2 R<|Ob h λdC ch h=>Js3 R call180 (jB (J:=Mk Z) (Jj3<|aI.stp t) (Jj3 aO) ch) ?_
  rintro _ cy ⟨c6,bx,bB,rfl,bE,bO⟩
  obtain⟨bc,br,cn⟩:=Ji bE 18 R
  refine Tv<|Jc 1 R ?_
  obtain⟨bd,bs,cN⟩:=gD bc cy 20
  cases h
  exact Jw1 _ ⟨bd,bx,bB,R,(br.tr bs).wk R,(Sl.st cN (bO.mx dA cn R (R:18+2=20)).rdc)⟩<|KM R
  rintro _ dm ⟨bb,ac,ad,rfl,v,aP⟩
  have h:=b1
  refine Jp<|Jq<|Jh3 [2,1,2] 1 R<|Ob h λcI ci h=>Js3 R call245 (gh (J:=Mk bb) (Jj3 aP) ci) ?_
  rintro _ cz ⟨c7,rfl,bF⟩
  obtain⟨aw,u,dh⟩:=Ji bF 18 R
  refine Tv<|Jb 1 R ?_
  revert h
  cases c2:(!cI)
  refine JF λh=>Jy R<|Js<|Jp<|Jh3 [2,2,2,2,2,2,1,1,2] 6 R<|Ob h λdD cj h=>?_
  have aS:=aj.stp (T5 e f t v u)
  have y:=(T3 t v u)
  refine Js3 R call244 (mQ (J:=Mk aw) (p0:=p0) (Jj3<|aJ.stp y) (Jj3<|aK.stp y) (Jj3<|aL.stp y) (Jj3<|aM.stp y) (Jj3 aS.rdc) (Jj3<|aP.stp u) ((aN.stp y).map (mp [] 0) R R) cj) ?_
  rintro _ dn ⟨c8,cR,cZ,rfl,bG,bP⟩
  obtain⟨bf,ab,co⟩:=Ji bG 20 R
  refine Tv<|Ob h λcJ ck h=>Js3 R call180 (jB (J:=Mk bf) (Jj3 (aS.stp ab).rdc) (Jj3 (bP.mx dA co R (R:20+2=22)).rdc) ck) ?_
  rintro _ dp ⟨c9,aG,aF,rfl,bH,bQ⟩
  obtain⟨bg,aC,cp⟩:=Ji bH 23 R
  refine Tv<|?_
  have ag:=bQ.mx dA cp R (R:23+2=25)
  refine Jb 1 R<|Jh3 [2,1,2] 1 R<|Ob h λcK cl h=>Js3 R call245 (gh (J:=Mk bg) (Jj3 ag.rdc) cl) ?_
  rintro _ cA ⟨db,rfl,bI⟩
  obtain⟨ax,G,di⟩:=Ji bI 26 R
  refine Tv<|Jb 1 R ?_
  revert h
  cases c3:(!cK)
  refine JF λh=>Jy R<|Js<|Jz ?_
  cases h
  exact Ja2 ⟨(λae=>ren [(25,7)]<|ax ae),cJ,aG,aF,R,(Jz2 ((T12 m c o p e f t v u ab aC G).wk R) [(25,7)] R),((ag.stp G).map (ren [(25,7)]) R R),ar⟩ R
  refine JT λh=>Jx R<|Jf3 R<|Ju<|Ja1<|Jw ?_
  cases h
  obtain rfl:=Ds ar
  have h:=yL a0
  refine Ja1 ?_
  obtain⟨bh,bu,cP⟩:=gD ax cA 25
  refine Jb2 (l:=[.tmp 4,.tmp 5]) results178 (Jq2 R<|Jq2 R R) R ?_
  cases h
  exact⟨bh,aG,aF,R,(ap.stp<|d.tr<|j.tr<|k.tr<|q.tr<|m.tr<|c.tr<|o.tr<|p.tr<|e.tr<|f.tr<|t.tr<|v.tr<|u.tr<|ab.tr<|aC.tr<|G.tr bu),(Sl.st cP (ag.stp G).rdc)⟩
  refine JT λh=>Jx R<|Jf3 R<|Ju<|Jw<|Ja1<|Jw ?_
  cases h
  obtain rfl:=Ds ar
  have h:=yL a0
  refine Ja1 ?_
  obtain⟨be,bt,cO⟩:=gD aw cz 7
  refine Jb2 (l:=[.tmp 4,.tmp 5]) results178 (Jq2 R<|Jq2 R R) R ?_
  cases h
  exact⟨be,N,P,R,(ap.stp<|T14 d j k q m c o p e f t v u bt),(Sl.st cO (aj.stp<|T5 e f t v u).rdc)⟩
  refine JT λh=>Jx R<|Jf3 R<|Ju<|Jw<|Jb2 (l:=[.tmp 4,.tmp 5]) results178 (Jq2 R<|Jq2 R R) R ?_
  cases h
  exact⟨az,A,E,R,(ap.stp d),(B.stp d)⟩
theorem sY {z x B y A C}{p0:Parity}(T:Rd Ri J w 0 z x p0.Arena.Owner) (U:Rd Rs J w 0 B y p0.Arena.Next) (n:Rd Ri J w 0 A C p0.Prio){r:Bool}(h:lw p0=some r):Ret prog 116 [.agg #[.slice z p0.Arena.Owner.length x,.slice B p0.Arena.Next.length y,.slice A p0.Prio.length C]] w (Pvb J w r):=by
 unfold lw at h
 refine Jl3 J func116 R ntmps116 R λo=>Je [1,2] R<|Jt3 J 2 R λae al O b m=>Tv<|Jb 1 R<|Jq<|Je [2,1,1,2,2,2,1,2,2,2,1,2,2,2] R<|Je3 R U79 R Z75<|Jc4 tv R (Jd4 (haE<|m.lds 0 2 R) I75 Z75 R)<|Ob h λad Y h=>Js3 R call182 (ui (J:=Mk O) (p0:=p0.Arena) (Jj3<|T.stp b) (Jj3<|U.stp b) Y) ?_
 rintro _ ab ⟨aj,rfl,S⟩
 obtain⟨N,a,ak⟩:=Ji S 3 R
 refine Tv<|Jn 2 R<|Ob h λH h V=>Jg4 [1] 18 H N ab [(5,2),(6,1),(7,2),(8,2),(9,2),(10,1),(11,2),(12,2),(13,2)] [] tv ?_ ?_
 revert h
 cases af:(!ad)
 refine JF λh=>Je3 R U79 R Z37 ?_
 have D:=m.stp a
 refine Jc3 R I37 (D.ld 2 R R)<|Jo3 R U37 R R<|Je3 R U79 R Z75<|Je3 R U75 R Z37<|Jc3 R I37 (D.ld 0 R R)<|Jo3 R U37 R R<|Jn 2 R ?_
 cases h
 exact Jh4 tv R
 refine JT λh=>Jn 1 R<|Ja4 R<|Jn 3 R<|Ja4 R<|Jn 3 R ?_
 cases h
 exact Jh4 tv R
 rintro _ L _ ⟨rfl,g,d⟩
 have h:=V
 refine Jd ?_
 revert h
 cases ag:H
 refine JF λh=>Jy R<|Js<|Jp<|Jq<|Je [2,1,2,2] R<|Je3 R U79 R Z37<|Jc3 R I37 ((m.stp<|a.tr d).ld 2 R R)<|Jo3 R U37 R R<|Jb 1 R<|Ob h λK X E=>?_
 clear h
 refine Jx1 (λk q=>∃s,k=[]/\Stp [] g L s q/\K=Dv ()) ?_ ?_
 refine Jv<|Jq3 [20,21] (λf M k q=>∃s c,k=(22,vi c)::M/\Stp [] g L s q/\0<=c/\Dq ((p0.Prio.length:Int)-c)=f/\cntM (iE p0) f c ()=some K) ⟨_,_,⟨g,0,R,Jk3,(by decide),(by simp),X⟩,(KM R)⟩ ?_
 rintro f _ aa ⟨t,c,rfl,i,F,j,h⟩
 rcases f with _|f
 have e:=h;obtain⟨Z,h⟩:=exq e
 have p:=dcf j
 refine Jf3 R<|Jq<|Jx2 R p<|Jc1<|Jt<|Jt ?_
 cases h
 have h:=e
 refine Jb1 ?_
 cases h
 exact Jw1 _ ⟨t,R,i.wk R,R⟩ KN
 obtain⟨Z,h,e⟩:=BI h;unfold iE at h
 have p:=dct j
 refine Jf3 R<|Jq<|Jw2 R p<|Js<|Jp<|Jq<|Jv<|Je [2,1,2] R<|Ob h λac G h=>Jd3 R n G U37 Z2<|Jc3 R I2 ((n.stp<|T4 b a d i).gInt G)<|Jb 1 R<|Jh3 [2,2,2,2,2,2] 3 R<|Ob h λI h W=>Jg4 [20,21,22] 31 I t aa [(3,2),(4,2),(5,2)] [] tv ?_ ?_
 revert h
 cases ah:decide (ac<0)
 refine JF λh=>Jn 3 R ?_
 cases h
 exact Jh4 tv R
 refine JT λh=>Jn 3 R ?_
 cases h
 exact Jh4 tv R
 rintro _ an _ ⟨rfl,u,v⟩
 have h:=W
 refine Jd ?_
 revert h
 cases ai:I
 refine JF λh=>Jy R<|Js<|Jz<|Jp<|Jg3 R<|wr2 F j n.len_le ▸ ?_
 cases h
 exact Ja2 ⟨u,c+1,R,(i.tr v).wk R,nxz F,nxm j,e⟩ R
 refine JT λh=>Jx R<|Jf3 R<|Ju<|Ja1<|Jw<|Jw ?_
 cases h
 obtain rfl:=Ds e
 have h:=yL E
 refine Ja1<|Jr2<|Jw<|Jb2 (l:=[.tmp 2]) results116 (Jq2 R R) R ?_
 cases h
 exact⟨u,R,(o.stp<|T5 b a d i v)⟩
 rintro _ am ⟨P,rfl,Q,rfl⟩
 have h:=yI E
 refine Jp<|Jf3 R<|Ju<|Jb2 (l:=[.tmp 2]) results116 (Jq2 R R) R ?_
 cases h
 exact⟨P,R,(o.stp<|T4 b a d Q)⟩
 refine JT λh=>Jx R<|Jf3 R<|Ju<|Jw<|Jb2 (l:=[.tmp 2]) results116 (Jq2 R R) R ?_
 cases h
 exact⟨g,R,(o.stp<|T3 b a d)⟩
theorem pS {M N K L}{p0:Arena}{I Z}{p1:VI}(aA:Rd Ri J w 0 M N p0.Owner) (aB:Rd Rs J w 0 K L p0.Next) (D:Rd Ri J w 0 I Z p1){r:Arena}(h:mM p0 p1=some r):Ret prog 246 [.agg #[.slice M p0.Owner.length N,.slice K p0.Next.length L],.slice I p1.length Z] w (λaM a=>∃(b:Col) (V:Option Addr) (X:Nat) (W:Option Addr) (Y:Nat),aM= .agg #[.slice V r.Owner.length X,.slice W r.Next.length Y]/\Ent J w b a/\Oc E6 2 b a 2 V X r.Owner/\Oc (Dp E6 2) 37 b a 3 W Y r.Next):=by
 unfold mM at h
 refine Jl3 J func246 R ntmps246 R λaC=>Je [1,1] R<|Jt3 J 2 R λaR aW ad p au=>Tv<|Ju3 ad 3 R X75 R λaS a1 ag i az=>Tv<|Jd<|Je [1,1,1,1] R<|Jc4 tv R (Jd4 (haE (au.stp i).cells) I75 Z75 R)<|Ob h λm aK h=>Js3 R call268 (rS (J:=Mk ag) (p0:=p0) (Jj3<|aA.stp<|p.tr i) (Jj3<|aB.stp<|p.tr i) aK) ?_
 rintro _ aX ⟨aV,al,ak,t,u,rfl,an,ao,ap⟩
 obtain⟨ac,B,T⟩:=Ji an 4 R
 refine Tv<|Ju3 ac 8 R X75 R λaT aY n f aq=>Tv<|Ji4 n 8 R Z75 R aq R λaa g O=>Tv<|Jd<|Jq<|Jh3 [2,2,2] 1 R<|Jo3 R U37 R R<|Jb 1 R<|Ob h λU aI aD=>?_
 clear h
 refine Jp3 [4,5] (λc e a=>∃b,∃A:VV,e=c/\Stp [7,9] n aa b a/\Oc (Dp E6 2) 37 b a 7 t u A/\m.Next.length=A.length/\U=Dv A) ?_ ?_
 refine Jv<|Jq3 [4,5,10,11] (λj c e a=>∃b d,∃k:VV,e=(12,vi d)::c/\Stp [7,9] n aa b a/\Oc (Dp E6 2) 37 b a 7 t u k/\m.Next.length=k.length/\0<=d/\Dq ((p1.length:Int)-d)=j/\cntM (jr p1) j d k=some U) ⟨_,_,⟨n,0,m.Next,R,Jk3,((ap.mx (cQ (bZ _) _) T R (R:4+3=7)).stp (f.tr g)),R,(by decide),(by simp),aI⟩,(KM R)⟩ ?_
 rintro j _ aN ⟨o,d,k,rfl,s,v,z,P,x,h⟩
 rcases j with _|j
 have y:=h;obtain⟨aL,h⟩:=exq y
 have E:=dcf x
 refine Jf3 R<|Jq<|Jx2 R E<|Jc1<|Jt<|Jt ?_
 cases h
 have h:=y
 refine Jb1 ?_
 cases h
 exact Jw1 _ ⟨o,k,R,s.wk R,v,z,R⟩<|KM R
 obtain⟨aL,h,y⟩:=BI h;unfold jr at h
 have E:=dct x
 refine Jf3 R<|Jq<|Jw2 R E<|Js<|Jp<|Jq<|Jv<|Jh3 [2,2,1,2,2] 1 R<|Ob h λab Q h=>Jd3 R D Q U37 Z2<|Jc3 R I2 ((D.stp<|T6 p i B f g s).gInt Q)<|Jb 2 R<|Jf3 R<|Ob h λF h aE=>Jp3 [4,5,10,11,12] (λc e a=>∃b,e=c/\Stp [7,9] o aN b a/\Oc (Dp E6 2) 37 b a 7 t u F/\m.Next.length=F.length) ?_ ?_
 revert h
 cases aU:decide (0<=ab)
 refine JF λh=>Jy R<|Js ?_
 cases h
 exact Jw1 _ ⟨o,R,Jk3,v,z⟩<|KM R
 refine JT λh=>Jx R<|Ja [2,1,2,2,1,2,1] R<|Je3 R U75 R Z31<|Jc3 R I31 ((O.stp s).ld 1 R R)<|Jn 2 R<|Je4 o 9 [ab] R Y37 bS R λaP aQ a2 af H aw=>Tv<|Ob h λa5 aJ h=>Jf R (Jg2 v.rdc aJ U31 Z37 R R z R)<|Ob h λaO S h=>Jk1 (J:=af) (E:=(Dp E6 2)) 7 [9] R R R R R R R R Z37 R ⟨_,_,R,aw⟩ R R (v.stp H) S λa3 ah aj ax=>Tv<|?_
 have aH:m.Next.length=aO.length:=z.trans (Ju2 S).2.2.2.symm
 refine Jo ?_
 cases h
 exact Jw1 _ ⟨ah,R,(H.tr aj).wk R,ax,aH⟩<|KM R
 rintro _ a0 ⟨ae,rfl,ai,av,aG⟩
 have h:=aE
 refine Jz<|Jp<|Jg3 R<|wr2 P x D.len_le ▸ ?_
 cases h
 exact Ja2 ⟨ae,d+1,F,R,(s.tr ai).wk R,av,aG,nxz P,nxm x,y⟩ R
 rintro _ aZ ⟨G,A,rfl,q,ar,aF,rfl⟩
 have h:=yI aD
 refine Jp<|Je [1,1] R<|Jc4 tv R (Jd4 (haE (O.stp q).cells) I75 Z75 R)<|Ji4 G 3 R Z75 R (az.stp<|T4 B f g q) R λa4 C ay=>Tv<|Jd<|Ju<|Jb2 (l:=[.cell 4 75]) results246 (cg R ay I75 Z75 R R) R ?_
 cases h
 exact⟨(λam=>ren [(6,2),(7,3)]<|G am),al,ak,t,u,(by simp only[aF]),((aC.stp<|T7 p i B f g q C).map (ren [(6,2),(7,3)]) R R),(((ao.mx (bZ _) T R (R:4+2=6)).stp (T4 f g q C)).map (ren [(6,2),(7,3)]) R R),((ar.stp C).map (ren [(6,2),(7,3)]) R R)⟩
theorem eR {a c}{p0:VI}{c1_0:Int}{b}(g:Rd Ri J w 0 a c p0) (i:Bc J w 0 b 2 [vi c1_0]){r:Bool}(h:cB p0 c1_0=some r):Ret prog 216 [.slice a p0.length c,.func (.func 217) #[] #[.pointer (some ⟨b,0,none⟩)]] w (Pvb J w r):=by
 unfold cB at h
 refine Jl3 J func216 R ntmps216 R λj=>Jf3 R<|Jh3 [2,2,1,2,2] 2 R<|Ob h λp k h=>Js3 R call47 (fJ (J:=Mk J) (Jj3 g) (i.map (mp [] 0) R R) k) ?_
 rintro _ o ⟨m,rfl,f⟩
 obtain⟨d,e,n⟩:=Ji f 2 R
 refine Tv<|Jb 2 R<|Ju<|Jb2 (l:=[.tmp 4]) results216 (Jq2 R R) R ?_
 cases h
 exact⟨d,R,(j.stp e)⟩
theorem tn {p0:Sig}{p1:Int}{p2:Int}  {r:Int}(h:lU p0 p1 p2=some r):Ret prog 94 [.agg #[vi p0.In,vi p0.Out],vi p1,vi p2] w (Pvi J w r):=by
 unfold lU at h
 refine Jl3 J func94 R ntmps94 R λj=>Je [1,2] R<|Jt3 J 2 R λT aj o i c=>Tv<|Jb 1 R<|Jq<|Je [1,1,2,2,2,2,1,1,2,1,2,2,2,2,2,1,1,2,1,2,2] R<|Jc4 tv R (Jd4 (haE c.cells) I28 Z28 R)<|Ob h λP M h=>Js3 R call58 (jY (J:=Mk o) (p0:=p0) M) ?_
 rintro _ O ⟨ac,rfl,D⟩
 obtain⟨g,a,ad⟩:=Ji D 3 R
 refine Tv<|Jn 2 R<|Ob h λk h E=>Jg4 [1,2,3] 18 k g O [(4,2),(5,2),(6,1),(7,1),(8,2),(9,1),(10,2),(11,2)] [(12,2),(13,2),(14,2),(15,1),(16,1),(17,2),(18,1),(19,2),(20,2)] tv ?_ ?_
 revert h
 cases U:(!P)
 refine JF λh=>Jn 1 R<|Je3 R U28 R Z2<|Jc3 R I2 ((c.stp a).ld 0 R R)<|Ob h λaq G h=>Js3 R call62 (d9 (J:=Mk g) G) ?_
 rintro _ ak ⟨X,rfl,y⟩
 obtain⟨n,s,ae⟩:=Ji y 5 R
 refine Tv<|Jn 1 R<|Ob h λar H h=>Js3 R C59 (dD (J:=Mk n) H) ?_
 rintro _ al ⟨Y,rfl,z⟩
 obtain⟨Q,t,af⟩:=Ji z 7 R
 refine Tv<|Jn 2 R ?_
 cases h
 exact Jv1 _ tv ⟨R,_,(s.tr t).wk R⟩<|KM R
 refine JT λh=>Jn 2 R<|Ja4 R<|Ja4 R<|Jn 1 R<|Ja4 R<|Jn 2 R ?_
 cases h
 exact Jh4 tv R
 rintro _ N _ ⟨rfl,e,b⟩
 have h:=E
 refine Jn 1 R<|Ob h λm h F=>Jg4 [1,2,3] 27 m e N [(13,2),(14,2),(15,1),(16,1),(17,2),(18,1),(19,2),(20,2)] [] tv ?_ ?_
 revert h
 cases V:k
 refine JF λh=>Jn 1 R<|Je3 R U28 R Z2<|Jc3 R I2 ((c.stp<|a.tr b).ld 1 R R)<|Ob h λau I h=>Js3 R call62 (d9 (J:=Mk e) I) ?_
 rintro _ am ⟨Z,rfl,A⟩
 obtain⟨p,u,ag⟩:=Ji A 5 R
 refine Tv<|Jn 1 R<|Ob h λav K h=>Js3 R C59 (dD (J:=Mk p) K) ?_
 rintro _ an ⟨aa,rfl,B⟩
 obtain⟨S,v,ah⟩:=Ji B 7 R
 refine Tv<|Jn 2 R ?_
 cases h
 exact Jv1 _ tv ⟨R,_,(u.tr v).wk R⟩<|KM R
 refine JT λh=>Jn 2 R<|Ja4 R<|Ja4 R<|Jn 1 R<|Ja4 R<|Jn 2 R ?_
 cases h
 exact Jh4 tv R
 rintro _ ao _ ⟨rfl,f,d⟩
 have h:=F
 refine Jd ?_
 revert h
 cases W:m
 refine JF λh=>Jy R<|Js<|Jp<|Jh3 [2,2,1,1,2,2,2,2] 1 R<|Je3 R U28 R Z2<|Jc3 R I2 ((c.stp<|T3 a b d).ld 0 R R)<|Ob h λaw L h=>Js3 R call62 (d9 (J:=Mk f) L) ?_
 rintro _ ap ⟨ab,rfl,C⟩
 obtain⟨q,x,ai⟩:=Ji C 5 R
 refine Tv<|Jb 4 R<|Ju<|Jb2 (l:=[.tmp 6]) results94 (Jq2 R R) R ?_
 cases h
 exact⟨q,R,(j.stp<|T5 i a b d x)⟩
 refine JT λh=>Jx R<|Jf3 R<|Ju<|Jw<|Jb2 (l:=[.tmp 6]) results94 (Jq2 R R) R ?_
 cases h
 exact⟨f,R,(j.stp<|T4 i a b d)⟩
theorem ov {a7 bc a9 ba a3 a2 a4 a8 a1 a6}{p0:l7Game}{aZ bO}{p1:VB}{p2:Int}{a0 bP}{aA:VB}(aw:Rd Ri J w 0 a7 bc p0.owner) (bh:Rd Ri J w 0 a9 ba p0.prio) (bi:Rd Rs J w 0 a3 a2 p0.next) (aL:Rd Rs J w 0 a4 a8 p0.prev) (bj:Rd Ri J w 0 a1 a6 p0.pick) (Z:Rd Rp.bool J w 0 aZ bO p1) (bk:Rd Rp.bool J w 0 a0 bP aA){r:VB}(h:jn p0 p1 p2 aA=some r):Ret prog 272 [.agg #[.slice a7 p0.owner.length bc,.slice a9 p0.prio.length ba,.slice a3 p0.next.length a2,.slice a4 p0.prev.length a8,.slice a1 p0.pick.length a6],.slice aZ p1.length bO,vi p2,.slice a0 aA.length bP] w (Pvs Do 4 J w r):=by
 unfold jn at h
 refine Jl3 J func272 R ntmps272 R λcO=>Je [1,2] R<|Jt3 J 2 R λdS ef b2 A bg=>Tv<|Jb 1 R<|Jh3 [2,2,1,2] 1 R<|Jo3 R U178 R R<|Ob h λp dm h=>Jl1 (J:=b2) (E:=Do) (z:=(false:Bool)) 3 R R R R R R R Y178 da R R R R R (λ_ _ _=>R) (Jv2 dm) λv u ep b7 q cK=>Tv<|Jb 1 R<|Jh3 [2,2,1,2] 1 R<|Jo3 R U178 R R<|Ob h λs dn h=>Jl1 (J:=b7) (E:=E6) (z:=(0:Int)) 4 R R R R R R R Y37 bS R R R R R (λ_ _ _=>R) (Jv2 dn) λD E ev bW k ct=>Tv<|Jb 1 R<|Je [1,2] R<|Jy3 bW E6 5 R Y37 bS R λcl cj bR aB i cx=>Tv<|Jb 1 R<|Jq<|Jf3 R<|Ob h λbM dg cT=>?_
 clear h
 refine Jp3 [1,2,4,9,10] (λc f a=>∃b,∃o:VI×VB×VI,∃ai al,f=(11,.slice ai o.1.length al)::c/\Stp [3,4,5] aB bR b a/\Oc E6 2 b a 5 ai al o.1/\Oc Do 4 b a 3 v u o.2.1/\p.length=o.2.1.length/\Oc E6 2 b a 4 D E o.2.2/\s.length=o.2.2.length/\bM=Dv o) ?_ ?_
 refine Jv<|Jq3 [1,2,3,4,9,10] (λg c f a=>∃b x,∃m:VI×VB×VI,∃V X,f=(11,.slice V m.1.length X)::(12,vi x)::c/\Stp [3,4,5] aB bR b a/\Oc E6 2 b a 5 V X m.1/\Oc Do 4 b a 3 v u m.2.1/\p.length=m.2.1.length/\Oc E6 2 b a 4 D E m.2.2/\s.length=m.2.2.length/\0<=x/\Dq ((p1.length:Int)-x)=g/\cntM (fC p0 p1 aA) g x m=some bM) ⟨_,_,⟨aB,0,(([]:VI),p,s),cl,cj,R,Jk3,cx,(cK.stp<|k.tr i),R,(ct.stp i),R,(by decide),(by simp),dg⟩,(KM R)⟩ ?_
 rintro g _ dy ⟨ac,x,m,V,X,rfl,K,aK,ar,ay,au,az,cZ,bl,h⟩
 rcases g with _|g
 have ax:=h;obtain⟨dt,h⟩:=exq ax
 have O:=dcf bl
 refine Jq<|Jh3 [2,2,2,2] 2 R<|Jo3 R U178 R R<|Jb 1 R<|Jx2 R O<|Jc1<|Jt<|Jt ?_
 cases h
 have h:=ax
 refine Jb1 ?_
 cases h
 exact Jw1 _ ⟨ac,(m.1,m.2.1,m.2.2),V,X,R,K.wk R,aK,ar,ay,au,az,R⟩<|KM R
 obtain⟨dt,h,ax⟩:=BI h;unfold fC at h
 have O:=dct bl
 refine Jq<|Jh3 [2,2,2,2] 2 R<|Jo3 R U178 R R<|Jb 1 R<|Jw2 R O<|Js<|Jp<|Jq<|Jv<|Jq<|Jh3 [2,2,2,1] 2 R<|Ob h λdC bt h=>Jd3 R Z bt U178 Z4 ?_
 have av:=Z.stp (T5 A q k i K)
 refine Jc3 R I4 (av.gBool bt)<|Jd<|Ob h λaN h cW=>Jp3 [1,2,3,4,9,10,11,12] (λc f a=>∃b,f=c/\Stp [4] ac dy b a/\Oc E6 2 b a 4 D E aN/\s.length=aN.length) ?_ ?_
 revert h
 cases d4:dC
 refine JF λh=>Jy R<|Js ?_
 cases h
 exact Jw1 _ ⟨ac,R,Jk3,au,az⟩<|KM R
 have T:=(T5 A q k i K)
 refine JT λh=>Jx R<|Ji3 [2,2,1,2,2,1,2,1] 2 R<|Jc4 tv R (Jd4 (haE (bg.stp<|T4 q k i K).cells) I210 Z210 R)<|Jn 2 R<|Ob h λeD dp h=>Js3 R call249 (pg (J:=Mk ac) (p0:=p0) (Jj3<|aw.stp T) (Jj3<|bh.stp T) (Jj3<|bi.stp T) (Jj3<|aL.stp T) (Jj3<|bj.stp T) (Jj3 av) dp) ?_
 rintro _ eq ⟨d8,rfl,cr⟩
 obtain⟨b6,aV,ea⟩:=Ji cr 6 R
 refine Tv<|Ob h λeE dq h=>Jf R (Jg2 au.rdc dq U37 Z2 R R az R)<|Ob h λdI bD h=>Jk1 (J:=b6) (E:=E6) 4 [] R R R R R R R R Z2 R R R R (au.stp aV) bD λer b8 ci cH=>Tv<|?_
 have db:s.length=dI.length:=az.trans (Ju2 bD).2.2.2.symm
 refine Jo ?_
 cases h
 exact Jw1 _ ⟨b8,R,(aV.tr ci).wk R,cH,db⟩<|KM R
 rintro _ dz ⟨b5,rfl,C,cG,c9⟩
 have h:=cW
 refine Jp<|Jh3 [2,2,2,1,2,2,2,2,1,2] 2 R<|Ob h λdD bu h=>Jd3 R av bu U178 Z4<|Jc3 R I4 ((av.stp C).gBool bu)<|Jn 1 R<|Ob h λbJ h cX=>Jg4 [1,2,3,4,9,10,11,12] 50 bJ b5 dz [(5,2),(6,2),(7,2),(8,1),(9,2)] [] tv ?_ ?_
 revert h
 cases d5:dD
 refine JF λh=>Jn 3 R<|Ja4 R<|Jn 1 R ?_
 cases h
 exact Jh4 tv R
 refine JT λh=>Jn 2 R<|Ob h λeF bv h=>Jd3 R bk bv U178 Z4<|Jc3 R I4 ((bk.stp<|T6 A q k i K C).gBool bv)<|Jn 1 R ?_
 cases h
 exact Jh4 tv R
 rintro _ dA _ ⟨rfl,aE,L⟩
 have h:=cX
 refine Jd<|Ob h λS h cY=>Jp3 [1,2,3,4,9,10,12] (λc f a=>∃b af ah,f=(11,.slice af S.1.length ah)::c/\Stp [3,5] aE dA b a/\Oc E6 2 b a 5 af ah S.1/\Oc Do 4 b a 3 v u S.2/\p.length=S.2.length) ?_ ?_
 revert h
 cases d6:bJ
 refine JF λh=>Jy R<|Js ?_
 cases h
 exact Jw1 _ ⟨aE,V,X,R,Jk3,(aK.stp<|C.tr L),(ar.stp<|C.tr L),ay⟩<|KM R
 refine JT λh=>Jx R<|Jh3 [2,2,2,1] 2 R<|Ob h λeG dr h=>Jf R (Jg2 ar.rdc dr U178 Z4 R R ay R)<|Ob h λdJ bE h=>Jk1 (J:=aE) (E:=Do) 3 [] R R R R R R R R Z4 R R R R (ar.stp<|C.tr L) bE λet ca aX cL=>Tv<|?_
 have dd:p.length=dJ.length:=ay.trans (Ju2 bE).2.2.2.symm
 refine Jd<|Ji3 [2,2,1,1,2] 2 R<|Je4 ca 6 [x] R Y37 bS R λdO dP eu cb aH cM=>Tv<|Ob h λeH ds h=>Jz3 cb E6 5 [] R Y37 bS R (aK.stp<|T4 C L aX aH) (Du (cc _) cM.rdc) bV ds R λcm cn ew ce aY cN=>Tv<|Jc 1 R ?_
 cases h
 exact Jw1 _ ⟨ce,cm,cn,R,(T3 aX aH aY).wk R,cN,(cL.stp<|aH.tr aY),dd⟩<|KM R
 rintro _ es ⟨b9,af,ah,rfl,aW,cI,cJ,dc⟩
 have h:=cY
 refine Jz<|Jp<|Jg3 R ?_
 have dh:Dr .i64 (x+1)=x+1:=wr1 cZ (Jn2 O) Z.len_le
 rw[dh]
 have O:=Jn2 O
 cases h
 exact Ja2 ⟨b9,x+1,(S.1,S.2,aN),af,ah,R,(T4 K C L aW).wk R,cI,cJ,dc,(cG.stp<|L.tr aW),c9,by omega,by omega,ax⟩ R
 rintro _ bT ⟨aD,o,ai,al,rfl,I,cD,cE,c7,cF,c8,rfl⟩
 have h:=yI cT
 refine Jp<|Jq<|Jf3 R<|Ob h λbN de cP=>?_
 clear h
 refine Jp3 [9] (λc f a=>∃b,∃G:VI×Int×VB×VI,∃a5 bb,f=c/\Stp [3,4,5] aD bT b a/\Oc E6 2 b a 5 a5 bb G.1/\Oc Do 4 b a 3 v u G.2.2.1/\p.length=G.2.2.1.length/\Oc E6 2 b a 4 D E G.2.2.2/\s.length=G.2.2.2.length/\bN=Dv G) ?_ ?_
 refine Jv<|Jq3 [1,2,4,9,10] (λg c f a=>∃b,∃d:VI×Int×VB×VI,∃Y W,f=(11,.slice Y d.1.length W)::(13,vi d.2.1)::c/\Stp [3,4,5] aD bT b a/\Oc E6 2 b a 5 Y W d.1/\Oc Do 4 b a 3 v u d.2.2.1/\p.length=d.2.2.1.length/\Oc E6 2 b a 4 D E d.2.2.2/\s.length=d.2.2.2.length/\cd (io p0 p1 p2) g d=some bN) ⟨_,_,⟨aD,(o.1,(0:Int),o.2.1,o.2.2),ai,al,R,Jk3,cD,cE,c7,cF,c8,de⟩,(KM R)⟩ ?_
 rintro g _ bQ ⟨ab,d,Y,W,rfl,B,am,bd,bn,be,bo,h⟩
 rcases g with _|g
 cases h
 obtain⟨eb,h,bm⟩:=BI h;unfold io at h
 refine Jq<|Jh3 [2,2,2,2] 2 R<|Jo3 R U37 R R<|Jb 1 R ?_
 revert h
 cases dX:decide (d.2.1<(d.1.length:Int))
 refine JF λh=>Jy R<|Jc1<|Jt<|Jt ?_
 cases h
 have h:=bm
 refine Jb1 ?_
 cases h
 exact Jw1 _ ⟨ab,(d.1,d.2.1,d.2.2.1,d.2.2.2),Y,W,R,B.wk R,am,bd,bn,be,bo,R⟩<|KM R
 refine JT λh=>Jx R<|Js<|Jp<|Jq<|Jv<|Jh3 [2,2,2,1,2] 2 R<|Ob h λdE bw h=>Jd3 R am.rdc bw U37 Z2<|Jc3 R I2 (am.rdc.gInt bw)<|Jb 1 R<|Jf3 R<|Ob h λbL df cQ=>?_
 clear h
 refine Jp3 [1,2,4,9,10,13] (λc f a=>∃b,∃n:VI×Int×VB×VI,∃ae ag,f=(11,.slice ae n.1.length ag)::c/\Stp [3,4,5] ab bQ b a/\Oc E6 2 b a 5 ae ag n.1/\Oc Do 4 b a 3 v u n.2.2.1/\p.length=n.2.2.1.length/\Oc E6 2 b a 4 D E n.2.2.2/\s.length=n.2.2.2.length/\bL=Dv n) ?_ ?_
 refine Jv<|Jq3 [1,2,4,9,10,13,14] (λg c f a=>∃b,∃e:VI×Int×VB×VI,∃N M,f=(11,.slice N e.1.length M)::(15,vi e.2.1)::c/\Stp [3,4,5] ab bQ b a/\Oc E6 2 b a 5 N M e.1/\Oc Do 4 b a 3 v u e.2.2.1/\p.length=e.2.2.1.length/\Oc E6 2 b a 4 D E e.2.2.2/\s.length=e.2.2.2.length/\cd (eo p0 p1 p2 dE) g e=some bL) ⟨_,_,⟨ab,(d.1,(0:Int),d.2.2.1,d.2.2.2),Y,W,R,Jk3,am,bd,bn,be,bo,df⟩,(KM R)⟩ ?_
 rintro g _ du ⟨aO,e,N,M,rfl,y,an,F,P,ao,aa,h⟩
 rcases g with _|g
 cases h
 obtain⟨ec,h,aM⟩:=BI h;unfold eo at h
 refine Jq<|Jh3 [2,2,1,2,2,1,2,2] 1 R<|Je3 R U210 R Z31 ?_
 have ap:=bg.stp (T6 q k i I B y)
 refine Jc3 R I31 (ap.ld 3 R R)<|Jn 1 R<|Ob h λdF bx h=>Jd3 R aL bx U31 Z37 ?_
 have aq:=aL.stp (T7 A q k i I B y)
 obtain⟨dQ,ed,dV,c0⟩:=aq.gSl bx
 refine Jc3 R I37 c0<|Jo3 R U37 R R<|Jb 1 R ?_
 revert h
 cases dY:decide (e.2.1<(dF.length:Int))
 refine JF λh=>Jy R<|Jc1<|Jt<|Jt ?_
 cases h
 have h:=aM
 refine Jb1 ?_
 cases h
 exact Jw1 _ ⟨aO,(e.1,e.2.1,e.2.2.1,e.2.2.2),N,M,R,y.wk R,an,F,P,ao,aa,R⟩<|KM R
 refine JT λh=>Jx R<|Js<|Jp<|Jq<|Jv<|Je [2,1,2,2,1,2,2,1,2] R<|Je3 R U210 R Z31<|Jc3 R I31 (ap.ld 3 R R)<|Jn 1 R<|Ob h λeI bz h=>Jd3 R aq bz U31 Z37 ?_
 obtain⟨dR,ee,bf,c1⟩:=aq.gSl bz
 refine Jc3 R I37 c1<|Jn 1 R<|Ob h λdG bA h=>Jd3 R bf bA U37 Z2<|Jc3 R I2 (bf.gInt bA)<|Jb 1 R<|Jq<|Jh3 [2,2,2,1,2,2,2,2,2,1,2,2,1,2,2,1,2,2] 2 R<|Ob h λdH bB h=>Jd3 R Z bB U178 Z4<|Jc3 R I4 ((Z.stp<|T7 A q k i I B y).gBool bB)<|Jn 2 R<|Ob h λbK h cR=>Jg4 [1,2,4,9,10,11,13,14,15,16] 96 bK aO du [(6,2),(7,2),(8,2),(9,1),(10,2)] [(11,2),(12,1),(13,2),(14,2),(15,1),(16,2),(17,2)] tv ?_ ?_
 revert h
 cases dZ:(!dH)
 refine JF λh=>Jn 2 R<|Ob h λeJ bC h=>Jf R (Jg2 F.rdc bC U178 Z4 R R P R)<|Jc3 R I4 (F.rdc.gBool bC)<|Jn 1 R ?_
 cases h
 exact Jh4 tv R
 refine JT λh=>Jn 3 R<|Ja4 R<|Jn 1 R ?_
 cases h
 exact Jh4 tv R
 rintro _ dv _ ⟨rfl,aP,j⟩
 have h:=cR
 refine Jn 1 R<|Ob h λbH h cS=>Jg4 [1,2,4,9,10,11,13,14,15,16] 103 bH aP dv [(12,1),(13,2),(14,2),(15,1),(16,2),(17,2)] [] tv ?_ ?_
 revert h
 cases d0:bK
 have ad:=(T8 A q k i I B y j)
 refine JF λh=>Jc4 tv R (Jd4 (haE (ap.stp j).cells) I210 Z210 R)<|Jn 2 R<|Ob h λex di h=>Js3 R call269 (qO (J:=Mk aP) (p0:=p0) (Jj3<|aw.stp ad) (Jj3<|bh.stp ad) (Jj3<|bi.stp ad) (Jj3<|aq.stp j) (Jj3<|bj.stp ad) di) ?_
 rintro _ ei ⟨d7,rfl,cq⟩
 obtain⟨dL,ch,d9⟩:=Ji cq 6 R
 refine Tv<|Jn 2 R ?_
 cases h
 exact Jv1 _ tv ⟨R,_,ch.wk R⟩<|KM R
 refine JT λh=>Ja4 R<|Jn 2 R<|Ja4 R<|Jn 2 R ?_
 cases h
 exact Jh4 tv R
 rintro _ ej _ ⟨rfl,aQ,t⟩
 have h:=cS
 refine Jd ?_
 revert h
 cases d1:bH
 refine JF λh=>Jy R<|Js<|Jp<|Jh3 [2,2,2,1,2,2,1] 2 R<|Ob h λey bq h=>Jf R (Jg2 ao.rdc bq U37 Z2 R R aa R) ?_
 have aI:=ao.stp (j.tr t)
 refine Jc3 R I2 (aI.rdc.gInt bq)<|Jn 1 R<|Ob h λez dj h=>Jf R (Jg2 aI.rdc dj U37 Z2 R R aa R)<|Ob h λbU bF h=>Jk1 (J:=aQ) (E:=E6) 4 [] R R R R R R R R Z2 R R R R aI bF λdw bZ H aJ=>Tv<|?_
 have bp:s.length=bU.length:=aa.trans (Ju2 bF).2.2.2.symm
 refine Jd<|Je [2,1,2,2,1,2,2,2,2,2,2,1,2,2] R<|Je3 R U210 R Z37<|Jc3 R I37 ((ap.stp<|T3 j t H).ld 0 R R)<|Jn 1 R<|Ob h λdB br h=>Jd3 R aw br U37 Z2<|Jc3 R I2 ((aw.stp<|T10 A q k i I B y j t H).gInt br)<|Jn 3 R<|Ob h λbI h cU=>Jg4 [1,2,4,9,10,11,13,14,15,16] 123 bI bZ dw [(8,2),(9,2),(10,2),(11,1),(12,2),(13,2)] [] tv ?_ ?_
 revert h
 cases d2:(dB==p2)
 refine JF λh=>Jn 2 R<|Ob h λeA bs h=>Jf R (Jg2 aJ.rdc bs U37 Z2 R R bp R)<|Jc3 R I2 (aJ.rdc.gInt bs)<|Jn 2 R ?_
 cases h
 exact Jh4 tv R
 refine JT λh=>Jn 3 R<|Ja4 R<|Jn 2 R ?_
 cases h
 exact Jh4 tv R
 rintro _ dx _ ⟨rfl,aC,U⟩
 have h:=cU
 refine Jd<|Ob h λQ h cV=>Jp3 [1,2,4,9,10,13,14,15] (λc f a=>∃b aj ak,f=(11,.slice aj Q.1.length ak)::c/\Stp [3,5] aC dx b a/\Oc E6 2 b a 5 aj ak Q.1/\Oc Do 4 b a 3 v u Q.2/\p.length=Q.2.length) ?_ ?_
 revert h
 cases d3:bI
 refine JF λh=>Jy R<|Js ?_
 cases h
 have aR:=(T4 j t H U)
 exact Jw1 _ ⟨aC,N,M,R,Jk3,(an.stp aR),(F.stp aR),P⟩<|KM R
 refine JT λh=>Jx R<|Jh3 [2,2,2,1] 2 R<|Ob h λeB dk h=>Jf R (Jg2 F.rdc dk U178 Z4 R R P R)<|Ob h λdK bG h=>Jk1 (J:=aC) (E:=Do) 3 [] R R R R R R R R Z4 R R R R (F.stp<|T4 j t H U) bG λel b1 aT cA=>Tv<|?_
 have c6:p.length=dK.length:=P.trans (Ju2 bG).2.2.2.symm
 refine Jd<|Ji3 [2,2,1,1,2] 2 R<|Je4 b1 6 [dG] R Y37 bS R λdM dN em b3 aG cB=>Tv<|Ob h λeC dl h=>Jz3 b3 E6 5 [] R Y37 bS R (an.stp<|T6 j t H U aT aG) (Du (cc _) cB.rdc) bV dl R λck co en b4 aU cC=>Tv<|Jc 1 R ?_
 cases h
 exact Jw1 _ ⟨b4,ck,co,R,(T3 aT aG aU).wk R,cC,(cA.stp<|aG.tr aU),c6⟩<|KM R
 rintro _ ek ⟨b0,aj,ak,rfl,aS,cy,cz,c5⟩
 have h:=cV
 refine Jz<|Jp<|Jg3 R ?_
 cases h
 exact Ja2 ⟨b0,(Q.1,((Dr .i64<|e.2.1+1):Int),Q.2,bU),aj,ak,R,(T6 y j t H U aS).wk R,cy,cz,c5,(aJ.stp<|U.tr aS),bp,aM⟩ R
 refine JT λh=>Jx R<|Jc1<|Jt<|Jb1<|Jp<|Jg3 R ?_
 cases h
 have aF:=(j.tr t)
 exact Ja2 ⟨aQ,(e.1,((Dr .i64<|e.2.1+1):Int),e.2.2.1,e.2.2.2),N,M,R,(T3 y j t).wk R,(an.stp aF),(F.stp aF),P,(ao.stp aF),aa,aM⟩ R
 rintro _ eh ⟨bY,n,ae,ag,rfl,cg,cu,cv,c3,cw,c4,rfl⟩
 have h:=yI cQ
 refine Jz<|Jp<|Jg3 R ?_
 cases h
 exact Ja2 ⟨bY,(n.1,((Dr .i64<|d.2.1+1):Int),n.2.2.1,n.2.2.2),ae,ag,R,(B.tr cg).wk R,cu,cv,c3,cw,c4,bm⟩ R
 rintro _ eg ⟨bX,G,a5,bb,rfl,cf,dT,cs,c2,dU,dW,rfl⟩
 have h:=yI cP
 refine Jp<|Jf3 R<|Ju<|Jb2 (l:=[.tmp 8]) results272 (Jq2 R R) R ?_
 cases h
 exact⟨(λcp=>ren [(3,2)]<|bX cp),v,u,(by simp only[c2]),((cO.stp<|T6 A q k i I cf).map (ren [(3,2)]) R R),(cs.map (ren [(3,2)]) R R)⟩
end
end Go.Proofs.YtleekpaohfpooaaGreat
