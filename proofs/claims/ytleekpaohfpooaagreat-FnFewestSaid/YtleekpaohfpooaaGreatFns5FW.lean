/- The walks, part 5. By program. -/
import Derived.Test.YtleekpaohfpooaaGreatFns2FW
import Derived.Test.YtleekpaohfpooaaGreatFns3FW
set_option linter.unusedVariables false
set_option linter.unusedSimpArgs false
open Go.IntKind renaming wrap → cb
open Sum renaming inr → eg
open Int renaming toNat → n6
namespace Go.Proofs.YtleekpaohfpooaaGreat
open Go Go.Wk Go.Proofs
set_option maxRecDepth 100000
set_option maxHeartbeats 1000000
variable {w:World}{κ:Col}
theorem j5 {bh a6 bj a7}{p0:Det}{au ay aE aw}{p1:Det}(b8:Rd (Rp.sl (Rp.int .i64)) κ w 0 bh a6 p0.Next) (eY:Rd Pair.rp κ w 0 bj a7 p0.Pairs) (b9:Rd (Rp.sl (Rp.int .i64)) κ w 0 au ay p1.Next) (eZ:Rd Pair.rp κ w 0 aE aw p1.Pairs){r:Det×Bool}(h:gX p0 p1=some r):Ret Tryz.prog 104 [.agg #[.slice bh p0.Next.length a6,.slice bj p0.Pairs.length a7],.agg #[.slice au p1.Next.length ay,.slice aE p1.Pairs.length aw]] w (λv w'=>∃(κ':Col) (ds:Option Addr) (du:Nat) (dt:Option Addr) (dv:Nat),v= .tuple #[.agg #[.slice ds r.1.Next.length du,.slice dt r.1.Pairs.length dv],.bool r.2]/\Ent κ w κ' w'/\Oc (Ep.own E6 2) 37 κ' w' 2 ds du r.1.Next/\Oc Pair.ep127 127 κ' w' 3 dt dv r.1.Pairs):=by
 unfold gX at h
 refine Jk3 κ F104 R N104 R λhE=>Je [1,1,1,2] R<|Js3 (κ:=κ) 2 R λf5 w1 dM W eQ=>Tv<|Js3 (κ:=dM) 3 R λf6 hu dS N eU=>Tv<|Jt3 (κ:=dS) 4 R X71 R λf7 dC af G bS=>Tv<|Jb 1 R<|Jq<|Je [2,1,2,2,1,2,2,2] R<|Jd3 R U71 R Z69 ?_
 have bV:=eQ.stp (N.tr G)
 refine Jb3 R I69 (bV.ld 1 R R)<|Jn3 R U69 R R<|Jd3 R U71 R Z69 ?_
 have bW:=eU.stp G
 refine Jb3 R I69 (bW.ld 1 R R)<|Jn3 R U69 R R<|Jb 2 R ?_
 revert h
 cases gx:decide (4<(IntKind.i64.wrap ((p0.Pairs.length:Int)+(p1.Pairs.length:Int))))
 refine JF λh=>Jy R<|Js<|Jp<|Je [2,1,2] R<|Jf R (Ji4 [vi 0,vi 0] R)<|Jw3 (κ:=af) (E:=(Ep.pair E6 E6)) 5 [] (parts:=[(0,.tmp 30)]) (cells:=[vi 0,vi 0]) (xs:=([(0,0)]:List (Int×Int))) R Y123 gR R (Je4 ⟨[vi 0],[vi 0],Zl af dC [],Zl af dC [],R,Zl.sp (l1:=[]) (l2:=[]) R,Zl.sr (l1:=[]) (l2:=[]),R,R⟩) λd2 dZ g5 dN o ew=>Tv<|Jb 1 R<|Je [2,1,1] R<|Jf R (Ji4 [.slice none 0 0,.slice none 0 0] R)<|Jt3 (κ:=dN) 6 R X71 R λZ hd aR i eC=>Tv<|Jh4 (κ:=aR) 6 R Z71 R eC R λdA j eH=>Tv<|Jd<|Jq<|Je3 R<|Ob h λdp fr c9=>?_
 clear h
 refine Jo3 [2,3,4,7] (λE L w'=>∃κ',∃c:(List<|Int×Int)×Int×(List<|List Int),∃bK bO C D,L=(6,.slice bK c.1.length bO)::E/\Stp [5,6,7,8,9] aR dA κ' w'/\Oc (Ep.pair E6 E6) 120 κ' w' 5 bK bO c.1/\Oc (Ep.own E6 2) 37 κ' w' 7 C D c.2.2/\Bc κ' w' 6 Z 71 [.slice C c.2.2.length D,.slice none 0 0]/\dp=eg c) ?_ ?_
 refine Jv<|Jp3 [2,3,4,7] (λk E L w'=>∃κ',∃d:(List<|Int×Int)×Int×(List<|List Int),∃aB az bg bi,L=(6,.slice aB d.1.length az)::(8,vi d.2.1)::E/\Stp [5,6,7,8,9] aR dA κ' w'/\Oc (Ep.pair E6 E6) 120 κ' w' 5 aB az d.1/\Oc (Ep.own E6 2) 37 κ' w' 7 bg bi d.2.2/\Bc κ' w' 6 Z 71 [.slice bg d.2.2.length bi,.slice none 0 0]/\bU (fk p0 p1) k d=some dp) ⟨_,_,⟨aR,((([(0,0)]:List (Int×Int)):(List<|Int×Int)),(0:Int),(([]:List (List Int)):(List<|List Int))),d2,dZ,none,0,R,Jj3,(ew.stp<|i.tr j),Ow.nil,eH,fr⟩,(KM R)⟩ ?_
 rintro k _ hs ⟨cz,d,aB,az,bg,bi,rfl,H,b3,c2,c3,h⟩
 rcases k with _ | k
 cases h
 obtain⟨gH,h,cf⟩:=BI h;unfold fk at h
 refine Jq<|Jg3 [2,2,2,2] 2 R<|Jn3 R U123 R R<|Jb 1 R ?_
 revert h
 cases gA:decide (d.2.1<(d.1.length:Int))
 refine JF λh=>Jy R<|Jc1<|Jt<|Jt ?_
 cases h
 have h:=cf
 refine Jb1 ?_
 cases h
 exact Jw1 _ ⟨cz,(d.1,d.2.1,d.2.2),aB,az,bg,bi,R,H.wk R,b3,c2,c3,R⟩<|KM R
 refine JT λh=>Jx R<|Js<|Jp<|Jq<|Jv<|Je [1,2] R<|Jx3 (κ:=cz) (E:=E6) 8 R Y37 a8 R λdY bk ht aS t eR=>Tv<|Jb 1 R<|Jq<|Jq<|Js1 (κ:=aS) [0,2,5] none [(0,2),(2,2),(3,2),(4,2),(5,2),(10,2),(1,0),(6,0),(7,2),(8,0),(9,2)] [] (by kernel_rfl) (by kernel_rfl) λdB m=>Jd3 R U71 R Z31<|Jn 2 R<|Ob h λhC df h=>Jc3 R b3.rdc df U123 Z120<|Jf R (iZ U120 Z2 R R R R)<|Jn 1 R<|Jg R (Jc2 I31 R R<|hvC ((bV.stp<|T6 o i j H t m).ld 0 R R) R) ?_
 have c4:=b3.stp (t.tr m)
 obtain⟨go,fw,fm⟩:=(c4.rdc).gSt df
 obtain⟨_,_,rfl,rfl,rfl⟩:=fw
 refine Jg R (Jc2 I2 R R<|hvC (λw' ch=>fm w' ch 0 _ R) R)<|Ob h λaM dg h=>Jc3 R b8 dg U31 Z37 ?_
 obtain⟨f0,gM,b4,ff⟩:=(b8.stp (T9 W N G o i j H t m)).gSl dg
 refine Jg R (Jc2 I37 R R<|hvC ff R)<|Jn3 R U37 R R<|Jt1<|Jd ?_
 have fa:(aM.length:Int)<=9223372036854775807:=b4.len_le
 refine Ob h λdq fs e6=>?_
 clear h
 refine Jo3 [2,3,4,7,8] (λE L w'=>∃κ',∃u:(List<|Int×Int)×(List Int),∃a5 ba bl a0,L=(6,.slice a5 u.1.length ba)::(9,.slice bl u.2.length a0)::E/\Stp [5,8,9] aS dB κ' w'/\Oc (Ep.pair E6 E6) 120 κ' w' 5 a5 ba u.1/\Oc E6 2 κ' w' 8 bl a0 u.2/\dq=eg u) ?_ ?_
 refine Jv<|Jp3 [2,3,4,7,8,48,49] (λk E L w'=>∃κ' y,∃F:(List<|Int×Int)×(List Int),∃aG aH a4 bd,L=(6,.slice aG F.1.length aH)::(9,.slice a4 F.2.length bd)::(50,vi y)::E/\Stp [5,8,9] aS dB κ' w'/\Oc (Ep.pair E6 E6) 120 κ' w' 5 aG aH F.1/\Oc E6 2 κ' w' 8 a4 bd F.2/\0<=y/\n6 ((aM.length:Int)-y)=k/\cntM (ee p1 d aM) k y F=some dq) ⟨_,_,⟨aS,0,(d.1,(([]:List Int):(List Int))),aB,az,dY,bk,R,Jj3,c4,(eR.stp m),(by decide),(by simp),fs⟩,(KM R)⟩ ?_
 rintro k _ hw ⟨bx,y,F,aG,aH,a4,bd,rfl,am,b5,c5,fe,gu,h⟩
 rcases k with _ | k
 have cg:=h;obtain⟨fO,h⟩:=cn (eg (Sum.inl F):(Det×Bool)⊕(((List (Int×Int))×(List Int))⊕((List (Int×Int))×(List Int))))
 have ad:decide (y<(aM.length:Int))=false:=Jo2 (by omega)
 refine Je3 R<|Jq<|Jw2 R ad<|Jc1<|Jt<|Jt ?_
 cases h
 have h:=cg
 refine Jb1 ?_
 cases h
 exact Jw1 _ ⟨bx,(F.1,F.2),aG,aH,a4,bd,R,am.wk R,b5,c5,R⟩<|KM R
 obtain⟨fO,h,cg⟩:=BI h;unfold ee at h
 have ad:decide (y<(aM.length:Int))=true:=Jn2 (by omega)
 refine Je3 R<|Jq<|Jv2 R ad<|Js<|Jp<|Jq<|Jv<|Jg3 [2,2,1,2,2] 1 R<|Ob h λaN dh h=>Jc3 R b4 dh U37 Z2<|Jb3 R I2 ((b4.stp am).gInt dh)<|Jb 2 R<|Jq<|Js1 (κ:=bx) [0,3,5] none [(0,2),(1,2),(3,2),(4,2),(5,2),(6,2),(10,2),(2,0),(7,0),(8,2),(9,0),(11,2),(12,0),(13,2),(14,1),(15,1)] [] (by kernel_rfl) (by kernel_rfl) λhx an=>Jn 1 R<|Jd3 R U71 R Z31<|Jn 2 R<|Ob h λhD di h=>Jc3 R b5.rdc di U123 Z120<|Jf R (iZ U120 Z2 R R R R)<|Jn 1 R<|Jg R (Jc2 I31 R R<|hvC ((bW.stp<|T8 o i j H t m am an).ld 0 R R) R) ?_
 have c6:=b5.stp an
 obtain⟨gp,fx,fn⟩:=(c6.rdc).gSt di
 obtain⟨_,_,rfl,rfl,rfl⟩:=fx
 refine Jg R (Jc2 I2 R R<|hvC (λw' ch=>fn w' ch 1 _ R) R)<|Ob h λhF dj h=>Jc3 R b9 dj U31 Z37 ?_
 obtain⟨f1,gN,c7,fg⟩:=(b9.stp (T11 W N G o i j H t m am an)).gSl dj
 refine Jg R (Jc2 I37 R R<|hvC fg R)<|Ob h λaO dk h=>Jc3 R c7 dk U37 Z2<|Jg R (Jc2 I2 R R<|hvC (c7.gInt dk) R)<|Jf R (Ji4 [vi aN,vi aO] R)<|Jt3 (κ:=bx) 9 R X120 R λf2 hy cB ao eV=>⟨(ao.cl R),Jh4 (κ:=cB) 9 R Z120 R eV R λhz aY c8=>⟨((ao.tr aY).cl R),Jt1<|Jd<|Jg3 [2,1,1,2] 1 R<|Jb4 tv R (Jc4 (haE c8.cells) I120 Z120 R)<|Ob h λfU fH h=>?_⟩⟩
 have b6:=c6.stp (ao.tr aY)
 refine Jr3 R C170 (iT (κ:=Mk cB) (p1:=(aN,aO)) (Ji3 b6.rdc) fH) ?_
 rintro _ cj ⟨gD,rfl,d6⟩
 obtain⟨ah,ap,gG⟩:=Ji d6 10 R
 refine Tv<|Jb 1 R<|Jq<|Je3 R<|Ob h λaJ h e0=>Jo3 [2,3,4,7,8,9,48,49,50] (λE L w'=>∃κ' a1 bf,L=(6,.slice a1 aJ.1.length bf)::(13,vi aJ.2)::E/\Stp [5] ah cj κ' w'/\Oc (Ep.pair E6 E6) 120 κ' w' 5 a1 bf aJ.1) ?_ ?_
 revert h
 cases gv:decide (fU<0)
 refine JF λh=>Jy R<|Js ?_
 cases h
 exact Jw1 _ ⟨ah,aG,aH,R,Jj3,(b6.stp ap)⟩<|KM R
 refine JT λh=>Jx R<|Jg3 [2,2,2] 1 R<|Jn3 R U123 R R<|Jb 1 R<|Jh3 [2,1,1,1,2] 1 R<|Jb4 tv R (Jc4 (haE (c8.stp ap).cells) I120 Z120 R)<|Jw3 (κ:=ah) (E:=(Ep.pair E6 E6)) 12 [] (parts:=[(0,.tmp 77)]) (cells:=[vi aN,vi aO]) (xs:=([(aN,aO)]:List (Int×Int))) R Y123 gR R (Je4 ⟨[vi aN],[vi aO],Zl ah cj [],Zl ah cj [],R,Zl.sp (l1:=[]) (l2:=[]) R,Zl.sr (l1:=[]) (l2:=[]),R,R⟩) λge ga gP dG cF d8=>Tv<|Ob h λhG fI h=>Jy3 (κ:=dG) (E:=(Ep.pair E6 E6)) 5 [] R Y123 gR R (b6.stp<|ap.tr cF) (Sl.srcP (vk (co _)<|co _) d8.rdc) bZ fI R λdX d1 gQ dH dT d9=>Tv<|Jc 1 R ?_
 cases h
 exact Jw1 _ ⟨dH,dX,d1,R,(cF.tr dT).wk R,d9⟩<|KM R
 rintro _ gO ⟨dF,a1,bf,rfl,cE,d7⟩
 have h:=e0
 refine Jp<|Jh3 [2,2,1,1,2] 2 R<|Jd4 (κ:=dF) 12 [aJ.2] R Y37 a8 R λf8 gj gS dI bz ea=>Tv<|Ob h λfV fJ h=>Jy3 (κ:=dI) (E:=E6) 8 [] R Y37 a8 R (c5.stp<|T6 an ao aY ap cE bz) (Sl.srcP (co _) ea.rdc) bZ fJ R λd0 d3 gT dJ cG eb=>Tv<|Jc 1 R<|Jz<|Jp<|Jf3 R ?_
 have fB:cb .i64 (y+1)=y+1:=wr1 fe (Jm2 ad) fa
 rw[fB]
 have ad:=Jm2 ad
 cases h
 exact Jz1 λa ha=>⟨k,_,Ja3 _,⟨dJ,y+1,(aJ.1,fV),a1,bf,d0,d3,R,(T8 am an ao aY ap cE bz cG).wk R,(d7.stp<|bz.tr cG),eb,by omega,by omega,cg⟩,(ha.mm R)⟩
 rintro _ hv ⟨bw,u,a5,ba,bl,a0,rfl,al,eS,eT,rfl⟩
 have h:=yI e6
 refine Jp<|Jq<|Jg3 [2,2,2] 1 R<|Jn3 R U123 R R<|Jb 1 R ?_
 revert h
 cases gw:decide (48<(u.1.length:Int))
 refine JF λh=>Jy R<|Js<|Jp<|Ja [2,1,2,1,1,2,1] R<|Jd3 R U71 R Z31 ?_
 have cP:=c3.stp (T3 t m al)
 refine Jb3 R I31 (cP.ld 0 R R)<|Jn 1 R<|Jw3 (κ:=bw) (E:=(Ep.own E6 2)) 9 [8] (parts:=[(0,.tmp 91)]) (cells:=[.slice bl u.2.length a0]) (xs:=([u.2]:List (List Int))) R Y31 bT R (Je4 ⟨_,_,R,eT⟩) λgc gf gV dK aU ed=>Tv<|Ob h λcl fK h=>Jy3 (κ:=dK) (E:=(Ep.own E6 2)) 7 [9] R Y31 bT R (c2.stp<|T4 t m al aU) ed.src (cZ R) fK R λbQ bN gW cm bA ef=>Tv<|Jd3 R U71 R Z31<|Ju3 (κ:=cm) 6 (off:=0) (vc:=[.slice bQ cl.length bN]) (cs':=[.slice bQ cl.length bN,.slice none 0 0]) R Z31 R (cP.stp<|aU.tr bA) R λgY bB eh=>Tv<|Jo<|Jz<|Jp<|Jf3 R ?_
 cases h
 exact Jz1 λa ha=>⟨k,_,Ja3 _,⟨cm,(u.1,((IntKind.i64.wrap<|d.2.1+1):Int),cl),a5,ba,bQ,bN,R,(T7 H t m al aU bA bB).wk R,(eS.stp<|T3 aU bA bB),(ef.stp bB),eh,cf⟩,(ha.mm R)⟩
 refine JT λh=>Jx R<|Je [2,1,2] R<|Jf R (Ji4 [.slice none 0 0,.slice none 0 0] R)<|Jh4 (κ:=bw) 4 R Z71 R (bS.stp<|T7 o i j H t m al) R λgU dU ec=>Tv<|Jb 1 R<|Ju<|Jw<|Ja1<|Jw<|Jw ?_
 cases h
 obtain rfl:=Option.some.inj cf
 have h:=yL c9
 refine Ja1<|Jq2<|Jw<|Ja2 (l:=[.cell 4 71,.tmp 5]) V104 (ca R ec I71 Z71 R<|Jp2 R R) R ?_
 cases h
 exact⟨bw,none,0,none,0,R,(hE.stp<|T11 W N G o i j H t m al dU),Ow.nil,Ow.nil⟩
 rintro _ bp ⟨ag,c,bK,bO,C,D,rfl,aX,b2,eO,eP,rfl⟩
 have h:=yI c9
 have aT:=(T7 W N G o i j aX)
 have cC:=(T4 o i j aX)
 refine Jp<|Jq<|Je [1,1,1,2,2] R<|Jb4 tv R (Jc4 (haE (bV.stp cC).cells) I71 Z71 R)<|Jb4 tv R (Jc4 (haE (bW.stp cC).cells) I71 Z71 R)<|Jw3 (κ:=ag) (E:=(Ep.fz Det.rp)) 8 [] (parts:=[(0,.tmp 95),(1,.tmp 96)]) (cells:=[.slice bh p0.Next.length a6,.slice bj p0.Pairs.length a7,.slice au p1.Next.length ay,.slice aE p1.Pairs.length aw]) (xs:=([p0,p1]:List Det)) R Y185 tP R ⟨[.slice bh p0.Next.length a6,.slice bj p0.Pairs.length a7],[.slice au p1.Next.length ay,.slice aE p1.Pairs.length aw],Zl ag bp [],Zl ag bp [],R,Zl.sp (l1:=[]) (l2:=[]) R,Zl.sr (l1:=[]) (l2:=[]),(Det.mk_rel (Sl.z1<|b8.stp aT)<|Sl.z1<|eY.stp aT),⟨[.slice au p1.Next.length ay,.slice aE p1.Pairs.length aw],[],Zl ag bp [],Zl ag bp [],R,Zl.sp (l1:=[]) (l2:=[]) R,Zl.sr (l1:=[]) (l2:=[]),(Det.mk_rel (Sl.z1<|b9.stp aT)<|Sl.z1<|eZ.stp aT),R⟩⟩ λgb gd dw bq ai bX=>Tv<|Jn3 R U185 R R<|Jb 1 R ?_
 have e7:(([p0,p1]:List Det).length:Int)<=9223372036854775807:=bX.len_le
 refine Ob h λdr fo e1=>?_
 clear h
 refine Jo3 [4,7] (λE L w'=>∃κ',∃bo:(List Pair),∃bb bc,L=E/\Stp [6,9,10,11,12,13,14,15] bq dw κ' w'/\Oc Pair.ep127 127 κ' w' 9 bb bc bo/\Bc κ' w' 6 Z 71 [.slice C c.2.2.length D,.slice bb bo.length bc]/\dr=eg bo) ?_ ?_
 refine Jv<|Jp3 [4,6,7,97,98] (λk E L w'=>∃κ' g,∃Q:(List Pair),∃ax aF,L=(99,vi g)::E/\Stp [6,9,10,11,12,13,14,15] bq dw κ' w'/\Oc Pair.ep127 127 κ' w' 9 ax aF Q/\Bc κ' w' 6 Z 71 [.slice C c.2.2.length D,.slice ax Q.length aF]/\0<=g/\n6 ((([p0,p1]:List Det).length:Int)-g)=k/\cntM (cS p0 p1 c) k g Q=some dr) ⟨_,_,⟨bq,0,(([]:List Pair):(List Pair)),none,0,R,Jj3,Ow.nil,(eP.stp ai),(by decide),(by simp),fo⟩,(KM R)⟩ ?_
 rintro k _ g1 ⟨cq,g,Q,ax,aF,rfl,aV,cQ,cR,fb,gr,h⟩
 rcases k with _ | k
 have cc:=h;obtain⟨fL,h⟩:=cn (eg (Sum.inl Q):(Det×Bool)⊕(((List Pair))⊕((List Pair))))
 have aa:decide (g<(([p0,p1]:List Det).length:Int))=false:=Jo2 (by omega)
 refine Je3 R<|Jq<|Jw2 R aa<|Jc1<|Jt<|Jt ?_
 cases h
 have h:=cc
 refine Jb1 ?_
 cases h
 exact Jw1 _ ⟨cq,Q,ax,aF,R,aV.wk R,cQ,cR,R⟩<|KM R
 obtain⟨fL,h,cc⟩:=BI h;unfold cS at h
 have aa:decide (g<(([p0,p1]:List Det).length:Int))=true:=Jn2 (by omega)
 refine Je3 R<|Jq<|Jv2 R aa<|Js<|Jp<|Jq<|Jv<|Jg3 [2,2,1,1,2,1] 1 R<|Ob h λaL da h=>Jc3 R bX.rdc da U185 Z71 ?_
 obtain⟨gl,ft,fh⟩:=Ow.gZS (bX.stp aV) da
 obtain⟨fW,gI,fX,gJ,rfl,gq,b7⟩:=Det.un ft
 refine Jb4 tv R (Jc4 (haE fh) I71 Z71 R)<|Jt3 (κ:=cq) 10 R X71 R λf3 g2 aP aj ek=>Tv<|Jn 1 R<|Jh4 (κ:=aP) 10 R Z71 R ek R λdx ak em=>Tv<|Jd<|Je [2,1,2,2] R<|Jd3 R U71 R Z69<|Jb3 R I69 (em.ld 1 R R)<|Jn3 R U69 R R<|Jb 1 R ?_
 have e8:(aL.Pairs.length:Int)<=9223372036854775807:=b7.len_le
 refine Ob h λdl fp e2=>?_
 clear h
 refine Jo3 [4,6,7,97,98,99] (λE L w'=>∃κ',∃aK:(List Pair),∃a9 be,L=E/\Stp [6,9,11,12,13,14,15] aP dx κ' w'/\Oc Pair.ep127 127 κ' w' 9 a9 be aK/\Bc κ' w' 6 Z 71 [.slice C c.2.2.length D,.slice a9 aK.length be]/\dl=eg aK) ?_ ?_
 refine Jv<|Jp3 [4,6,7,14,97,98,99,105,106] (λk E L w'=>∃κ' x,∃ae:(List Pair),∃a2 bm,L=(107,vi x)::E/\Stp [6,9,11,12,13,14,15] aP dx κ' w'/\Oc Pair.ep127 127 κ' w' 9 a2 bm ae/\Bc κ' w' 6 Z 71 [.slice C c.2.2.length D,.slice a2 ae.length bm]/\0<=x/\n6 ((aL.Pairs.length:Int)-x)=k/\cntM (dm c g aL) k x ae=some dl) ⟨_,_,⟨aP,0,Q,ax,aF,R,Jj3,(cQ.stp<|aj.tr ak),(cR.stp<|aj.tr ak),(by decide),(by simp),fp⟩,(KM R)⟩ ?_
 rintro k _ g4 ⟨cr,x,ae,a2,bm,rfl,aW,cT,cU,fc,gs,h⟩
 rcases k with _ | k
 have cd:=h;obtain⟨fM,h⟩:=cn (eg (Sum.inl ae):(Det×Bool)⊕(((List Pair))⊕((List Pair))))
 have ab:decide (x<(aL.Pairs.length:Int))=false:=Jo2 (by omega)
 refine Je3 R<|Jq<|Jw2 R ab<|Jc1<|Jt<|Jt ?_
 cases h
 have h:=cd
 refine Jb1 ?_
 cases h
 exact Jw1 _ ⟨cr,ae,a2,bm,R,aW.wk R,cT,cU,R⟩<|KM R
 obtain⟨fM,h,cd⟩:=BI h;unfold dm at h
 have ab:decide (x<(aL.Pairs.length:Int))=true:=Jn2 (by omega)
 refine Je3 R<|Jq<|Jv2 R ab<|Js<|Jp<|Jq<|Jv<|Je [2,1,1,1] R<|Ob h λfR db h=>Jc3 R b7 db U69 Z127 ?_
 obtain⟨gm,fu,fi⟩:=((b7.stp (T3 aj ak aW))).gSt db
 obtain⟨fY,gK,fZ,gL,rfl,eW,eX⟩:=Pair.un fu
 refine Jb4 tv R (Jc4 (haE fi) I127 Z127 R)<|Jt3 (κ:=cr) 11 R X127 R λf4 g6 cs S ep=>Tv<|Jh4 (κ:=cs) 11 R Z127 R ep R λg7 T eq=>Tv<|Jd<|Je [2,1,1] R<|Jf R (Ji4 [.slice none 0 0,.slice none 0 0] R)<|Jt3 (κ:=cs) 12 R X127 R λbn g8 aQ J er=>Tv<|Jh4 (κ:=aQ) 12 R Z127 R er R λdy K es=>Tv<|Jd<|Jq<|Jg3 [2,2,2] 1 R<|Jn3 R U123 R R<|Jb 1 R ?_
 have e9:(c.1.length:Int)<=9223372036854775807:=b2.len_le
 refine Ob h λdn fq e3=>?_
 clear h
 refine Jo3 [4,6,7,14,18,97,98,99,105,106,107] (λE L w'=>∃κ',∃e:(List Int)×(List Int),∃ar aD av aA,L=E/\Stp [12,13,14,15] aQ dy κ' w'/\Oc E6 2 κ' w' 13 ar aD e.1/\Oc E6 2 κ' w' 14 av aA e.2/\Bc κ' w' 12 bn 127 [.slice ar e.1.length aD,.slice av e.2.length aA]/\dn=eg e) ?_ ?_
 refine Jv<|Jp3 [4,6,7,14,17,18,97,98,99,105,106,107,112,113] (λk E L w'=>∃κ' f,∃n:(List Int)×(List Int),∃aC aq O P,L=(114,vi f)::E/\Stp [12,13,14,15] aQ dy κ' w'/\Oc E6 2 κ' w' 13 aC aq n.1/\Oc E6 2 κ' w' 14 O P n.2/\Bc κ' w' 12 bn 127 [.slice aC n.1.length aq,.slice O n.2.length P]/\0<=f/\n6 ((c.1.length:Int)-f)=k/\cntM (fl c g fR) k f n=some dn) ⟨_,_,⟨aQ,0,((([]:List Int):(List Int)),(([]:List Int):(List Int))),none,0,none,0,R,Jj3,Ow.nil,Ow.nil,es,(by decide),(by simp),fq⟩,(KM R)⟩ ?_
 rintro k _ g9 ⟨ct,f,n,aC,aq,O,P,rfl,U,bY,b0,b1,fd,gt,h⟩
 rcases k with _ | k
 have ce:=h;obtain⟨fN,h⟩:=cn (eg (Sum.inl n):(Det×Bool)⊕(((List Int)×(List Int))⊕((List Int)×(List Int))))
 have ac:decide (f<(c.1.length:Int))=false:=Jo2 (by omega)
 refine Je3 R<|Jq<|Jw2 R ac<|Jc1<|Jt<|Jt ?_
 cases h
 have h:=ce
 refine Jb1 ?_
 cases h
 exact Jw1 _ ⟨ct,(n.1,n.2),aC,aq,O,P,R,U.wk R,bY,b0,b1,R⟩<|KM R
 obtain⟨fN,h,ce⟩:=BI h;unfold fl at h
 have ac:decide (f<(c.1.length:Int))=true:=Jn2 (by omega)
 refine Je3 R<|Jq<|Jv2 R ac<|Js<|Jp<|Jq<|Jv<|Jg3 [2,2,1,1,2,1] 1 R<|Ob h λI dc h=>Jc3 R b2.rdc dc U123 Z120 ?_
 obtain⟨gn,fv,fj⟩:=((b2.stp (T10 ai aV aj ak aW S T J K U)).rdc).gSt dc
 obtain⟨_,_,rfl,rfl,rfl⟩:=fv
 refine Jb4 tv R (Jc4 (haE fj) I120 Z120 R)<|Jt3 (κ:=ct) 15 R X120 R λcO hb bs z ex=>Tv<|Jn 1 R<|Jh4 (κ:=bs) 15 R Z120 R ex R λhc A ey=>Tv<|Jd<|Jq<|Jq<|Js1 (κ:=bs) [11,15] none [(0,2),(2,2),(3,2),(1,0),(4,0),(5,1)] [] (by kernel_rfl) (by kernel_rfl) λhe q=>Jd3 R U127 R Z37<|Jn 1 R<|Ob h λhA dd h=>Jf R (qV (xs:=([I.1,I.2]:List Int)) (p:=⟨cO,0,none⟩) dd R U120 Z2 R R R) ?_
 have cV:=eq.stp (T6 J K U z A q)
 refine Jg R (Jc2 I37 R R<|hvC (cV.ld 0 R R) R) ?_
 have cW:=ey.stp q
 refine Jg R (Jc2 I2 R R<|hvC (cW.ldD (xs:=([I.1,I.2]:List Int)) 0 R dd R) R)<|Ob h λfS fC h=>Jr3 R C89 (cu (κ:=Mk bs) (Ji3<|eW.stp<|T8 S T J K U z A q) fC) ?_
 rintro _ fP ⟨gB,rfl,d4⟩
 obtain⟨bu,s,gE⟩:=Ji d4 16 R
 refine⟨(s.cl R),Jt1<|Jd<|Ob h λaI h e4=>Jo3 [4,6,7,14,17,18,19,20,97,98,99,105,106,107,112,113,114] (λE L w'=>∃κ' Y X,L=E/\Stp [12,13] bu fP κ' w'/\Oc E6 2 κ' w' 13 Y X aI/\Bc κ' w' 12 bn 127 [.slice Y aI.length X,.slice O n.2.length P]) ?_ ?_⟩
 revert h
 cases gy:fS
 refine JF λh=>Jy R<|Js ?_
 cases h
 have cD:=(T4 z A q s)
 exact Jw1 _ ⟨bu,aC,aq,R,Jj3,(bY.stp cD),(b1.stp cD)⟩<|KM R
 refine JT λh=>Jx R<|Ja [2,1,2,1,1,2,1] R<|Jd3 R U127 R Z37 ?_
 have cY:=b1.stp (T4 z A q s)
 refine Jb3 R I37 (cY.ld 0 R R)<|Jn 1 R<|Jd4 (κ:=bu) 18 [f] R Y37 a8 R λf9 bt hg dO bE eA=>Tv<|Ob h λdD fD h=>Jy3 (κ:=dO) (E:=E6) 13 [] R Y37 a8 R (bY.stp<|T5 z A q s bE) (Sl.srcP (co _) eA.rdc) bZ fD R λbP bR hh cw cH eB=>Tv<|Jd3 R U127 R Z37<|Ju3 (κ:=cw) 12 (off:=0) (vc:=[.slice bP dD.length bR]) (cs':=[.slice bP dD.length bR,.slice O n.2.length P]) R Z37 R (cY.stp<|bE.tr cH) R λhi cI eD=>Tv<|Jo ?_
 cases h
 exact Jw1 _ ⟨cw,bP,bR,R,(T3 bE cH cI).wk R,(eB.stp cI),eD⟩<|KM R
 rintro _ hf ⟨cv,Y,X,rfl,V,ez,cX⟩
 have h:=e4
 refine Jp<|Jq<|Js1 (κ:=cv) [11,15] none [(0,2),(2,2),(3,2),(1,0),(4,0),(5,1)] [] (by kernel_rfl) (by kernel_rfl) λhj B=>Jd3 R U127 R Z37<|Jn 1 R<|Ob h λhB de h=>Jf R (qV (xs:=([I.1,I.2]:List Int)) (p:=⟨cO,0,none⟩) de R U120 Z2 R R R)<|Jg R (Jc2 I37 R R<|hvC ((cV.stp<|T3 s V B).ld 1 R R) R)<|Jg R (Jc2 I2 R R<|hvC ((cW.stp<|T3 s V B).ldD (xs:=([I.1,I.2]:List Int)) 0 R de R) R)<|Ob h λfT fE h=>Jr3 R C89 (cu (κ:=Mk cv) (Ji3<|eX.stp<|T11 S T J K U z A q s V B) fE) ?_
 rintro _ fQ ⟨gC,rfl,d5⟩
 obtain⟨bv,M,gF⟩:=Ji d5 18 R
 refine⟨(M.cl R),Jt1<|Jd<|Ob h λci h e5=>Jo3 [4,6,7,14,17,18,97,98,99,105,106,107,112,113,114] (λE L w'=>∃κ' aZ a3,L=E/\Stp [12,14] bv fQ κ' w'/\Oc E6 2 κ' w' 14 aZ a3 ci/\Bc κ' w' 12 bn 127 [.slice Y aI.length X,.slice aZ ci.length a3]) ?_ ?_⟩
 revert h
 cases gz:fT
 refine JF λh=>Jy R<|Js ?_
 cases h
 exact Jw1 _ ⟨bv,O,P,R,Jj3,(b0.stp<|T7 z A q s V B M),(cX.stp<|B.tr M)⟩<|KM R
 refine JT λh=>Jx R<|Ja [2,1,2,1,1,2,1] R<|Jd3 R U127 R Z37 ?_
 have c0:=cX.stp (B.tr M)
 refine Jb3 R I37 (c0.ld 1 R R)<|Jn 1 R<|Jd4 (κ:=bv) 20 [f] R Y37 a8 R λgh gi hl dQ bF eG=>Tv<|Ob h λdE fF h=>Jy3 (κ:=dQ) (E:=E6) 14 [] R Y37 a8 R (b0.stp<|T8 z A q s V B M bF) (Sl.srcP (co _) eG.rdc) bZ fF R λbM bJ hm cx cK eI=>Tv<|Jd3 R U127 R Z37<|Ju3 (κ:=cx) 12 (off:=1) (vc:=[.slice bM dE.length bJ]) (cs':=[.slice Y aI.length X,.slice bM dE.length bJ]) R Z37 R (c0.stp<|bF.tr cK) R λhn cL eJ=>Tv<|Jo ?_
 cases h
 exact Jw1 _ ⟨cx,bM,bJ,R,(T3 bF cK cL).wk R,(eI.stp cL),eJ⟩<|KM R
 rintro _ hk ⟨dP,aZ,a3,rfl,cJ,eE,eF⟩
 have h:=e5
 refine Jz<|Jp<|Jf3 R ?_
 have fA:cb .i64 (f+1)=f+1:=wr1 fd (Jm2 ac) e9
 rw[fA]
 have ac:=Jm2 ac
 cases h
 exact Jz1 λa ha=>⟨k,_,Ja3 _,⟨dP,f+1,(aI,ci),Y,X,aZ,a3,R,(T9 U z A q s V B M cJ).wk R,(ez.stp<|T3 B M cJ),eE,eF,by omega,by omega,ce⟩,(ha.mm R)⟩
 rintro _ dz ⟨br,e,ar,aD,av,aA,rfl,bD,et,eu,ev,rfl⟩
 have h:=yI e3
 refine Jp<|Ja [2,1,1,1,1,2,1] R<|Jd3 R U71 R Z69 ?_
 have c1:=cU.stp (T5 S T J K bD)
 refine Jb3 R I69 (c1.ld 1 R R)<|Jb4 tv R (Jc4 (haE ev.cells) I127 Z127 R)<|Jw3 (κ:=br) (E:=Pair.ep127) 15 [13,14] (parts:=[(0,.tmp 146)]) (cells:=[.slice ar e.1.length aD,.slice av e.2.length aA]) (xs:=([(⟨e.1,e.2⟩:Pair)]:List Pair)) R Y69 cA R (Je4 ⟨[.slice ar e.1.length aD],[.slice av e.2.length aA],Zl br dz [13],Zl br dz [14],R,Zl.sp (l1:=[13]) (l2:=[14]) R,Zl.sr (l1:=[13]) (l2:=[14]),⟨_,_,R,et⟩,⟨_,_,R,eu⟩⟩) λgg gk ho dR bG eK=>Tv<|Ob h λck fG h=>Jy3 (κ:=dR) (E:=Pair.ep127) 9 [15] R Y69 cA R (cT.stp<|T6 S T J K bD bG) eK.src (cZ R) fG R λbI bL hp cy cM eL=>Tv<|Jd3 R U71 R Z69<|Ju3 (κ:=cy) 6 (off:=1) (vc:=[.slice bI ck.length bL]) (cs':=[.slice C c.2.2.length D,.slice bI ck.length bL]) R Z69 R (c1.stp<|bG.tr cM) R λhq cN eM=>Tv<|Jo<|Jz<|Jp<|Jf3 R ?_
 have fz:cb .i64 (x+1)=x+1:=wr1 fc (Jm2 ab) e8
 rw[fz]
 have ab:=Jm2 ab
 cases h
 exact Jz1 λa ha=>⟨k,_,Ja3 _,⟨cy,x+1,ck,bI,bL,R,(T9 aW S T J K bD bG cM cN).wk R,(eL.stp cN),eM,by omega,by omega,cd⟩,(ha.mm R)⟩
 rintro _ g3 ⟨dL,aK,a9,be,rfl,dW,en,eo,rfl⟩
 have h:=yI e2
 refine Jz<|Jp<|Jf3 R ?_
 have fy:cb .i64 (g+1)=g+1:=wr1 fb (Jm2 aa) e7
 rw[fy]
 have aa:=Jm2 aa
 cases h
 exact Jz1 λa ha=>⟨k,_,Ja3 _,⟨dL,g+1,aK,a9,be,R,(T4 aV aj ak dW).wk R,en,eo,by omega,by omega,cc⟩,(ha.mm R)⟩
 rintro _ g0 ⟨cp,bo,bb,bc,rfl,bC,ei,ej,rfl⟩
 have h:=yI e1
 refine Jp<|Je [1,1,2] R<|Jb4 tv R (Jc4 (haE ej.cells) I71 Z71 R)<|Jh4 (κ:=cp) 4 R Z71 R (bS.stp<|T6 o i j aX ai bC) R λhr bH eN=>Tv<|Jb 1 R<|Ju<|Ja2 (l:=[.cell 4 71,.tmp 5]) V104 (ca R eN I71 Z71 R<|Jp2 R R) R ?_
 cases h
 exact⟨(λb=>ren [(7,2),(9,3)]<|cp b),C,D,bb,bc,R,((hE.stp<|T10 W N G o i j aX ai bC bH).map (ren [(7,2),(9,3)]) R R),((eO.stp<|T3 ai bC bH).map (ren [(7,2),(9,3)]) R R),((ei.stp bH).map (ren [(7,2),(9,3)]) R R)⟩
 refine JT λh=>Jx R<|Je [2,1,2] R<|Jf R (Ji4 [.slice none 0 0,.slice none 0 0] R)<|Jh4 (κ:=af) 4 R Z71 R bS R λgZ dV el=>Tv<|Jb 1 R<|Ju<|Jw<|Ja2 (l:=[.cell 4 71,.tmp 5]) V104 (ca R el I71 Z71 R<|Jp2 R R) R ?_
 cases h
 exact⟨af,none,0,none,0,R,(hE.stp<|T4 W N G dV),Ow.nil,Ow.nil⟩
theorem nk {x A y u B v}{p0:watch}{a1 H}{p1:(List Int)}{C}(ag:Rd (Rp.sl (Rp.int .i64)) κ w 0 x A p0.next) (ah:Rd (Rp.sl (Rp.int .i64)) κ w 0 y u p0.letters) (ai:Rd Pair.rp κ w 0 B v p0.pairs) (T:Rd (Rp.int .i64) κ w 0 a1 H p1) (U:Bc κ w 0 C 172 [.slice x p0.next.length A,.slice y p0.letters.length u,.slice B p0.pairs.length v]){r:(List Bool)}(h:eO p0 p1=some r):Ret Tryz.prog 210 [.pointer (some ⟨C,0,none⟩),.slice a1 p1.length H] w (Pvs Ep.bool 4 κ w r):=by
 unfold eO at h
 refine Jk3 κ F210 R N210 R λhE=>Je3 R<|Jg3 [2,2,2,1,2,1,2] 1 R<|Jf R (bY R R)<|Jd3 R U172 R Z31<|Jb3 R I31 (U.ld 0 R R)<|Jn3 R U31 R R<|Ob h λc ac h=>Jl1 (κ:=κ) (E:=Ep.bool) (z:=(false:Bool)) 2 R R R R R R R Y178 dI R R R R R (λ_ _ _=>R) (Ju2 ac) λm j w1 g t D=>Tv<|Jb 1 R<|Jq<|Jg3 [2,2,2] 1 R<|Jn3 R U178 R R<|Jb 1 R ?_
 have W:(c.length:Int)<=9223372036854775807:=D.len_le
 refine Ob h λG aa V=>?_
 clear h
 refine Jo3 [0,5] (λE L w'=>∃κ',∃f:(List Bool),L=E/\Stp [2] g w1 κ' w'/\Oc Ep.bool 4 κ' w' 2 m j f/\c.length=f.length/\G=eg f) ?_ ?_
 refine Jv<|Jp3 [0,1,5,14] (λk E L w'=>∃κ' b,∃e:(List Bool),L=(15,vi b)::E/\Stp [2] g w1 κ' w'/\Oc Ep.bool 4 κ' w' 2 m j e/\c.length=e.length/\0<=b/\n6 ((c.length:Int)-b)=k/\cntM (dL p1) k b e=some G) ⟨_,_,⟨g,0,c,R,Jj3,D,R,(by decide),(by simp),aa⟩,(KM R)⟩ ?_
 rintro k _ am ⟨q,b,e,rfl,i,n,p,X,aj,h⟩
 rcases k with _ | k
 have o:=h;obtain⟨af,h⟩:=cn (eg (Sum.inl e):(List Bool)⊕(((List Bool))⊕((List Bool))))
 have d:decide (b<(c.length:Int))=false:=Jo2 (by omega)
 refine Je3 R<|Jq<|Jw2 R d<|Jc1<|Jt<|Jt ?_
 cases h
 have h:=o
 refine Jb1 ?_
 cases h
 exact Jw1 _ ⟨q,e,R,i.wk R,n,p,R⟩<|KM R
 obtain⟨af,h,o⟩:=BI h;unfold dL at h
 have d:decide (b<(c.length:Int))=true:=Jn2 (by omega)
 refine Je3 R<|Jq<|Jv2 R d<|Js<|Jp<|Jq<|Jv<|Je3 R<|Jh3 [2,2,2,2,1,2,2,1] 4 R<|Ob h λaq ad h=>Jr3 R C89 (cu (κ:=Mk q) (Ji3<|T.stp<|t.tr i) ad) ?_
 rintro _ an ⟨ak,rfl,P⟩
 obtain⟨J,s,al⟩:=Ji P 3 R
 refine Tv<|Jn 1 R<|Ob h λar ae h=>Jf R (Jf2 n.rdc ae U178 Z4 R R p R)<|Ob h λI F h=>Jk1 (κ:=J) (E:=Ep.bool) 2 [] R R R R R R R R Z4 R R R R (n.stp s) F λao K O S=>Tv<|?_
 have Z:c.length=I.length:=p.trans (Jt2 F).2.2.2.symm
 refine Jo<|Jz<|Jp<|Jf3 R ?_
 have ab:cb .i64 (b+1)=b+1:=wr1 X (Jm2 d) W
 rw[ab]
 have d:=Jm2 d
 cases h
 exact Jz1 λa ha=>⟨k,_,Ja3 _,⟨K,b+1,I,R,(T3 i s O).wk R,S,Z,by omega,by omega,o⟩,(ha.mm R)⟩
 rintro _ ap ⟨M,f,rfl,N,Q,Y,rfl⟩
 have h:=yI V
 refine Jp<|Je3 R<|Ju<|Ja2 (l:=[.tmp 4]) V210 (Jp2 R R) R ?_
 cases h
 exact⟨M,m,j,(by simp only[Y]),(hE.stp<|t.tr N),Q⟩
theorem lS {a b}{p0:(List Int)}{p1:Int}(g:Rd (Rp.int .i64) κ w 0 a b p0){r:Bool}(h:kG p0 p1=some r):Ret Tryz.prog 158 [.slice a p0.length b,vi p1] w (Pvb κ w r):=by
 unfold kG at h
 refine Jk3 κ F158 R N158 R λhE=>Je3 R<|Jg3 [2,2,2,2,2,2,2,1,2,2] 1 R<|Jn3 R U37 R R<|Jn 3 R<|Ob h λk h i=>Jf4 [4] 13 k κ w [(5,2),(6,2),(7,1),(8,2)] [(9,2)] tv ?_ ?_
 revert h
 cases n:decide ((p0.length:Int)<=p1)
 refine JF λh=>Jn 2 R<|Jz3 R<|Jn 1 R ?_
 cases h
 exact Jg4 tv R
 refine JT λh=>Jn 2 R<|Ob h λt j h=>Jr3 R C215 (r7 (κ:=Mk κ) (Ji3 g) j) ?_
 rintro _ s ⟨o,rfl,f⟩
 obtain⟨m,e,p⟩:=Ji f 2 R
 refine Tv<|Jn 1 R ?_
 cases h
 exact Jv1 _ tv ⟨R,_,e.wk R⟩<|KM R
 rintro _ q _ ⟨rfl,c,d⟩
 have h:=i
 refine Jb 1 R<|Ju<|Ja2 (l:=[.tmp 4]) V158 (Jp2 R R) R ?_
 cases h
 exact⟨c,R,(hE.stp d)⟩
theorem kS {aM aJ aN aK}{p0:Machine}(cl:Rd (Rp.sl (Rp.int .i64)) κ w 0 aM aJ p0.Next) (cm:Rd (Rp.sl (Rp.int .i64)) κ w 0 aN aK p0.Out){r:Machine}(h:je p0=some r):Ret Tryz.prog 70 [.agg #[.slice aM p0.Next.length aJ,.slice aN p0.Out.length aK]] w (λv w'=>∃(κ':Col) (bg:Option Addr) (bi:Nat) (bh:Option Addr) (bj:Nat),v= .agg #[.slice bg r.Next.length bi,.slice bh r.Out.length bj]/\Ent κ w κ' w'/\Oc (Ep.own E6 2) 37 κ' w' 2 bg bi r.Next/\Oc (Ep.own E6 2) 37 κ' w' 3 bh bj r.Out):=by
 unfold je at h
 refine Jk3 κ F70 R N70 R λhE=>Je [1,1] R<|Js3 (κ:=κ) 2 R λcY w1 bx ap cf=>Tv<|Jt3 (κ:=bx) 3 R X33 R λc0 dC bA O ck=>Tv<|Jd<|Je [1,1,2] R ?_
 have ay:=cf.stp O
 refine Jb4 tv R (Jc4 (haE ay.cells) I33 Z33 R)<|Ob h λbm cw h=>?_
 have av:=cl.stp (ap.tr O)
 have aw:=cm.stp (ap.tr O)
 refine Jr3 R C145 (qx (κ:=Mk bA) (p0:=p0) (Ji3 av) (Ji3 aw) cw) ?_
 rintro _ dm ⟨c8,cS,cP,rfl,bP,b4⟩
 obtain⟨bv,y,cF⟩:=Ji bP 4 R
 refine Tv<|?_
 have aS:=b4.mx (bX _) cF R (R:4+2=6)
 refine Jb 1 R<|Je [1,2] R<|Jd4 (κ:=bv) 7 [0] R Y37 a8 R λbJ bE dy bz q cb=>Tv<|Jb 1 R<|Je [2,1,1] R<|Jf R (Ji4 [.slice none 0 0,.slice none 0 0] R)<|Jt3 (κ:=bz) 8 R X33 R λaO dz K i cc=>Tv<|Jh4 (κ:=K) 8 R Z33 R cc R λbk j cd=>Tv<|Jd<|Jq<|Je3 R<|Ob h λbe cu cn=>?_
 clear h
 refine Jo3 [2,5] (λE L w'=>∃κ',∃t:(List Int)×Int×(List<|List Int)×(List<|List Int),∃aI aL S Y U aa,L=E/\Stp [7,8,9,10,11,12,15,16] K bk κ' w'/\Oc E6 2 κ' w' 7 aI aL t.1/\Oc (Ep.own E6 2) 37 κ' w' 9 S Y t.2.2.1/\Oc (Ep.own E6 2) 37 κ' w' 10 U aa t.2.2.2/\Bc κ' w' 8 aO 33 [.slice S t.2.2.1.length Y,.slice U t.2.2.2.length aa]/\be=eg t) ?_ ?_
 refine Jv<|Jp3 [1,2,3,5] (λk E L w'=>∃κ',∃c:(List Int)×Int×(List<|List Int)×(List<|List Int),∃H G ac ae D F,L=(4,.slice H c.1.length G)::(6,vi c.2.1)::E/\Stp [7,8,9,10,11,12,15,16] K bk κ' w'/\Oc E6 2 κ' w' 7 H G c.1/\Oc (Ep.own E6 2) 37 κ' w' 9 ac ae c.2.2.1/\Oc (Ep.own E6 2) 37 κ' w' 10 D F c.2.2.2/\Bc κ' w' 8 aO 33 [.slice ac c.2.2.1.length ae,.slice D c.2.2.2.length F]/\bU (eY p0 bm) k c=some be) ⟨_,_,⟨K,((([0]:List Int):(List Int)),(0:Int),(([]:List (List Int)):(List<|List Int)),(([]:List (List Int)):(List<|List Int))),bJ,bE,none,0,none,0,R,Jj3,(cb.stp<|i.tr j),Ow.nil,Ow.nil,cd,cu⟩,(KM R)⟩ ?_
 rintro k _ dB ⟨aD,c,H,G,ac,ae,D,F,rfl,s,aT,aU,aV,aW,h⟩
 rcases k with _ | k
 cases h
 obtain⟨dd,h,a3⟩:=BI h;unfold eY at h
 refine Jq<|Jg3 [2,2,2,2] 2 R<|Jn3 R U37 R R<|Jb 1 R ?_
 revert h
 cases c4:decide (c.2.1<(c.1.length:Int))
 refine JF λh=>Jy R<|Jc1<|Jt<|Jt ?_
 cases h
 have h:=a3
 refine Jb1 ?_
 cases h
 exact Jw1 _ ⟨aD,(c.1,c.2.1,c.2.2.1,c.2.2.2),H,G,ac,ae,D,F,R,s.wk R,aT,aU,aV,aW,R⟩<|KM R
 refine JT λh=>Jx R<|Js<|Jp<|Jq<|Jv<|Je [1,2] R<|Jx3 (κ:=aD) (E:=E6) 11 R Y37 a8 R λbF bM bl ak e ci=>Tv<|Jb 1 R<|Jq<|Je3 R<|Ob h λbf cv cp=>?_
 clear h
 refine Jo3 [1,2,3,5,6] (λE L w'=>∃κ',∃f:(List Int)×(List Int)×Int,∃X Z af T,L=(4,.slice X f.1.length Z)::(7,.slice af f.2.1.length T)::E/\Stp [7,11] ak bl κ' w'/\Oc E6 2 κ' w' 7 X Z f.1/\Oc E6 2 κ' w' 11 af T f.2.1/\bf=eg f) ?_ ?_
 refine Jv<|Jp3 [1,2,3,5,6] (λk E L w'=>∃κ',∃d:(List Int)×(List Int)×Int,∃I J W ar,L=(4,.slice I d.1.length J)::(7,.slice W d.2.1.length ar)::(8,vi d.2.2)::E/\Stp [7,11] ak bl κ' w'/\Oc E6 2 κ' w' 7 I J d.1/\Oc E6 2 κ' w' 11 W ar d.2.1/\bU (eZ p0 bm c) k d=some bf) ⟨_,_,⟨ak,(c.1,(([]:List Int):(List Int)),(0:Int)),H,G,bF,bM,R,Jj3,(aT.stp e),ci,cv⟩,(KM R)⟩ ?_
 rintro k _ dE ⟨M,d,I,J,W,ar,rfl,C,aY,aZ,h⟩
 rcases k with _ | k
 cases h
 obtain⟨de,h,a4⟩:=BI h;unfold eZ at h
 refine Jq<|Jq<|Js1 (κ:=M) [0,2,7] none [(0,2),(1,2),(3,2),(4,2),(5,2),(2,0),(6,0),(7,2),(8,0),(9,2),(10,2)] [] (by kernel_rfl) (by kernel_rfl) λdG m=>Jn 1 R<|Jd3 R U33 R Z31<|Jn 2 R<|Ob h λdJ a5 h=>Jc3 R aY.rdc a5 U37 Z2 ?_
 have a0:=ay.stp (T8 y q i j s e C m)
 refine Jg R (Jc2 I31 R R<|hvC (a0.ld 0 R R) R) ?_
 have ag:=aY.stp m
 refine Jg R (Jc2 I2 R R<|hvC (ag.rdc.gInt a5) R)<|Ob h λcH a6 h=>Jc3 R av a6 U31 Z37 ?_
 have ax:=av.stp (T8 y q i j s e C m)
 obtain⟨cV,df,c3,cs⟩:=ax.gSl a6
 refine Jg R (Jc2 I37 R R<|hvC cs R)<|Jn3 R U37 R R<|Jn 1 R<|Jt1<|Jd ?_
 revert h
 cases c5:decide (d.2.2<(cH.length:Int))
 refine JF λh=>Jy R<|Jc1<|Jt<|Jt ?_
 cases h
 have h:=a4
 refine Jb1 ?_
 cases h
 exact Jw1 _ ⟨M,(d.1,d.2.1,d.2.2),I,J,W,ar,R,(C.tr m).wk R,ag,(aZ.stp m),R⟩<|KM R
 refine JT λh=>Jx R<|Js<|Jp<|Jq<|Jv<|Jq<|Js1 (κ:=M) [0,2,6,7] none [(0,2),(1,2),(3,2),(4,2),(5,2),(9,2),(2,0),(6,0),(7,2),(8,0),(10,2),(11,0),(12,2),(13,0),(14,2)] [] (by kernel_rfl) (by kernel_rfl) λdH A=>Jn 1 R<|Jd3 R U33 R Z31<|Jn 2 R<|Ob h λdK a7 h=>Jc3 R ag.rdc a7 U37 Z2<|Jn 1 R<|Jg R (Jc2 I31 R R<|hvC ((a0.stp A).ld 0 R R) R) ?_
 have ah:=ag.stp A
 refine Jg R (Jc2 I2 R R<|hvC (ah.rdc.gInt a7) R)<|Ob h λdL a9 h=>Jc3 R ax a9 U31 Z37 ?_
 obtain⟨cW,dg,a1,ct⟩:=(ax.stp A).gSl a9
 refine Jg R (Jc2 I37 R R<|hvC ct R)<|Ob h λdM ba h=>Jc3 R a1 ba U37 Z2<|Jg R (Jc2 I2 R R<|hvC (a1.gInt ba) R)<|Ob h λcI bb h=>Jc3 R aS.rdc bb U37 Z2<|Jg R (Jc2 I2 R R<|hvC ((aS.stp<|T8 q i j s e C m A).rdc.gInt bb) R)<|Jn 1 R<|Jt1<|Jd<|Jq<|Jg3 [2,2,1,2] 2 R<|Ob h λcJ cx h=>Jr3 R C56 (jO (κ:=Mk M) (Ji3 ah.rdc) cx) ?_
 rintro _ cG ⟨da,rfl,bR⟩
 obtain⟨al,P,dc⟩:=Ji bR 12 R
 refine Tv<|Jb 1 R<|Ob h λaz h cq=>Jo3 [1,2,3,5,6,7,8,9] (λE L w'=>∃κ' V ab,L=(4,.slice V az.length ab)::E/\Stp [7] al cG κ' w'/\Oc E6 2 κ' w' 7 V ab az) ?_ ?_
 revert h
 cases c6:decide (cJ<0)
 refine JF λh=>Jy R<|Js ?_
 cases h
 exact Jw1 _ ⟨al,I,J,R,Jj3,(ah.stp P)⟩<|KM R
 refine JT λh=>Jx R<|Jh3 [2,2,1,1,2] 2 R<|Jd4 (κ:=al) 14 [cI] R Y37 a8 R λc1 cQ di bo aE bS=>Tv<|Ob h λdN cy h=>Jy3 (κ:=bo) (E:=E6) 7 [] R Y37 a8 R (ah.stp<|P.tr aE) (Sl.srcP (co _) bS.rdc) bZ cy R λbH bN dj bp bD bV=>Tv<|Jc 1 R ?_
 cases h
 exact Jw1 _ ⟨bp,bH,bN,R,(aE.tr bD).wk R,bV⟩<|KM R
 rintro _ dI ⟨bC,V,ab,rfl,aH,a2⟩
 have h:=cq
 refine Jp<|Jh3 [2,2,2,1,1,1,2] 3 R<|Ob h λcK cz h=>Jr3 R C56 (jO (κ:=Mk bC) (Ji3 a2.rdc) cz) ?_
 rintro _ dk ⟨c7,rfl,bO⟩
 obtain⟨bq,am,db⟩:=Ji bO 14 R
 refine Tv<|Jd4 (κ:=bq) 16 [cK] R Y37 a8 R λcU cT dl br an bW=>Tv<|Ob h λcL cA h=>Jy3 (κ:=br) (E:=E6) 11 [] R Y37 a8 R (aZ.stp<|T6 m A P aH am an) (Sl.srcP (co _) bW.rdc) bZ cA R λbI bL dn bs aF bY=>Tv<|Jc 1 R<|Jz<|Jp<|Jf3 R ?_
 cases h
 exact Jz1 λa ha=>⟨k,_,Ja3 _,⟨bs,(az,cL,((IntKind.i64.wrap<|d.2.2+1):Int)),V,ab,bI,bL,R,(T8 C m A P aH am an aF).wk R,(a2.stp<|T3 am an aF),bY,a4⟩,(ha.mm R)⟩
 rintro _ dD ⟨bB,f,X,Z,af,T,rfl,z,aX,cj,rfl⟩
 have h:=yI cp
 refine Jp<|Je [2,1,2,1,1,2,1] R<|Jd3 R U33 R Z31 ?_
 have aP:=aW.stp (e.tr z)
 refine Jb3 R I31 (aP.ld 0 R R)<|Jn 1 R<|Jw3 (κ:=bB) (E:=(Ep.own E6 2)) 12 [11] (parts:=[(0,.tmp 64)]) (cells:=[.slice af f.2.1.length T]) (xs:=([f.2.1]:List (List Int))) R Y31 bT R (Je4 ⟨_,_,R,cj⟩) λcN cR dp bt n b0=>Tv<|Ob h λai cB h=>Jy3 (κ:=bt) (E:=(Ep.own E6 2)) 9 [12] R Y31 bT R (aU.stp<|T3 e z n) b0.src (cZ R) cB R λad Q dq aj u b1=>Tv<|Jd3 R U33 R Z31<|Ju3 (κ:=aj) 8 (off:=0) (vc:=[.slice ad ai.length Q]) (cs':=[.slice ad ai.length Q,.slice D c.2.2.2.length F]) R Z31 R (aP.stp<|n.tr u) R λdr x b2=>Tv<|Jd<|Js1 (κ:=aj) [0,2,7,8] (some 14) [(0,2),(2,2),(4,2),(5,2),(6,2),(1,0),(3,0),(7,0),(8,2),(9,0),(10,1),(11,1),(12,1),(13,2)] [(14,1)] (by kernel_rfl) (by kernel_rfl) λds o=>Jd3 R U33 R Z31<|Jd3 R U33 R Z31<|Jn 2 R<|Ob h λdO bc h=>Jc3 R aX.rdc bc U37 Z2 ?_
 have aQ:=b2.stp o
 refine Jg R (Jc2 I31 R R<|hvC (aQ.ld 1 R R) R)<|Jg R (Jc2 I31 R R<|hvC ((ay.stp<|T11 y q i j s e z n u x o).ld 1 R R) R) ?_
 have aR:=aX.stp (T4 n u x o)
 refine Jg R (Jc2 I2 R R<|hvC (aR.rdc.gInt bc) R)<|Ob h λdP bd h=>Jc3 R aw bd U31 Z37 ?_
 obtain⟨cX,dh,b3,cr⟩:=(aw.stp (T11 y q i j s e z n u x o)).gSl bd
 refine Jg R (Jc2 I37 R R<|hvC cr R)<|Ob h λbn cC h=>Jr3 R C131 (dF (κ:=Mk aj) (Ji3 b3) cC) ?_
 rintro _ dt ⟨c9,bK,bG,rfl,bQ,b5⟩
 obtain⟨bu,g,cE⟩:=Ji bQ 13 R
 refine⟨(g.cl R),Jw3 (κ:=bu) (E:=(Ep.own E6 2)) 16 [15] (parts:=[(0,.tmp 78)]) (cells:=[.slice bK bn.length bG]) (xs:=([bn]:List (List Int))) R Y31 bT R (Je4 ⟨_,_,R,(b5.mx (bX _) cE R (R:13+2=15))⟩) λcM cO du bw p b6=>⟨((g.tr p).cl R),Ob h λaA cD h=>Jy3 (κ:=bw) (E:=(Ep.own E6 2)) 10 [16] R Y31 bT R (aV.stp<|T8 e z n u x o g p) b6.src (cZ R) cD R λaq au dv aB B b7=>⟨((T3 g p B).cl R),Jd3 R U33 R Z31<|Jt1<|Ju3 (κ:=aB) 8 (off:=1) (vc:=[.slice aq aA.length au]) (cs':=[.slice ad ai.length Q,.slice aq aA.length au]) R Z31 R (aQ.stp<|T3 g p B) R λdw N b8=>Tv<|Jo<|Jz<|Jp<|Jf3 R ?_⟩⟩⟩
 cases h
 exact Jz1 λa ha=>⟨k,_,Ja3 _,⟨aB,(f.1,((IntKind.i64.wrap<|c.2.1+1):Int),ai,aA),X,Z,ad,Q,aq,au,R,(T11 s e z n u x o g p B N).wk R,(aR.stp<|T4 g p B N),(b1.stp<|T6 x o g p B N),(b7.stp N),b8,a3⟩,(ha.mm R)⟩
 rintro _ dA ⟨aC,t,aI,aL,S,Y,U,aa,rfl,aG,c2,ce,cg,ch,rfl⟩
 have h:=yI cn
 refine Jp<|Je [1,1] R<|Jb4 tv R (Jc4 (haE ch.cells) I33 Z33 R)<|Jh4 (κ:=aC) 3 R Z33 R (ck.stp<|T5 y q i j aG) R λdx ao b9=>Tv<|Jd<|Ju<|Ja2 (l:=[.cell 2 33]) V70 (ca R b9 I33 Z33 R R) R ?_
 cases h
 exact⟨(λb=>ren [(9,2),(10,3)]<|aC b),S,Y,U,aa,R,((hE.stp<|T8 ap O y q i j aG ao).map (ren [(9,2),(10,3)]) R R),((ce.stp ao).map (ren [(9,2),(10,3)]) R R),((cg.stp ao).map (ren [(9,2),(10,3)]) R R)⟩
theorem qz {p0:Sig}{be a6 bc ba}{p1:Machine}{bd bb a9 a7}{p2:Det}(bv:Rd (Rp.sl (Rp.int .i64)) κ w 0 be a6 p1.Next) (bw:Rd (Rp.sl (Rp.int .i64)) κ w 0 bc ba p1.Out) (bx:Rd (Rp.sl (Rp.int .i64)) κ w 0 bd bb p2.Next) (dK:Rd Pair.rp κ w 0 a9 a7 p2.Pairs){r:l30Graph×Bool}(h:jg p0 p1 p2=some r):Ret Tryz.prog 205 [.agg #[vi p0.In,vi p0.Out],.agg #[.slice be p1.Next.length a6,.slice bc p1.Out.length ba],.agg #[.slice bd p2.Next.length bb,.slice a9 p2.Pairs.length a7]] w (λv w'=>∃(κ':Col) (bM:Option Addr) (bQ:Nat) (bN:Option Addr) (bR:Nat) (bO:Option Addr) (bS:Nat) (bP:Option Addr) (bV:Nat),v= .tuple #[.agg #[.slice bM r.1.of.length bQ,.slice bN r.1.by0.length bR,.slice bO r.1.next.length bS,.slice bP r.1.letters.length bV],.bool r.2]/\Ent κ w κ' w'/\Oc E6 2 κ' w' 2 bM bQ r.1.of/\Oc E6 2 κ' w' 3 bN bR r.1.by0/\Oc (Ep.own E6 2) 37 κ' w' 4 bO bS r.1.next/\Oc (Ep.own E6 2) 37 κ' w' 5 bP bV r.1.letters):=by
 unfold jg at h
 refine Jk3 κ F205 R N205 R λhE=>Je [1,1,1,1,2] R<|Js3 (κ:=κ) 2 R λdy w1 cd O cX=>Tv<|Js3 (κ:=cd) 3 R λdz ei cf B da=>Tv<|Js3 (κ:=cf) 4 R λdA em b3 x cC=>Tv<|Jt3 (κ:=b3) 5 R X216 R λdB d2 b5 u bn=>Tv<|Jb 1 R<|Je [2,1,2] R<|Jf R (Ji4 [.slice none 0 0,.slice none 0 0,.slice none 0 0,.slice none 0 0] R)<|Js3 (κ:=b5) 6 R λax bW az o cP=>Tv<|Jb 1 R<|Jg3 [2,1] 1 R ?_
 have cS:Oc E6 2 az bW 7 none 0 ([]:List Int):=Ow.nil
 have cT:Oc E6 2 az bW 8 none 0 ([]:List Int):=Ow.nil
 refine Ob h λb2 dj h=>Jr3 R C254 (n9 (κ:=λb=>mp [(7,2),(8,3),(6,4)] 0<|az b) (p0:=(⟨([]:List Int),([]:List Int),([]:List (List Int)),([]:List (List Int))⟩:l30Graph)) (cS.map (mp [(7,2),(8,3),(6,4)] 0) R R) (cT.map (mp [(7,2),(8,3),(6,4)] 0) R R) Sl.nil Sl.nil (cP.map (mp [(7,2),(8,3),(6,4)] 0) R R) dj) ?_
 rintro _ b0 ⟨dQ,ci,cu,cv,cs,rfl,cA,cU,cV,cW⟩
 obtain⟨aA,p,aT⟩:=Ji cA 9 R
 refine Tv<|Jd<|Jq<|Je3 R<|Ob h λbK df bz=>?_
 clear h
 refine Jo3 [6,8] (λE L w'=>∃κ',∃s:Int×(List Int)×(List Int)×(List<|List Int)×(List<|List Int),∃ao Z am av ar aa ac ap,L=E/\Stp [11,12,13,14,15,16,17,18,19,24,25,26] aA b0 κ' w'/\Oc E6 2 κ' w' 11 ao Z s.2.1/\Oc E6 2 κ' w' 12 am av s.2.2.1/\Oc (Ep.own E6 2) 37 κ' w' 14 ar aa s.2.2.2.1/\Oc (Ep.own E6 2) 37 κ' w' 15 ac ap s.2.2.2.2/\Bc κ' w' 13 ax 216 [.slice ao s.2.1.length Z,.slice am s.2.2.1.length av,.slice ar s.2.2.2.1.length aa,.slice ac s.2.2.2.2.length ap]/\bK=eg s) ?_ ?_
 refine Jv<|Jp3 [3,4,5,6,8] (λk E L w'=>∃κ',∃c:Int×(List Int)×(List Int)×(List<|List Int)×(List<|List Int),∃S Q T U D F z y,L=(9,vi c.1)::E/\Stp [11,12,13,14,15,16,17,18,19,24,25,26] aA b0 κ' w'/\Oc E6 2 κ' w' 11 S Q c.2.1/\Oc E6 2 κ' w' 12 T U c.2.2.1/\Oc (Ep.own E6 2) 37 κ' w' 14 D F c.2.2.2.1/\Oc (Ep.own E6 2) 37 κ' w' 15 z y c.2.2.2.2/\Bc κ' w' 13 ax 216 [.slice S c.2.1.length Q,.slice T c.2.2.1.length U,.slice D c.2.2.2.1.length F,.slice z c.2.2.2.2.length y]/\bU (fa p0 p1 p2) k c=some bK) ⟨_,_,⟨aA,((0:Int),b2.2.1,b2.2.2,(([]:List (List Int)):(List<|List Int)),(([]:List (List Int)):(List<|List Int))),ci,cu,cv,cs,none,0,none,0,R,Jj3,(cU.mx (bX _) aT R (R:9+2=11)),(cV.mx (bX _) aT R (R:9+3=12)),Ow.nil,Ow.nil,(cW.mx aT R (R:9+4=13)),df⟩,(KM R)⟩ ?_
 rintro k _ eh ⟨a0,c,S,Q,T,U,D,F,z,y,rfl,q,bp,bq,aL,aM,aN,h⟩
 rcases k with _ | k
 cases h
 obtain⟨dU,h,aR⟩:=BI h;unfold fa at h
 refine Jq<|Jg3 [2,2,2,2,1,2,2] 2 R<|Jf R (bY R R)<|Jd3 R U216 R Z37<|Jb3 R I37 (aN.ld 0 R R)<|Jn3 R U37 R R<|Jb 1 R ?_
 revert h
 cases dM:decide (c.1<(c.2.1.length:Int))
 refine JF λh=>Jy R<|Jc1<|Jt<|Jt ?_
 cases h
 have h:=aR
 refine Jb1 ?_
 cases h
 exact Jw1 _ ⟨a0,(c.1,c.2.1,c.2.2.1,c.2.2.2.1,c.2.2.2.2),S,Q,T,U,D,F,z,y,R,q.wk R,bp,bq,aL,aM,aN,R⟩<|KM R
 refine JT λh=>Jx R<|Js<|Jp<|Jq<|Jv<|Je [1,2] R<|Jx3 (κ:=a0) (E:=E6) 16 R Y37 a8 R λcx cm ej ce i c4=>Tv<|Jb 1 R<|Je [1,2] R<|Jx3 (κ:=ce) (E:=E6) 17 R Y37 a8 R λck cj b1 aB g c5=>Tv<|Jb 1 R<|Jq<|Je3 R<|Ob h λbL dg db=>?_
 clear h
 refine Jo3 [3,4,5,6,8,9] (λE L w'=>∃κ',∃e:(List Int)×(List Int)×Int×(List Int)×(List Int),∃au aw aj an C G I H,L=(10,.slice au e.1.length aw)::(11,.slice aj e.2.1.length an)::E/\Stp [11,12,13,16,17,24,25,26] aB b1 κ' w'/\Oc E6 2 κ' w' 16 au aw e.1/\Oc E6 2 κ' w' 17 aj an e.2.1/\Oc E6 2 κ' w' 11 C G e.2.2.2.1/\Oc E6 2 κ' w' 12 I H e.2.2.2.2/\Bc κ' w' 13 ax 216 [.slice C e.2.2.2.1.length G,.slice I e.2.2.2.2.length H,.slice D c.2.2.2.1.length F,.slice z c.2.2.2.2.length y]/\bL=eg e) ?_ ?_
 refine Jv<|Jp3 [3,4,5,6,8,9] (λk E L w'=>∃κ',∃d:(List Int)×(List Int)×Int×(List Int)×(List Int),∃ah ai aq ad af ag ae al,L=(10,.slice ah d.1.length ai)::(11,.slice aq d.2.1.length ad)::(12,vi d.2.2.1)::E/\Stp [11,12,13,16,17,24,25,26] aB b1 κ' w'/\Oc E6 2 κ' w' 16 ah ai d.1/\Oc E6 2 κ' w' 17 aq ad d.2.1/\Oc E6 2 κ' w' 11 af ag d.2.2.2.1/\Oc E6 2 κ' w' 12 ae al d.2.2.2.2/\Bc κ' w' 13 ax 216 [.slice af d.2.2.2.1.length ag,.slice ae d.2.2.2.2.length al,.slice D c.2.2.2.1.length F,.slice z c.2.2.2.2.length y]/\bU (fb p0 p1 p2 c) k d=some bL) ⟨_,_,⟨aB,((([]:List Int):(List Int)),(([]:List Int):(List Int)),(0:Int),c.2.1,c.2.2.1),cx,cm,ck,cj,S,Q,T,U,R,Jj3,(c4.stp g),c5,(bp.stp<|i.tr g),(bq.stp<|i.tr g),(aN.stp<|i.tr g),dg⟩,(KM R)⟩ ?_
 rintro k _ el ⟨cg,d,ah,ai,aq,ad,af,ag,ae,al,rfl,t,br,bs,aP,aQ,bt,h⟩
 rcases k with _ | k
 cases h
 obtain⟨dV,h,bA⟩:=BI h;unfold fb at h
 refine Jq<|Jg3 [2,1,1,2] 1 R ?_
 have bu:=cX.stp (T9 B x u o p q i g t)
 refine Jb4 tv R (Jc4 (haE bu.cells) I28 Z28 R)<|Ob h λdq dk h=>Jr3 R C60 (kH (κ:=Mk cg) (p0:=p0) dk) ?_
 rintro _ en ⟨dR,rfl,cB⟩
 obtain⟨aD,f,dT⟩:=Ji cB 18 R
 refine Tv<|Jb 1 R ?_
 revert h
 cases dN:decide (d.2.2.1<dq)
 refine JF λh=>Jy R<|Jc1<|Jt<|Jt ?_
 cases h
 have h:=bA
 refine Jb1 ?_
 cases h
 exact Jw1 _ ⟨aD,(d.1,d.2.1,d.2.2.1,d.2.2.2.1,d.2.2.2.2),ah,ai,aq,ad,af,ag,ae,al,R,(t.tr f).wk R,(br.stp f),(bs.stp f),(aP.stp f),(aQ.stp f),(bt.stp f),R⟩<|KM R
 refine JT λh=>Jx R<|Js<|Jp<|Jq<|Jv<|Jq<|Js1 (κ:=aD) [0,2,3,11,13] none [(0,2),(2,2),(3,2),(4,2),(6,2),(11,2),(17,2),(1,0),(5,0),(7,2),(8,0),(9,2),(10,0),(12,2),(13,0),(14,0),(15,1),(16,2),(18,2),(19,2)] [] (by kernel_rfl) (by kernel_rfl) λeo j=>Jd3 R U33 R Z31<|Jn 1 R<|Jf R (bY R R)<|Jd3 R U216 R Z37<|Jn 3 R ?_
 have bf:=da.stp (T10 x u o p q i g t f j)
 refine Jg R (Jc2 I31 R R<|hvC (bf.ld 1 R R) R) ?_
 have bg:=bt.stp (f.tr j)
 refine Jg R (Jc2 I37 R R<|hvC (bg.ld 0 R R) R)<|Ob h λep bB h=>Jc3 R aP.rdc bB U37 Z2 ?_
 have aJ:=aP.stp (f.tr j)
 refine Jg R (Jc2 I2 R R<|hvC (aJ.rdc.gInt bB) R)<|Ob h λeq bC h=>Jc3 R bw bC U31 Z37 ?_
 obtain⟨dv,dW,bh,dc⟩:=(bw.stp (T12 O B x u o p q i g t f j)).gSl bC
 refine Jg R (Jc2 I37 R R<|hvC dc R)<|Ob h λdr bD h=>Jc3 R bh bD U37 Z2<|Jg R (Jc2 I2 R R<|hvC (bh.gInt bD) R)<|Jg R (Jc4 (haC (bu.stp<|f.tr j).cells R) I28 Z28 R)<|Ob h λds dl h=>Jr3 R C60 (kH (κ:=Mk aD) (p0:=p0) dl) ?_
 rintro _ dZ ⟨dO,rfl,cy⟩
 obtain⟨aW,m,dS⟩:=Ji cy 20 R
 refine⟨(m.cl R),Jn 3 R<|Jt1<|Jd<|Jq<|Js1 (κ:=aW) [0,3,4,11,12,13] (some 30) [(0,2),(1,2),(2,2),(4,2),(5,2),(6,2),(8,2),(13,2),(16,2),(18,2),(19,2),(20,2),(22,2),(27,2),(3,0),(7,0),(9,2),(10,0),(11,2),(12,0),(14,2),(15,0),(17,0),(21,0),(23,2),(24,0),(25,2),(26,0),(28,2),(29,0)] [(30,1),(31,1),(32,1),(33,2)] (by kernel_rfl) (by kernel_rfl) λd0 n=>Jn 2 R<|Jd3 R U33 R Z31<|Jn 1 R<|Jf R (bY R R)<|Jd3 R U216 R Z37<|Jn 2 R<|Jd3 R U71 R Z31<|Jn 1 R<|Jf R (bY R R)<|Jd3 R U216 R Z37<|Jn 2 R<|Jg R (Jc2 I31 R R<|hvC ((bf.stp<|m.tr n).ld 0 R R) R) ?_⟩
 have aK:=bg.stp (m.tr n)
 refine Jg R (Jc2 I37 R R<|hvC (aK.ld 0 R R) R)<|Ob h λer bE h=>Jc3 R aJ.rdc bE U37 Z2 ?_
 have bi:=aJ.stp (m.tr n)
 refine Jg R (Jc2 I2 R R<|hvC (bi.rdc.gInt bE) R)<|Ob h λes bF h=>Jc3 R bv bF U31 Z37 ?_
 obtain⟨dw,dX,bj,dd⟩:=(bv.stp (T14 O B x u o p q i g t f j m n)).gSl bF
 refine Jg R (Jc2 I37 R R<|hvC dd R)<|Ob h λet bG h=>Jc3 R bj bG U37 Z2<|Jg R (Jc2 I2 R R<|hvC (bj.gInt bG) R)<|Jg R (Jc2 I31 R R<|hvC ((cC.stp<|T11 u o p q i g t f j m n).ld 0 R R) R)<|Jg R (Jc2 I37 R R<|hvC (aK.ld 1 R R) R)<|Ob h λeu bH h=>Jc3 R aQ.rdc bH U37 Z2 ?_
 have bl:=aQ.stp (T4 f j m n)
 refine Jg R (Jc2 I2 R R<|hvC (bl.rdc.gInt bH) R)<|Ob h λev bI h=>Jc3 R bx bI U31 Z37 ?_
 obtain⟨dx,dY,bm,de⟩:=(bx.stp (T14 O B x u o p q i g t f j m n)).gSl bI
 have a1:=(T7 i g t f j m n)
 refine Jg R (Jc2 I37 R R<|hvC de R)<|Ob h λew bJ h=>Jc3 R bm bJ U37 Z2<|Jg R (Jc2 I2 R R<|hvC (bm.gInt bJ) R)<|Jt1<|Ob h λaV dm h=>Jr3 R C254 (n9 (κ:=λb=>mp [(11,2),(12,3),(13,4)] 0<|aW b) (p0:=(⟨d.2.2.2.1,d.2.2.2.2,c.2.2.2.1,c.2.2.2.2⟩:l30Graph)) (bi.map (mp [(11,2),(12,3),(13,4)] 0) R R) (bl.map (mp [(11,2),(12,3),(13,4)] 0) R R) (Jl2 (aL.stp a1).rdc (mp [(11,2),(12,3),(13,4)] 0) R R) (Jl2 (aM.stp a1).rdc (mp [(11,2),(12,3),(13,4)] 0) R R) (aK.map (mp [(11,2),(12,3),(13,4)] 0) R R) dm) ?_
 rintro _ d1 ⟨dP,ct,cr,cl,cn,rfl,cz,cD,cE,cF⟩
 obtain⟨b4,a4,aS⟩:=Ji cz 22 R
 have a2:=(T5 f j m n a4)
 refine Tv<|Jd4 (κ:=b4) 27 [aV.1] R Y37 a8 R λdG dH d3 b6 V cG=>Tv<|Ob h λdt dn h=>Jy3 (κ:=b6) (E:=E6) 16 [] R Y37 a8 R (br.stp<|a2.tr V) (Sl.srcP (co _) cG.rdc) bZ dn R λcq cw d4 b7 aF cH=>Tv<|Jb 1 R<|Jh3 [2,2,1,1,2] 2 R<|Jd4 (κ:=b7) 28 [(IntKind.i64.wrap ((IntKind.i64.wrap<|dr * ds)+d.2.2.1))] R Y37 a8 R λdD dC d5 b8 W cI=>Tv<|Ob h λdu dp h=>Jy3 (κ:=b8) (E:=E6) 17 [] R Y37 a8 R (bs.stp<|T4 a2 V aF W) (Sl.srcP (co _) cI.rdc) bZ dp R λbk cp d6 b9 aG cJ=>Tv<|Jc 1 R<|Jz<|Jp<|Jf3 R ?_
 cases h
 have aE:=(T4 V aF W aG)
 exact Jz1 λa ha=>⟨k,_,Ja3 _,⟨(λb=>ren [(24,11),(25,12),(26,13)]<|b9 b),(dt,du,((IntKind.i64.wrap<|d.2.2.1+1):Int),aV.2.1,aV.2.2),cq,cw,bk,cp,ct,cr,cl,cn,R,(Jy2 ((T10 t f j m n a4 V aF W aG).wk R) [(24,11),(25,12),(26,13)] R),((cH.stp<|W.tr aG).map (ren [(24,11),(25,12),(26,13)]) R R),(cJ.map (ren [(24,11),(25,12),(26,13)]) R R),(((cD.mx (bX _) aS R (R:22+2=24)).stp aE).map (ren [(24,11),(25,12),(26,13)]) R R),(((cE.mx (bX _) aS R (R:22+3=25)).stp aE).map (ren [(24,11),(25,12),(26,13)]) R R),(((cF.mx aS R (R:22+4=26)).stp aE).map (ren [(24,11),(25,12),(26,13)]) R R),bA⟩,(ha.mm R)⟩
 rintro _ ek ⟨aC,e,au,aw,aj,an,C,G,I,H,rfl,P,c6,c7,c8,c9,aO,rfl⟩
 have h:=yI db
 refine Jp<|Jq<|Jg3 [2,2,2,1,2,2] 1 R<|Jf R (bY R R)<|Jd3 R U216 R Z37<|Jb3 R I37 (aO.ld 0 R R)<|Jn3 R U37 R R<|Jb 1 R ?_
 revert h
 cases dL:decide (256<(e.2.2.2.1.length:Int))
 refine JF λh=>Jy R<|Js<|Jp<|Jg3 [2,2,2,2,1,2,1,1,2,2,1] 2 R<|Jf R (bY R R)<|Jd3 R U216 R Z31<|Jb3 R I31 (aO.ld 2 R R)<|Jn 1 R<|Jw3 (κ:=aC) (E:=(Ep.own E6 2)) 18 [16] (parts:=[(0,.tmp 103)]) (cells:=[.slice au e.1.length aw]) (xs:=([e.1]:List (List Int))) R Y31 bT R (Je4 ⟨_,_,R,c6⟩) λdI dF d8 cb A cL=>Tv<|Ob h λay dh h=>Jy3 (κ:=cb) (E:=(Ep.own E6 2)) 14 [18] R Y31 bT R (aL.stp<|T4 i g P A) cL.src (cZ R) dh R λak ab d9 aX J cM=>Tv<|Jf R (bY R R)<|Jd3 R U216 R Z31<|Ju3 (κ:=aX) 13 (off:=2) (vc:=[.slice ak ay.length ab]) (cs':=[.slice C e.2.2.2.1.length G,.slice I e.2.2.2.2.length H,.slice ak ay.length ab,.slice z c.2.2.2.2.length y]) R Z31 R (aO.stp<|A.tr J) R λea K bo=>Tv<|Jd<|Jh3 [2,2,2,2,1,2,1,1,2,2,1] 2 R<|Jf R (bY R R)<|Jd3 R U216 R Z31<|Jb3 R I31 (bo.ld 3 R R)<|Jn 1 R<|Jw3 (κ:=aX) (E:=(Ep.own E6 2)) 19 [17] (parts:=[(0,.tmp 113)]) (cells:=[.slice aj e.2.1.length an]) (xs:=([e.2.1]:List (List Int))) R Y31 bT R (Je4 ⟨_,_,R,(c7.stp<|T3 A J K)⟩) λdJ dE eb cc M cN=>Tv<|Ob h λaU di h=>Jy3 (κ:=cc) (E:=(Ep.own E6 2)) 15 [19] R Y31 bT R (aM.stp<|T7 i g P A J K M) cN.src (cZ R) di R λaI aH ec aY X cO=>Tv<|Jf R (bY R R)<|Jd3 R U216 R Z31<|Ju3 (κ:=aY) 13 (off:=3) (vc:=[.slice aI aU.length aH]) (cs':=[.slice C e.2.2.2.1.length G,.slice I e.2.2.2.2.length H,.slice ak ay.length ab,.slice aI aU.length aH]) R Z31 R (bo.stp<|M.tr X) R λed Y cQ=>Tv<|Jo<|Jz<|Jp<|Jf3 R ?_
 cases h
 have a3:=(T6 A J K M X Y)
 exact Jz1 λa ha=>⟨k,_,Ja3 _,⟨aY,(((IntKind.i64.wrap<|c.1+1):Int),e.2.2.2.1,e.2.2.2.2,ay,aU),C,G,I,H,ak,ab,aI,aH,R,(T10 q i g P A J K M X Y).wk R,(c8.stp a3),(c9.stp a3),(cM.stp<|T4 K M X Y),(cO.stp Y),cQ,aR⟩,(ha.mm R)⟩
 refine JT λh=>Jx R<|Je [2,1,2] R<|Jf R (Ji4 [.slice none 0 0,.slice none 0 0,.slice none 0 0,.slice none 0 0] R)<|Jh4 (κ:=aC) 5 R Z216 R (bn.stp<|T6 o p q i g P) R λd7 ch cK=>Tv<|Jb 1 R<|Ju<|Jw<|Ja1<|Jw<|Jw ?_
 cases h
 obtain rfl:=Option.some.inj aR
 have h:=yL bz
 refine Ja1<|Jq2<|Jw<|Ja2 (l:=[.cell 6 216,.tmp 7]) V205 (ca R cK I216 Z216 R<|Jp2 R R) R ?_
 cases h
 exact⟨aC,none,0,none,0,none,0,none,0,R,(hE.stp<|T11 O B x u o p q i g P ch),Ow.nil,Ow.nil,Ow.nil,Ow.nil⟩
 rintro _ ef ⟨aZ,s,ao,Z,am,av,ar,aa,ac,ap,rfl,a5,cY,c0,c1,c2,c3,rfl⟩
 have h:=yI bz
 refine Jp<|Jg3 [2,2,1,1,2] 1 R<|Jf R (bY R R)<|Jb4 tv R (Jc4 (haE c3.cells) I216 Z216 R)<|Jh4 (κ:=aZ) 5 R Z216 R (bn.stp<|T3 o p a5) R λee N cR=>Tv<|Jb 1 R<|Ju<|Ja2 (l:=[.cell 6 216,.tmp 7]) V205 (ca R cR I216 Z216 R<|Jp2 R R) R ?_
 cases h
 exact⟨(λb=>ren [(11,2),(12,3),(14,4),(15,5)]<|aZ b),ao,Z,am,av,ar,aa,ac,ap,R,((hE.stp<|T8 O B x u o p a5 N).map (ren [(11,2),(12,3),(14,4),(15,5)]) R R),((cY.stp N).map (ren [(11,2),(12,3),(14,4),(15,5)]) R R),((c0.stp N).map (ren [(11,2),(12,3),(14,4),(15,5)]) R R),((c1.stp N).map (ren [(11,2),(12,3),(14,4),(15,5)]) R R),((c2.stp N).map (ren [(11,2),(12,3),(14,4),(15,5)]) R R)⟩
end Go.Proofs.YtleekpaohfpooaaGreat
