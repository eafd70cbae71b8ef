/- The walks, part 6. By program. -/
import Derived.Test.YtleekpaohfpooaaGreatFns2VF
import Derived.Test.YtleekpaohfpooaaGreatFns3VF
set_option linter.unusedVariables false
set_option linter.unusedSimpArgs false
open Go.IntKind renaming wrap → bM
open Sum renaming inr → cb, inl → eg
open Int renaming toNat → hV
namespace Go.Proofs.YtleekpaohfpooaaGreat
open Go Go.Wk Go.Proofs
set_option maxRecDepth 100000
set_option maxHeartbeats 1000000
variable {w:World}{κ:Col}
theorem ou {d e b c}{p0:Clause}{c0:Sig}{f}(n:Rd (Rp.int .i64) κ w 0 d e p0.A) (o:Rd (Rp.int .i64) κ w 0 b c p0.B) (p:Bc κ w 0 f 28 [vi c0.In,vi c0.Out]){r:Bool}(h:eV p0 c0=some r):Ret Tryz.prog 127 [.agg #[vi p0.Kind,.slice d p0.A.length e,.slice b p0.B.length c],.pointer (some ⟨f,0,none⟩)] w (Pvb κ w r):=by
 unfold eV at h
 refine Jk3 κ F127 R N127 R λq=>Je [1,2] R<|Js3 (κ:=κ) 2 R λt w1 i a m=>Tv<|Jb 1 R<|Je [1,1,1,2,2] R<|Jb4 tv R (Jc4 (haE (p.stp a).cells) I28 Z28 R)<|Jb4 tv R (Jc4 (haE m.cells) I67 Z67 R)<|Ob h λy s h=>Jr3 R C128 (qJ (κ:=Mk i) (p0:=c0) (p1:=p0) (Ji3<|n.stp a) (Ji3<|o.stp a) s) ?_
 rintro _ x ⟨u,rfl,k⟩
 obtain⟨g,j,v⟩:=Ji k 3 R
 refine Tv<|Jb 2 R<|Ju<|Ja2 (l:=[.tmp 3]) V127 (Jp2 R R) R ?_
 cases h
 exact⟨g,R,(q.stp<|a.tr j)⟩
theorem kH {bc bi bg a6}{p0:Det}{aw av aC ay}{p1:Det}(b8:Rd (Rp.sl (Rp.int .i64)) κ w 0 bc bi p0.Next) (eZ:Rd Pair.rp κ w 0 bg a6 p0.Pairs) (b9:Rd (Rp.sl (Rp.int .i64)) κ w 0 aw av p1.Next) (e0:Rd Pair.rp κ w 0 aC ay p1.Pairs){r:Det×Bool}(h:iR p0 p1=some r):Ret Tryz.prog 104 [.agg #[.slice bc p0.Next.length bi,.slice bg p0.Pairs.length a6],.agg #[.slice aw p1.Next.length av,.slice aC p1.Pairs.length ay]] w (λv w'=>∃(κ':Col) (dr:Option Addr) (dt:Nat) (ds:Option Addr) (du:Nat),v= .tuple #[.agg #[.slice dr r.1.Next.length dt,.slice ds r.1.Pairs.length du],.bool r.2]/\Ent κ w κ' w'/\Oc (Ep.own E6 2) 37 κ' w' 2 dr dt r.1.Next/\Oc Pair.ep127 127 κ' w' 3 ds du r.1.Pairs):=by
 unfold iR at h
 refine Jk3 κ F104 R N104 R λca=>Je [1,1,1,2] R<|Js3 (κ:=κ) 2 R λf4 w1 dN W eQ=>Tv<|Js3 (κ:=dN) 3 R λf5 hu dT N eU=>Tv<|Jt3 (κ:=dT) 4 R X71 R λf6 dB af G bR=>Tv<|Jb 1 R<|Jq<|Je [2,1,2,2,1,2,2,2] R<|Jd3 R U71 R Z69 ?_
 have bT:=eQ.stp (N.tr G)
 refine Jb3 R I69 (bT.ld 1 R R)<|Jn3 R U69 R R<|Jd3 R U71 R Z69 ?_
 have bV:=eU.stp G
 refine Jb3 R I69 (bV.ld 1 R R)<|Jn3 R U69 R R<|Jb 2 R ?_
 revert h
 cases gz:decide (4<(IntKind.i64.wrap ((p0.Pairs.length:Int)+(p1.Pairs.length:Int))))
 refine JF λh=>Jy R<|Js<|Jp<|Je [2,1,2] R<|Jf R (Ji4 [vi 0,vi 0] R)<|Jw3 (κ:=af) (E:=(Ep.pair E6 E6)) 5 [] (parts:=[(0,.tmp 30)]) (cells:=[vi 0,vi 0]) (xs:=([(0,0)]:List (Int×Int))) R Y123 iM R (Je4 ⟨[vi 0],[vi 0],Zl af dB [],Zl af dB [],R,Zl.sp (l1:=[]) (l2:=[]) R,Zl.sr (l1:=[]) (l2:=[]),R,R⟩) λd4 d1 g5 dO o ew=>Tv<|Jb 1 R<|Je [2,1,1] R<|Jf R (Ji4 [.slice none 0 0,.slice none 0 0] R)<|Jt3 (κ:=dO) 6 R X71 R λZ hd aR i eC=>Tv<|Jh4 (κ:=aR) 6 R Z71 R eC R λdz j eH=>Tv<|Jd<|Jq<|Je3 R<|Ob h λdn fq c7=>?_
 clear h
 refine Jo3 [2,3,4,7] (λE L w'=>∃κ',∃c:(List<|Int×Int)×Int×(List<|List Int),∃bL bN D C,L=(6,.slice bL c.1.length bN)::E/\Stp [5,6,7,8,9] aR dz κ' w'/\Oc (Ep.pair E6 E6) 120 κ' w' 5 bL bN c.1/\Oc (Ep.own E6 2) 37 κ' w' 7 D C c.2.2/\Bc κ' w' 6 Z 71 [.slice D c.2.2.length C,.slice none 0 0]/\dn=cb c) ?_ ?_
 refine Jv<|Jp3 [2,3,4,7] (λk E L w'=>∃κ',∃d:(List<|Int×Int)×Int×(List<|List Int),∃aG aq bl a8,L=(6,.slice aG d.1.length aq)::(8,vi d.2.1)::E/\Stp [5,6,7,8,9] aR dz κ' w'/\Oc (Ep.pair E6 E6) 120 κ' w' 5 aG aq d.1/\Oc (Ep.own E6 2) 37 κ' w' 7 bl a8 d.2.2/\Bc κ' w' 6 Z 71 [.slice bl d.2.2.length a8,.slice none 0 0]/\cu (go p0 p1) k d=some dn) ⟨_,_,⟨aR,((([(0,0)]:List (Int×Int)):(List<|Int×Int)),(0:Int),(([]:List (List Int)):(List<|List Int))),d4,d1,none,0,R,Jj3,(ew.stp<|i.tr j),Ow.nil,eH,fq⟩,(KM R)⟩ ?_
 rintro k _ hs ⟨cA,d,aG,aq,bl,a8,rfl,H,b3,c0,c1,h⟩
 rcases k with _ | k
 cases h
 obtain⟨gJ,h,cg⟩:=BI h;unfold go at h
 refine Jq<|Jg3 [2,2,2,2] 2 R<|Jn3 R U123 R R<|Jb 1 R ?_
 revert h
 cases gC:decide (d.2.1<(d.1.length:Int))
 refine JF λh=>Jy R<|Jc1<|Jt<|Jt ?_
 cases h
 have h:=cg
 refine Jb1 ?_
 cases h
 exact Jw1 _ ⟨cA,(d.1,d.2.1,d.2.2),aG,aq,bl,a8,R,H.wk R,b3,c0,c1,R⟩<|KM R
 refine JT λh=>Jx R<|Js<|Jp<|Jq<|Jv<|Je [1,2] R<|Jx3 (κ:=cA) (E:=E6) 8 R Y37 bS R λdY d0 ht aS t eR=>Tv<|Jb 1 R<|Jq<|Jq<|Js1 (κ:=aS) [0,2,5] none [(0,2),(2,2),(3,2),(4,2),(5,2),(10,2),(1,0),(6,0),(7,2),(8,0),(9,2)] [] (by kernel_rfl) (by kernel_rfl) λdA m=>Jd3 R U71 R Z31<|Jn 2 R<|Ob h λhC dd h=>Jc3 R b3.rdc dd U123 Z120<|Jf R (jJ U120 Z2 R R R R)<|Jn 1 R<|Jg R (Jc2 I31 R R<|hvC ((bT.stp<|T6 o i j H t m).ld 0 R R) R) ?_
 have c2:=b3.stp (t.tr m)
 obtain⟨gq,fv,fl⟩:=(c2.rdc).gSt dd
 obtain⟨_,_,rfl,rfl,rfl⟩:=fv
 refine Jg R (Jc2 I2 R R<|hvC (λw' cj=>fl w' cj 0 _ R) R)<|Ob h λaM de h=>Jc3 R b8 de U31 Z37 ?_
 obtain⟨fZ,gO,b4,fg⟩:=(b8.stp (T9 W N G o i j H t m)).gSl de
 refine Jg R (Jc2 I37 R R<|hvC fg R)<|Jn3 R U37 R R<|Jt1<|Jd ?_
 have fb:(aM.length:Int)<=9223372036854775807:=b4.len_le
 refine Ob h λdp fr e7=>?_
 clear h
 refine Jo3 [2,3,4,7,8] (λE L w'=>∃κ',∃u:(List<|Int×Int)×(List Int),∃bb a4 a1 a0,L=(6,.slice bb u.1.length a4)::(9,.slice a1 u.2.length a0)::E/\Stp [5,8,9] aS dA κ' w'/\Oc (Ep.pair E6 E6) 120 κ' w' 5 bb a4 u.1/\Oc E6 2 κ' w' 8 a1 a0 u.2/\dp=cb u) ?_ ?_
 refine Jv<|Jp3 [2,3,4,7,8,48,49] (λk E L w'=>∃κ' y,∃F:(List<|Int×Int)×(List Int),∃aD ax a7 a9,L=(6,.slice aD F.1.length ax)::(9,.slice a7 F.2.length a9)::(50,vi y)::E/\Stp [5,8,9] aS dA κ' w'/\Oc (Ep.pair E6 E6) 120 κ' w' 5 aD ax F.1/\Oc E6 2 κ' w' 8 a7 a9 F.2/\0<=y/\hV ((aM.length:Int)-y)=k/\cntM (eX p1 d aM) k y F=some dp) ⟨_,_,⟨aS,0,(d.1,(([]:List Int):(List Int))),aG,aq,dY,d0,R,Jj3,c2,(eR.stp m),(by decide),(by simp),fr⟩,(KM R)⟩ ?_
 rintro k _ hw ⟨bv,y,F,aD,ax,a7,a9,rfl,am,b5,c3,ff,gw,h⟩
 rcases k with _ | k
 have ci:=h;obtain⟨fN,h⟩:=cw (cb (eg F):(Det×Bool)⊕(((List (Int×Int))×(List Int))⊕((List (Int×Int))×(List Int))))
 have ad:decide (y<(aM.length:Int))=false:=Jo2 (by omega)
 refine Je3 R<|Jq<|Jw2 R ad<|Jc1<|Jt<|Jt ?_
 cases h
 have h:=ci
 refine Jb1 ?_
 cases h
 exact Jw1 _ ⟨bv,(F.1,F.2),aD,ax,a7,a9,R,am.wk R,b5,c3,R⟩<|KM R
 obtain⟨fN,h,ci⟩:=BI h;unfold eX at h
 have ad:decide (y<(aM.length:Int))=true:=Jn2 (by omega)
 refine Je3 R<|Jq<|Jv2 R ad<|Js<|Jp<|Jq<|Jv<|Jg3 [2,2,1,2,2] 1 R<|Ob h λaN df h=>Jc3 R b4 df U37 Z2<|Jb3 R I2 ((b4.stp am).gInt df)<|Jb 2 R<|Jq<|Js1 (κ:=bv) [0,3,5] none [(0,2),(1,2),(3,2),(4,2),(5,2),(6,2),(10,2),(2,0),(7,0),(8,2),(9,0),(11,2),(12,0),(13,2),(14,1),(15,1)] [] (by kernel_rfl) (by kernel_rfl) λhx an=>Jn 1 R<|Jd3 R U71 R Z31<|Jn 2 R<|Ob h λhD di h=>Jc3 R b5.rdc di U123 Z120<|Jf R (jJ U120 Z2 R R R R)<|Jn 1 R<|Jg R (Jc2 I31 R R<|hvC ((bV.stp<|T8 o i j H t m am an).ld 0 R R) R) ?_
 have c4:=b5.stp an
 obtain⟨gr,fw,fm⟩:=(c4.rdc).gSt di
 obtain⟨_,_,rfl,rfl,rfl⟩:=fw
 refine Jg R (Jc2 I2 R R<|hvC (λw' cj=>fm w' cj 1 _ R) R)<|Ob h λhE dj h=>Jc3 R b9 dj U31 Z37 ?_
 obtain⟨f0,gP,c5,fh⟩:=(b9.stp (T11 W N G o i j H t m am an)).gSl dj
 refine Jg R (Jc2 I37 R R<|hvC fh R)<|Ob h λaO dk h=>Jc3 R c5 dk U37 Z2<|Jg R (Jc2 I2 R R<|hvC (c5.gInt dk) R)<|Jf R (Ji4 [vi aN,vi aO] R)<|Jt3 (κ:=bv) 9 R X120 R λf1 hy cB ao eV=>⟨(ao.cl R),Jh4 (κ:=cB) 9 R Z120 R eV R λhz aY c6=>⟨((ao.tr aY).cl R),Jt1<|Jd<|Jg3 [2,1,1,2] 1 R<|Jb4 tv R (Jc4 (haE c6.cells) I120 Z120 R)<|Ob h λfT fG h=>?_⟩⟩
 have b6:=c4.stp (ao.tr aY)
 refine Jr3 R C170 (jC (κ:=Mk cB) (p1:=(aN,aO)) (Ji3 b6.rdc) fG) ?_
 rintro _ cl ⟨gF,rfl,d7⟩
 obtain⟨ah,ap,gI⟩:=Ji d7 10 R
 refine Tv<|Jb 1 R<|Jq<|Je3 R<|Ob h λaJ h e1=>Jo3 [2,3,4,7,8,9,48,49,50] (λE L w'=>∃κ' bf bd,L=(6,.slice bf aJ.1.length bd)::(13,vi aJ.2)::E/\Stp [5] ah cl κ' w'/\Oc (Ep.pair E6 E6) 120 κ' w' 5 bf bd aJ.1) ?_ ?_
 revert h
 cases gx:decide (fT<0)
 refine JF λh=>Jy R<|Js ?_
 cases h
 exact Jw1 _ ⟨ah,aD,ax,R,Jj3,(b6.stp ap)⟩<|KM R
 refine JT λh=>Jx R<|Jg3 [2,2,2] 1 R<|Jn3 R U123 R R<|Jb 1 R<|Jh3 [2,1,1,1,2] 1 R<|Jb4 tv R (Jc4 (haE (c6.stp ap).cells) I120 Z120 R)<|Jw3 (κ:=ah) (E:=(Ep.pair E6 E6)) 12 [] (parts:=[(0,.tmp 77)]) (cells:=[vi aN,vi aO]) (xs:=([(aN,aO)]:List (Int×Int))) R Y123 iM R (Je4 ⟨[vi aN],[vi aO],Zl ah cl [],Zl ah cl [],R,Zl.sp (l1:=[]) (l2:=[]) R,Zl.sr (l1:=[]) (l2:=[]),R,R⟩) λgh gb gR dF cF d9=>Tv<|Ob h λhF fH h=>Jy3 (κ:=dF) (E:=(Ep.pair E6 E6)) 5 [] R Y123 iM R (b6.stp<|ap.tr cF) (Sl.srcP (vw (bY _)<|bY _) d9.rdc) bU fH R λd2 bk gS dH dU ea=>Tv<|Jc 1 R ?_
 cases h
 exact Jw1 _ ⟨dH,d2,bk,R,(cF.tr dU).wk R,ea⟩<|KM R
 rintro _ gQ ⟨dE,bf,bd,rfl,cE,d8⟩
 have h:=e1
 refine Jp<|Jh3 [2,2,1,1,2] 2 R<|Jd4 (κ:=dE) 12 [aJ.2] R Y37 bS R λf8 ge gT dI bw eb=>Tv<|Ob h λfU fI h=>Jy3 (κ:=dI) (E:=E6) 8 [] R Y37 bS R (c3.stp<|T6 an ao aY ap cE bw) (Sl.srcP (bY _) eb.rdc) bU fI R λd3 dZ gU dJ cG ec=>Tv<|Jc 1 R<|Jz<|Jp<|Jf3 R ?_
 have fA:bM .i64 (y+1)=y+1:=wr1 ff (Jm2 ad) fb
 rw[fA]
 have ad:=Jm2 ad
 cases h
 exact Jz1 λa ha=>⟨k,_,Ja3 _,⟨dJ,y+1,(aJ.1,fU),bf,bd,d3,dZ,R,(T8 am an ao aY ap cE bw cG).wk R,(d8.stp<|bw.tr cG),ec,by omega,by omega,ci⟩,(ha.mm R)⟩
 rintro _ hv ⟨bu,u,bb,a4,a1,a0,rfl,al,eS,eT,rfl⟩
 have h:=yI e7
 refine Jp<|Jq<|Jg3 [2,2,2] 1 R<|Jn3 R U123 R R<|Jb 1 R ?_
 revert h
 cases gy:decide (48<(u.1.length:Int))
 refine JF λh=>Jy R<|Js<|Jp<|Ja [2,1,2,1,1,2,1] R<|Jd3 R U71 R Z31 ?_
 have cP:=c1.stp (T3 t m al)
 refine Jb3 R I31 (cP.ld 0 R R)<|Jn 1 R<|Jw3 (κ:=bu) (E:=(Ep.own E6 2)) 9 [8] (parts:=[(0,.tmp 91)]) (cells:=[.slice a1 u.2.length a0]) (xs:=([u.2]:List (List Int))) R Y31 bZ R (Je4 ⟨_,_,R,eT⟩) λgc gf gW dL aU ee=>Tv<|Ob h λcn fJ h=>Jy3 (κ:=dL) (E:=(Ep.own E6 2)) 7 [9] R Y31 bZ R (c0.stp<|T4 t m al aU) ee.src (dG R) fJ R λbO bK gX co bx ef=>Tv<|Jd3 R U71 R Z31<|Ju3 (κ:=co) 6 (off:=0) (vc:=[.slice bO cn.length bK]) (cs':=[.slice bO cn.length bK,.slice none 0 0]) R Z31 R (cP.stp<|aU.tr bx) R λgY bz eh=>Tv<|Jo<|Jz<|Jp<|Jf3 R ?_
 cases h
 exact Jz1 λa ha=>⟨k,_,Ja3 _,⟨co,(u.1,((IntKind.i64.wrap<|d.2.1+1):Int),cn),bb,a4,bO,bK,R,(T7 H t m al aU bx bz).wk R,(eS.stp<|T3 aU bx bz),(ef.stp bz),eh,cg⟩,(ha.mm R)⟩
 refine JT λh=>Jx R<|Je [2,1,2] R<|Jf R (Ji4 [.slice none 0 0,.slice none 0 0] R)<|Jh4 (κ:=bu) 4 R Z71 R (bR.stp<|T7 o i j H t m al) R λgV dV ed=>Tv<|Jb 1 R<|Ju<|Jw<|Ja1<|Jw<|Jw ?_
 cases h
 obtain rfl:=Option.some.inj cg
 have h:=yL c7
 refine Ja1<|Jq2<|Jw<|Ja2 (l:=[.cell 4 71,.tmp 5]) V104 (cd R ed I71 Z71 R<|Jp2 R R) R ?_
 cases h
 exact⟨bu,none,0,none,0,R,(ca.stp<|T11 W N G o i j H t m al dV),Ow.nil,Ow.nil⟩
 rintro _ bo ⟨ag,c,bL,bN,D,C,rfl,aX,b2,eO,eP,rfl⟩
 have h:=yI c7
 have aT:=(T7 W N G o i j aX)
 have cC:=(T4 o i j aX)
 refine Jp<|Jq<|Je [1,1,1,2,2] R<|Jb4 tv R (Jc4 (haE (bT.stp cC).cells) I71 Z71 R)<|Jb4 tv R (Jc4 (haE (bV.stp cC).cells) I71 Z71 R)<|Jw3 (κ:=ag) (E:=(Ep.fz Det.rp)) 8 [] (parts:=[(0,.tmp 95),(1,.tmp 96)]) (cells:=[.slice bc p0.Next.length bi,.slice bg p0.Pairs.length a6,.slice aw p1.Next.length av,.slice aC p1.Pairs.length ay]) (xs:=([p0,p1]:List Det)) R Y185 ue R ⟨[.slice bc p0.Next.length bi,.slice bg p0.Pairs.length a6],[.slice aw p1.Next.length av,.slice aC p1.Pairs.length ay],Zl ag bo [],Zl ag bo [],R,Zl.sp (l1:=[]) (l2:=[]) R,Zl.sr (l1:=[]) (l2:=[]),(Det.mk_rel (Sl.z1<|b8.stp aT)<|Sl.z1<|eZ.stp aT),⟨[.slice aw p1.Next.length av,.slice aC p1.Pairs.length ay],[],Zl ag bo [],Zl ag bo [],R,Zl.sp (l1:=[]) (l2:=[]) R,Zl.sr (l1:=[]) (l2:=[]),(Det.mk_rel (Sl.z1<|b9.stp aT)<|Sl.z1<|e0.stp aT),R⟩⟩ λgj gk dv bp ai bW=>Tv<|Jn3 R U185 R R<|Jb 1 R ?_
 have e8:(([p0,p1]:List Det).length:Int)<=9223372036854775807:=bW.len_le
 refine Ob h λdq fn e2=>?_
 clear h
 refine Jo3 [4,7] (λE L w'=>∃κ',∃bn:(List Pair),∃a5 bj,L=E/\Stp [6,9,10,11,12,13,14,15] bp dv κ' w'/\Oc Pair.ep127 127 κ' w' 9 a5 bj bn/\Bc κ' w' 6 Z 71 [.slice D c.2.2.length C,.slice a5 bn.length bj]/\dq=cb bn) ?_ ?_
 refine Jv<|Jp3 [4,6,7,97,98] (λk E L w'=>∃κ' g,∃Q:(List Pair),∃ar az,L=(99,vi g)::E/\Stp [6,9,10,11,12,13,14,15] bp dv κ' w'/\Oc Pair.ep127 127 κ' w' 9 ar az Q/\Bc κ' w' 6 Z 71 [.slice D c.2.2.length C,.slice ar Q.length az]/\0<=g/\hV ((([p0,p1]:List Det).length:Int)-g)=k/\cntM (dh p0 p1 c) k g Q=some dq) ⟨_,_,⟨bp,0,(([]:List Pair):(List Pair)),none,0,R,Jj3,Ow.nil,(eP.stp ai),(by decide),(by simp),fn⟩,(KM R)⟩ ?_
 rintro k _ g1 ⟨cq,g,Q,ar,az,rfl,aV,cQ,cR,fc,gt,h⟩
 rcases k with _ | k
 have cc:=h;obtain⟨fK,h⟩:=cw (cb (eg Q):(Det×Bool)⊕(((List Pair))⊕((List Pair))))
 have aa:decide (g<(([p0,p1]:List Det).length:Int))=false:=Jo2 (by omega)
 refine Je3 R<|Jq<|Jw2 R aa<|Jc1<|Jt<|Jt ?_
 cases h
 have h:=cc
 refine Jb1 ?_
 cases h
 exact Jw1 _ ⟨cq,Q,ar,az,R,aV.wk R,cQ,cR,R⟩<|KM R
 obtain⟨fK,h,cc⟩:=BI h;unfold dh at h
 have aa:decide (g<(([p0,p1]:List Det).length:Int))=true:=Jn2 (by omega)
 refine Je3 R<|Jq<|Jv2 R aa<|Js<|Jp<|Jq<|Jv<|Jg3 [2,2,1,1,2,1] 1 R<|Ob h λaL c8 h=>Jc3 R bW.rdc c8 U185 Z71 ?_
 obtain⟨gl,fs,fi⟩:=Ow.gZS (bW.stp aV) c8
 obtain⟨fV,gK,fW,gL,rfl,gs,b7⟩:=Det.un fs
 refine Jb4 tv R (Jc4 (haE fi) I71 Z71 R)<|Jt3 (κ:=cq) 10 R X71 R λf2 g2 aP aj ek=>Tv<|Jn 1 R<|Jh4 (κ:=aP) 10 R Z71 R ek R λdw ak em=>Tv<|Jd<|Je [2,1,2,2] R<|Jd3 R U71 R Z69<|Jb3 R I69 (em.ld 1 R R)<|Jn3 R U69 R R<|Jb 1 R ?_
 have e9:(aL.Pairs.length:Int)<=9223372036854775807:=b7.len_le
 refine Ob h λdl fo e3=>?_
 clear h
 refine Jo3 [4,6,7,97,98,99] (λE L w'=>∃κ',∃aK:(List Pair),∃be bh,L=E/\Stp [6,9,11,12,13,14,15] aP dw κ' w'/\Oc Pair.ep127 127 κ' w' 9 be bh aK/\Bc κ' w' 6 Z 71 [.slice D c.2.2.length C,.slice be aK.length bh]/\dl=cb aK) ?_ ?_
 refine Jv<|Jp3 [4,6,7,14,97,98,99,105,106] (λk E L w'=>∃κ' x,∃ae:(List Pair),∃a2 a3,L=(107,vi x)::E/\Stp [6,9,11,12,13,14,15] aP dw κ' w'/\Oc Pair.ep127 127 κ' w' 9 a2 a3 ae/\Bc κ' w' 6 Z 71 [.slice D c.2.2.length C,.slice a2 ae.length a3]/\0<=x/\hV ((aL.Pairs.length:Int)-x)=k/\cntM (dK c g aL) k x ae=some dl) ⟨_,_,⟨aP,0,Q,ar,az,R,Jj3,(cQ.stp<|aj.tr ak),(cR.stp<|aj.tr ak),(by decide),(by simp),fo⟩,(KM R)⟩ ?_
 rintro k _ g4 ⟨cr,x,ae,a2,a3,rfl,aW,cS,cT,fd,gu,h⟩
 rcases k with _ | k
 have ce:=h;obtain⟨fL,h⟩:=cw (cb (eg ae):(Det×Bool)⊕(((List Pair))⊕((List Pair))))
 have ab:decide (x<(aL.Pairs.length:Int))=false:=Jo2 (by omega)
 refine Je3 R<|Jq<|Jw2 R ab<|Jc1<|Jt<|Jt ?_
 cases h
 have h:=ce
 refine Jb1 ?_
 cases h
 exact Jw1 _ ⟨cr,ae,a2,a3,R,aW.wk R,cS,cT,R⟩<|KM R
 obtain⟨fL,h,ce⟩:=BI h;unfold dK at h
 have ab:decide (x<(aL.Pairs.length:Int))=true:=Jn2 (by omega)
 refine Je3 R<|Jq<|Jv2 R ab<|Js<|Jp<|Jq<|Jv<|Je [2,1,1,1] R<|Ob h λfQ c9 h=>Jc3 R b7 c9 U69 Z127 ?_
 obtain⟨gm,ft,fj⟩:=((b7.stp (T3 aj ak aW))).gSt c9
 obtain⟨fX,gM,fY,gN,rfl,eW,eY⟩:=Pair.un ft
 refine Jb4 tv R (Jc4 (haE fj) I127 Z127 R)<|Jt3 (κ:=cr) 11 R X127 R λf3 g6 cs S ep=>Tv<|Jh4 (κ:=cs) 11 R Z127 R ep R λg7 T eq=>Tv<|Jd<|Je [2,1,1] R<|Jf R (Ji4 [.slice none 0 0,.slice none 0 0] R)<|Jt3 (κ:=cs) 12 R X127 R λbm g8 aQ J er=>Tv<|Jh4 (κ:=aQ) 12 R Z127 R er R λdx K es=>Tv<|Jd<|Jq<|Jg3 [2,2,2] 1 R<|Jn3 R U123 R R<|Jb 1 R ?_
 have fa:(c.1.length:Int)<=9223372036854775807:=b2.len_le
 refine Ob h λdm fp e4=>?_
 clear h
 refine Jo3 [4,6,7,14,18,97,98,99,105,106,107] (λE L w'=>∃κ',∃e:(List Int)×(List Int),∃aB aH au aF,L=E/\Stp [12,13,14,15] aQ dx κ' w'/\Oc E6 2 κ' w' 13 aB aH e.1/\Oc E6 2 κ' w' 14 au aF e.2/\Bc κ' w' 12 bm 127 [.slice aB e.1.length aH,.slice au e.2.length aF]/\dm=cb e) ?_ ?_
 refine Jv<|Jp3 [4,6,7,14,17,18,97,98,99,105,106,107,112,113] (λk E L w'=>∃κ' f,∃n:(List Int)×(List Int),∃aA aE P O,L=(114,vi f)::E/\Stp [12,13,14,15] aQ dx κ' w'/\Oc E6 2 κ' w' 13 aA aE n.1/\Oc E6 2 κ' w' 14 P O n.2/\Bc κ' w' 12 bm 127 [.slice aA n.1.length aE,.slice P n.2.length O]/\0<=f/\hV ((c.1.length:Int)-f)=k/\cntM (gp c g fQ) k f n=some dm) ⟨_,_,⟨aQ,0,((([]:List Int):(List Int)),(([]:List Int):(List Int))),none,0,none,0,R,Jj3,Ow.nil,Ow.nil,es,(by decide),(by simp),fp⟩,(KM R)⟩ ?_
 rintro k _ g9 ⟨ct,f,n,aA,aE,P,O,rfl,U,bX,b0,b1,fe,gv,h⟩
 rcases k with _ | k
 have cf:=h;obtain⟨fM,h⟩:=cw (cb (eg n):(Det×Bool)⊕(((List Int)×(List Int))⊕((List Int)×(List Int))))
 have ac:decide (f<(c.1.length:Int))=false:=Jo2 (by omega)
 refine Je3 R<|Jq<|Jw2 R ac<|Jc1<|Jt<|Jt ?_
 cases h
 have h:=cf
 refine Jb1 ?_
 cases h
 exact Jw1 _ ⟨ct,(n.1,n.2),aA,aE,P,O,R,U.wk R,bX,b0,b1,R⟩<|KM R
 obtain⟨fM,h,cf⟩:=BI h;unfold gp at h
 have ac:decide (f<(c.1.length:Int))=true:=Jn2 (by omega)
 refine Je3 R<|Jq<|Jv2 R ac<|Js<|Jp<|Jq<|Jv<|Jg3 [2,2,1,1,2,1] 1 R<|Ob h λI da h=>Jc3 R b2.rdc da U123 Z120 ?_
 obtain⟨gn,fu,fk⟩:=((b2.stp (T10 ai aV aj ak aW S T J K U)).rdc).gSt da
 obtain⟨_,_,rfl,rfl,rfl⟩:=fu
 refine Jb4 tv R (Jc4 (haE fk) I120 Z120 R)<|Jt3 (κ:=ct) 15 R X120 R λcO hb br z ex=>Tv<|Jn 1 R<|Jh4 (κ:=br) 15 R Z120 R ex R λhc A ey=>Tv<|Jd<|Jq<|Jq<|Js1 (κ:=br) [11,15] none [(0,2),(2,2),(3,2),(1,0),(4,0),(5,1)] [] (by kernel_rfl) (by kernel_rfl) λhe q=>Jd3 R U127 R Z37<|Jn 1 R<|Ob h λhA db h=>Jf R (rB (xs:=([I.1,I.2]:List Int)) (p:=⟨cO,0,none⟩) db R U120 Z2 R R R) ?_
 have cU:=eq.stp (T6 J K U z A q)
 refine Jg R (Jc2 I37 R R<|hvC (cU.ld 0 R R) R) ?_
 have cV:=ey.stp q
 refine Jg R (Jc2 I2 R R<|hvC (cV.ldD (xs:=([I.1,I.2]:List Int)) 0 R db R) R)<|Ob h λfR fB h=>Jr3 R C89 (ch (κ:=Mk br) (Ji3<|eW.stp<|T8 S T J K U z A q) fB) ?_
 rintro _ fO ⟨gD,rfl,d5⟩
 obtain⟨bs,s,gG⟩:=Ji d5 16 R
 refine⟨(s.cl R),Jt1<|Jd<|Ob h λaI h e5=>Jo3 [4,6,7,14,17,18,19,20,97,98,99,105,106,107,112,113,114] (λE L w'=>∃κ' X Y,L=E/\Stp [12,13] bs fO κ' w'/\Oc E6 2 κ' w' 13 X Y aI/\Bc κ' w' 12 bm 127 [.slice X aI.length Y,.slice P n.2.length O]) ?_ ?_⟩
 revert h
 cases gA:fR
 refine JF λh=>Jy R<|Js ?_
 cases h
 have cD:=(T4 z A q s)
 exact Jw1 _ ⟨bs,aA,aE,R,Jj3,(bX.stp cD),(b1.stp cD)⟩<|KM R
 refine JT λh=>Jx R<|Ja [2,1,2,1,1,2,1] R<|Jd3 R U127 R Z37 ?_
 have cX:=b1.stp (T4 z A q s)
 refine Jb3 R I37 (cX.ld 0 R R)<|Jn 1 R<|Jd4 (κ:=bs) 18 [f] R Y37 bS R λgi f9 hg dP bC eA=>Tv<|Ob h λdC fC h=>Jy3 (κ:=dP) (E:=E6) 13 [] R Y37 bS R (bX.stp<|T5 z A q s bC) (Sl.srcP (bY _) eA.rdc) bU fC R λbG bQ hh cx cH eB=>Tv<|Jd3 R U127 R Z37<|Ju3 (κ:=cx) 12 (off:=0) (vc:=[.slice bG dC.length bQ]) (cs':=[.slice bG dC.length bQ,.slice P n.2.length O]) R Z37 R (cX.stp<|bC.tr cH) R λhi cI eD=>Tv<|Jo ?_
 cases h
 exact Jw1 _ ⟨cx,bG,bQ,R,(T3 bC cH cI).wk R,(eB.stp cI),eD⟩<|KM R
 rintro _ hf ⟨cv,X,Y,rfl,V,ez,cW⟩
 have h:=e5
 refine Jp<|Jq<|Js1 (κ:=cv) [11,15] none [(0,2),(2,2),(3,2),(1,0),(4,0),(5,1)] [] (by kernel_rfl) (by kernel_rfl) λhj B=>Jd3 R U127 R Z37<|Jn 1 R<|Ob h λhB dc h=>Jf R (rB (xs:=([I.1,I.2]:List Int)) (p:=⟨cO,0,none⟩) dc R U120 Z2 R R R)<|Jg R (Jc2 I37 R R<|hvC ((cU.stp<|T3 s V B).ld 1 R R) R)<|Jg R (Jc2 I2 R R<|hvC ((cV.stp<|T3 s V B).ldD (xs:=([I.1,I.2]:List Int)) 0 R dc R) R)<|Ob h λfS fD h=>Jr3 R C89 (ch (κ:=Mk cv) (Ji3<|eY.stp<|T11 S T J K U z A q s V B) fD) ?_
 rintro _ fP ⟨gE,rfl,d6⟩
 obtain⟨bt,M,gH⟩:=Ji d6 18 R
 refine⟨(M.cl R),Jt1<|Jd<|Ob h λck h e6=>Jo3 [4,6,7,14,17,18,97,98,99,105,106,107,112,113,114] (λE L w'=>∃κ' ba aZ,L=E/\Stp [12,14] bt fP κ' w'/\Oc E6 2 κ' w' 14 ba aZ ck/\Bc κ' w' 12 bm 127 [.slice X aI.length Y,.slice ba ck.length aZ]) ?_ ?_⟩
 revert h
 cases gB:fS
 refine JF λh=>Jy R<|Js ?_
 cases h
 exact Jw1 _ ⟨bt,P,O,R,Jj3,(b0.stp<|T7 z A q s V B M),(cW.stp<|B.tr M)⟩<|KM R
 refine JT λh=>Jx R<|Ja [2,1,2,1,1,2,1] R<|Jd3 R U127 R Z37 ?_
 have cY:=cW.stp (B.tr M)
 refine Jb3 R I37 (cY.ld 1 R R)<|Jn 1 R<|Jd4 (κ:=bt) 20 [f] R Y37 bS R λf7 ga hl dR bD eG=>Tv<|Ob h λdD fE h=>Jy3 (κ:=dR) (E:=E6) 14 [] R Y37 bS R (b0.stp<|T8 z A q s V B M bD) (Sl.srcP (bY _) eG.rdc) bU fE R λbI bP hm cy cK eI=>Tv<|Jd3 R U127 R Z37<|Ju3 (κ:=cy) 12 (off:=1) (vc:=[.slice bI dD.length bP]) (cs':=[.slice X aI.length Y,.slice bI dD.length bP]) R Z37 R (cY.stp<|bD.tr cK) R λhn cL eJ=>Tv<|Jo ?_
 cases h
 exact Jw1 _ ⟨cy,bI,bP,R,(T3 bD cK cL).wk R,(eI.stp cL),eJ⟩<|KM R
 rintro _ hk ⟨dQ,ba,aZ,rfl,cJ,eE,eF⟩
 have h:=e6
 refine Jz<|Jp<|Jf3 R ?_
 have fz:bM .i64 (f+1)=f+1:=wr1 fe (Jm2 ac) fa
 rw[fz]
 have ac:=Jm2 ac
 cases h
 exact Jz1 λa ha=>⟨k,_,Ja3 _,⟨dQ,f+1,(aI,ck),X,Y,ba,aZ,R,(T9 U z A q s V B M cJ).wk R,(ez.stp<|T3 B M cJ),eE,eF,by omega,by omega,cf⟩,(ha.mm R)⟩
 rintro _ dy ⟨bq,e,aB,aH,au,aF,rfl,bB,et,eu,ev,rfl⟩
 have h:=yI e4
 refine Jp<|Ja [2,1,1,1,1,2,1] R<|Jd3 R U71 R Z69 ?_
 have cZ:=cT.stp (T5 S T J K bB)
 refine Jb3 R I69 (cZ.ld 1 R R)<|Jb4 tv R (Jc4 (haE ev.cells) I127 Z127 R)<|Jw3 (κ:=bq) (E:=Pair.ep127) 15 [13,14] (parts:=[(0,.tmp 146)]) (cells:=[.slice aB e.1.length aH,.slice au e.2.length aF]) (xs:=([(⟨e.1,e.2⟩:Pair)]:List Pair)) R Y69 dg R (Je4 ⟨[.slice aB e.1.length aH],[.slice au e.2.length aF],Zl bq dy [13],Zl bq dy [14],R,Zl.sp (l1:=[13]) (l2:=[14]) R,Zl.sr (l1:=[13]) (l2:=[14]),⟨_,_,R,et⟩,⟨_,_,R,eu⟩⟩) λgd gg ho dS bE eK=>Tv<|Ob h λcm fF h=>Jy3 (κ:=dS) (E:=Pair.ep127) 9 [15] R Y69 dg R (cS.stp<|T6 S T J K bB bE) eK.src (dG R) fF R λbH bJ hp cz cM eL=>Tv<|Jd3 R U71 R Z69<|Ju3 (κ:=cz) 6 (off:=1) (vc:=[.slice bH cm.length bJ]) (cs':=[.slice D c.2.2.length C,.slice bH cm.length bJ]) R Z69 R (cZ.stp<|bE.tr cM) R λhq cN eM=>Tv<|Jo<|Jz<|Jp<|Jf3 R ?_
 have fy:bM .i64 (x+1)=x+1:=wr1 fd (Jm2 ab) e9
 rw[fy]
 have ab:=Jm2 ab
 cases h
 exact Jz1 λa ha=>⟨k,_,Ja3 _,⟨cz,x+1,cm,bH,bJ,R,(T9 aW S T J K bB bE cM cN).wk R,(eL.stp cN),eM,by omega,by omega,ce⟩,(ha.mm R)⟩
 rintro _ g3 ⟨dM,aK,be,bh,rfl,dX,en,eo,rfl⟩
 have h:=yI e3
 refine Jz<|Jp<|Jf3 R ?_
 have fx:bM .i64 (g+1)=g+1:=wr1 fc (Jm2 aa) e8
 rw[fx]
 have aa:=Jm2 aa
 cases h
 exact Jz1 λa ha=>⟨k,_,Ja3 _,⟨dM,g+1,aK,be,bh,R,(T4 aV aj ak dX).wk R,en,eo,by omega,by omega,cc⟩,(ha.mm R)⟩
 rintro _ g0 ⟨cp,bn,a5,bj,rfl,bA,ei,ej,rfl⟩
 have h:=yI e2
 refine Jp<|Je [1,1,2] R<|Jb4 tv R (Jc4 (haE ej.cells) I71 Z71 R)<|Jh4 (κ:=cp) 4 R Z71 R (bR.stp<|T6 o i j aX ai bA) R λhr bF eN=>Tv<|Jb 1 R<|Ju<|Ja2 (l:=[.cell 4 71,.tmp 5]) V104 (cd R eN I71 Z71 R<|Jp2 R R) R ?_
 cases h
 exact⟨(λb=>ren [(7,2),(9,3)]<|cp b),D,C,a5,bj,R,((ca.stp<|T10 W N G o i j aX ai bA bF).map (ren [(7,2),(9,3)]) R R),((eO.stp<|T3 ai bA bF).map (ren [(7,2),(9,3)]) R R),((ei.stp bF).map (ren [(7,2),(9,3)]) R R)⟩
 refine JT λh=>Jx R<|Je [2,1,2] R<|Jf R (Ji4 [.slice none 0 0,.slice none 0 0] R)<|Jh4 (κ:=af) 4 R Z71 R bR R λgZ dW el=>Tv<|Jb 1 R<|Ju<|Jw<|Ja2 (l:=[.cell 4 71,.tmp 5]) V104 (cd R el I71 Z71 R<|Jp2 R R) R ?_
 cases h
 exact⟨af,none,0,none,0,R,(ca.stp<|T4 W N G dW),Ow.nil,Ow.nil⟩
theorem rX {bo b8}{p0:(List (List Int))}{a1 b9}{p1:(List Bool)}(N:Rd (Rp.sl (Rp.int .i64)) κ w 0 bo b8 p0) (aj:Rd Rp.bool κ w 0 a1 b9 p1){r:(List (List Int))}(h:lP p0 p1=some r):Ret Tryz.prog 164 [.slice bo p0.length b8,.slice a1 p1.length b9] w (λv w'=>∃(κ':Col) (b6:Option Addr) (b7:Nat),v= .slice b6 r.length b7/\Ent κ w κ' w'/\Oc (Ep.fz (Rp.sl (Rp.int .i64))) 37 κ' w' 2 b6 b7 r):=by
 unfold lP at h
 refine Jk3 κ F164 R N164 R λdI=>Je [1,2] R<|Js3 (κ:=κ) 2 R λcX w1 cn M aX=>Tv<|Jb 1 R<|Jg3 [2,2,1,2] 1 R<|Jn3 R U31 R R<|Ob h λP eo h=>Jl1 (κ:=cn) (E:=(Ep.own E6 2)) (z:=(([]:List Int):(List Int))) 3 R R R R R R R Y31 bZ R R R R R (λ_ _ _=>⟨none,0,R,Ow.nil⟩) (Ju2 eo) λaf ad cg aN t dB=>Tv<|Jb 1 R<|Jq<|Jg3 [2,2,2] 1 R<|Jn3 R U31 R R<|Jb 1 R ?_
 have dV:(p0.length:Int)<=9223372036854775807:=N.len_le
 refine Ob h λb3 eb dJ=>?_
 clear h
 refine Jo3 [0,3,5] (λE L w'=>∃κ',∃an:(List<|List Int),L=E/\Stp [3,5] aN cg κ' w'/\Oc (Ep.own E6 2) 37 κ' w' 3 af ad an/\P.length=an.length/\b3=cb an) ?_ ?_
 refine Jv<|Jp3 [0,3,5,21,22] (λk E L w'=>∃κ' m,∃O:(List<|List Int),L=(23,vi m)::E/\Stp [3,5] aN cg κ' w'/\Oc (Ep.own E6 2) 37 κ' w' 3 af ad O/\P.length=O.length/\0<=m/\hV ((p0.length:Int)-m)=k/\cntM (fC p0 p1) k m O=some b3) ⟨_,_,⟨aN,0,P,R,Jj3,dB,R,(by decide),(by simp),eb⟩,(KM R)⟩ ?_
 rintro k _ cd ⟨av,m,O,rfl,ab,bA,bJ,dY,e3,h⟩
 rcases k with _ | k
 have a3:=h;obtain⟨ey,h⟩:=cw (cb (eg O):(List (List Int))⊕(((List (List Int)))⊕((List (List Int)))))
 have X:decide (m<(p0.length:Int))=false:=Jo2 (by omega)
 refine Je3 R<|Jq<|Jw2 R X<|Jc1<|Jt<|Jt ?_
 cases h
 have h:=a3
 refine Jb1 ?_
 cases h
 exact Jw1 _ ⟨av,O,R,ab.wk R,bA,bJ,R⟩<|KM R
 obtain⟨ey,h,a3⟩:=BI h;unfold fC at h
 have X:decide (m<(p0.length:Int))=true:=Jn2 (by omega)
 refine Je3 R<|Jq<|Jv2 R X<|Js<|Jp<|Jq<|Jv<|Jg3 [2,2,1,2,2] 1 R<|Ob h λap bN h=>Jc3 R N bN U31 Z37 ?_
 obtain⟨eV,fm,aW,dZ⟩:=(N.stp (T3 M t ab)).gSl bN
 refine Jb3 R I37 dZ<|Jb 2 R<|Jg3 [2,2,2] 1 R<|Jn3 R U37 R R<|Jb 1 R ?_
 have dU:(ap.length:Int)<=9223372036854775807:=aW.len_le
 refine Ob h λb4 ee dQ=>?_
 clear h
 refine Jo3 [0,3,5,21,22,23] (λE L w'=>∃κ',∃ao:(List<|List Int),L=E/\Stp [3,5] av cd κ' w'/\Oc (Ep.own E6 2) 37 κ' w' 3 af ad ao/\P.length=ao.length/\b4=cb ao) ?_ ?_
 refine Jv<|Jp3 [0,3,5,6,21,22,23,28,29] (λk E L w'=>∃κ' u,∃aa:(List<|List Int),L=(30,vi u)::E/\Stp [3,5] av cd κ' w'/\Oc (Ep.own E6 2) 37 κ' w' 3 af ad aa/\P.length=aa.length/\0<=u/\hV ((ap.length:Int)-u)=k/\cntM (jh p1 m ap) k u aa=some b4) ⟨_,_,⟨av,0,O,R,Jj3,bA,bJ,(by decide),(by simp),ee⟩,(KM R)⟩ ?_
 rintro k _ eC ⟨bf,u,aa,rfl,ac,aG,am,dX,e2,h⟩
 rcases k with _ | k
 have a4:=h;obtain⟨ex,h⟩:=cw (cb (eg aa):(List (List Int))⊕(((List (List Int)))⊕((List (List Int)))))
 have W:decide (u<(ap.length:Int))=false:=Jo2 (by omega)
 refine Je3 R<|Jq<|Jw2 R W<|Jc1<|Jt<|Jt ?_
 cases h
 have h:=a4
 refine Jb1 ?_
 cases h
 exact Jw1 _ ⟨bf,aa,R,ac.wk R,aG,am,R⟩<|KM R
 obtain⟨ex,h,a4⟩:=BI h;unfold jh at h
 have W:decide (u<(ap.length:Int))=true:=Jn2 (by omega)
 refine Je3 R<|Jq<|Jv2 R W<|Js<|Jp<|Jq<|Jv<|Je [2,1,2] R<|Ob h λfX bO h=>Jc3 R aW bO U37 Z2<|Jb3 R I2 ((aW.stp ac).gInt bO)<|Jb 1 R<|Je [1,2,2,1,2,1,2,2,1,2] R ?_
 have bF:=aX.stp (T3 t ab ac)
 refine Jb3 R I178 (bF.ld 0 R R)<|Jn 1 R<|Ob h λeG bP h=>Jc3 R aj bP U178 Z4 ?_
 have aY:=aj.stp (T4 M t ab ac)
 refine Jb3 R I4 (aY.gBool bP)<|Jn 1 R<|Ob h λb0 h dR=>Jf4 [0,3,5,6,9,21,22,23,28,29,30] 43 b0 bf eC [(5,1),(6,2),(7,2),(8,1),(9,2)] [] tv ?_ ?_
 revert h
 cases fc:eG
 refine JF λh=>Jz3 R<|Jn 2 R<|Jz3 R<|Jn 1 R ?_
 cases h
 exact Jg4 tv R
 refine JT λh=>Jb3 R I178 (bF.ld 0 R R)<|Jn 1 R<|Ob h λf0 bQ h=>Jc3 R aY bQ U178 Z4<|Jb3 R I4 (aY.gBool bQ)<|Jn 1 R ?_
 cases h
 exact Jg4 tv R
 rintro _ eD _ ⟨rfl,aM,aO⟩
 have h:=dR
 refine Jd<|Ob h λa9 h dS=>Jo3 [0,3,5,6,21,22,23,28,29,30] (λE L w'=>∃κ',L=E/\Stp [3,5] aM eD κ' w'/\Oc (Ep.own E6 2) 37 κ' w' 3 af ad a9/\P.length=a9.length) ?_ ?_
 revert h
 cases fd:b0
 refine JF λh=>Jy R<|Js ?_
 cases h
 exact Jw1 _ ⟨aM,R,Jj3,(aG.stp aO),am⟩<|KM R
 refine JT λh=>Jx R<|Jh3 [2,2,2,2,2,1,2,1,1,2,1] 4 R<|Ob h λf1 a5 h=>Jf R (Jf2 aG.rdc a5 U31 Z37 R R am R) ?_
 have bG:=aG.stp aO
 obtain⟨eW,fn,e0,bI⟩:=bG.rdc.gSl a5
 refine Jb3 R I37 bI<|Jn 1 R<|Jd4 (κ:=aM) 4 [m] R Y37 bS R λeP eQ fJ eM aP dw=>Tv<|?_
 have bH:=bG.stp aP
 obtain⟨cz,bm,dx,dy⟩:=bH.borrow a5 (bI _ (Stp.ag aP R)) 5 R R
 refine Ob h λf2 ep h=>Jy3 (κ:=cz) (E:=E6) 5 [] R Y37 bS R dx (Sl.srcP (bY _) (dw.stp bm).rdc) bU ep R λeR eN fK cA bn dz=>Tv<|Ob h λf3 eq h=>Jf R (Jf2 bH.rdc eq U31 Z37 R R am R)<|Ob h λeI bW h=>WO.stH (κ:=cA) (E:=(Ep.own E6 2)) 3 [5] R R R R R R R R Z37 R ⟨_,_,R,dz⟩ R R (dy.stp bn) bW λfL cB cM dA=>Tv<|?_
 have ea:P.length=eI.length:=am.trans (Jt2 bW).2.2.2.symm
 refine Jo ?_
 cases h
 exact Jw1 _ ⟨cB,R,(T4 aP bm bn cM).wk R,dA,ea⟩<|KM R
 rintro _ fI ⟨cy,rfl,cL,dv,d9⟩
 have h:=dS
 refine Jz<|Jp<|Jf3 R ?_
 have eh:bM .i64 (u+1)=u+1:=wr1 dX (Jm2 W) dU
 rw[eh]
 have W:=Jm2 W
 cases h
 exact Jz1 λa ha=>⟨k,_,Ja3 _,⟨cy,u+1,a9,R,(T3 ac aO cL).wk R,dv,d9,by omega,by omega,a4⟩,(ha.mm R)⟩
 rintro _ fH ⟨cx,ao,rfl,cK,du,d7,rfl⟩
 have h:=yI dQ
 refine Jz<|Jp<|Jf3 R ?_
 have ei:bM .i64 (m+1)=m+1:=wr1 dY (Jm2 X) dV
 rw[ei]
 have X:=Jm2 X
 cases h
 exact Jz1 λa ha=>⟨k,_,Ja3 _,⟨cx,m+1,ao,R,(ab.tr cK).wk R,du,d7,by omega,by omega,a3⟩,(ha.mm R)⟩
 rintro _ fq ⟨cj,an,rfl,K,c9,d3,rfl⟩
 have h:=yI dJ
 refine Jp<|Jg3 [2,2,1,1,1] 1 R<|Jn3 R U31 R R<|Ob h λaq er h=>Jl1 (κ:=cj) (E:=Ep.bool) (z:=(false:Bool)) 4 R R R R R R R Y178 fQ R R R R R (λ_ _ _=>R) (Ju2 er) λay aA fM cC H dC=>Tv<|Jt3 (κ:=cC) 5 R X178 R λcV fN bg C dD=>Tv<|Jv3 (κ:=bg) 5 (vc:=[.slice ay aq.length aA]) R Z178 R dD R λfO D aZ=>Tv<|Jd<|Je [1,1,1] R<|Jx3 (κ:=bg) (E:=E6) 6 R Y37 bS R λbq bs fP cD j dE=>Tv<|Jt3 (κ:=cD) 7 R X37 R λaT fR bh f dF=>Tv<|Jv3 (κ:=bh) 7 (vc:=[.slice bq ([]:List Int).length bs]) R Z37 R dF R λfS g c3=>Tv<|Jd<|Je [1] R<|Jt3 (κ:=bh) 8 R X226 R λcW fo au d c4=>Tv<|Jd<|Je [2,1] R<|Jf R (d8 (first:=[]) (captured:=[.tmp 10,.tmp 3,.tmp 12]) R R R ⟨_,R⟩)<|Jv3 (κ:=au) 8 (vc:=[.func (.func 218) #[] #[.pointer (some ⟨cV,0,none⟩),.pointer (some ⟨cX,0,none⟩),.pointer (some ⟨cW,0,none⟩)]]) R Z226 R c4 R λca e bt=>Tv<|Jd<|Jq<|Jg3 [2,2,2] 1 R<|Jn3 R U31 R R<|Jb 1 R ?_
 have dT:(p0.length:Int)<=9223372036854775807:=N.len_le
 refine Ob h λb5 ec dK=>?_
 clear h
 refine Jo3 [0,5,10,11,12] (λE L w'=>∃κ',∃I:(List Int)×(List Bool),∃aR aS,L=E/\Stp [4,6,7,11,12,13] au ca κ' w'/\Oc E6 2 κ' w' 6 aR aS I.1/\Oc Ep.bool 4 κ' w' 4 ay aA I.2/\aq.length=I.2.length/\Bc κ' w' 7 aT 37 [.slice aR I.1.length aS]/\b5=cb I) ?_ ?_
 refine Jv<|Jp3 [0,3,5,10,11,12,62] (λk E L w'=>∃κ' x,∃F:(List Int)×(List Bool),∃ag ae,L=(63,vi x)::E/\Stp [4,6,7,11,12,13] au ca κ' w'/\Oc E6 2 κ' w' 6 ag ae F.1/\Oc Ep.bool 4 κ' w' 4 ay aA F.2/\aq.length=F.2.length/\Bc κ' w' 7 aT 37 [.slice ag F.1.length ae]/\0<=x/\hV ((p0.length:Int)-x)=k/\cntM (gU p0 p1) k x F=some b5) ⟨_,_,⟨au,0,((([]:List Int):(List Int)),aq),bq,bs,R,Jj3,(dE.stp<|T4 f g d e),(dC.stp<|T7 C D j f g d e),R,(c3.stp<|d.tr e),(by decide),(by simp),ec⟩,(KM R)⟩ ?_
 rintro k _ ez ⟨bb,x,F,ag,ae,rfl,G,aU,ah,ak,aV,dW,e1,h⟩
 rcases k with _ | k
 have a0:=h;obtain⟨ew,h⟩:=cw (cb (eg F):(List (List Int))⊕(((List Int)×(List Bool))⊕((List Int)×(List Bool))))
 have V:decide (x<(p0.length:Int))=false:=Jo2 (by omega)
 refine Je3 R<|Jq<|Jw2 R V<|Jc1<|Jt<|Jt ?_
 cases h
 have h:=a0
 refine Jb1 ?_
 cases h
 exact Jw1 _ ⟨bb,(F.1,F.2),ag,ae,R,G.wk R,aU,ah,ak,aV,R⟩<|KM R
 obtain⟨ew,h,a0⟩:=BI h;unfold gU at h
 have V:decide (x<(p0.length:Int))=true:=Jn2 (by omega)
 refine Je3 R<|Jq<|Jv2 R V<|Js<|Jp<|Jq<|Jv<|Je3 R<|Je [1,2,2,1,2,1,2,2,1,2,2] R ?_
 have bv:=aX.stp (T11 t K H C D j f g d e G)
 refine Jb3 R I178 (bv.ld 0 R R)<|Jn 1 R<|Ob h λeH bR h=>Jc3 R aj bR U178 Z4 ?_
 have bw:=aj.stp (T12 M t K H C D j f g d e G)
 refine Jb3 R I4 (bw.gBool bR)<|Jn 1 R<|Ob h λb1 h dL=>Jf4 [0,3,5,10,11,12,13,62,63] 76 b1 bb ez [(5,1),(6,2),(7,2),(8,1),(9,2),(10,2)] [] tv ?_ ?_
 revert h
 cases e6:eH
 refine JF λh=>Jz3 R<|Jn 2 R<|Jz3 R<|Jn 2 R ?_
 cases h
 exact Jg4 tv R
 refine JT λh=>Jb3 R I178 ((aZ.stp<|T6 j f g d e G).ld 0 R R)<|Jn 1 R<|Ob h λf4 bT h=>Jf R (Jf2 ah.rdc bT U178 Z4 R R ak R)<|Jb3 R I4 (ah.rdc.gBool bT)<|Jn 2 R ?_
 cases h
 exact Jg4 tv R
 rintro _ eA _ ⟨rfl,aI,i⟩
 have h:=dL
 refine Jd<|Ob h λY h dM=>Jo3 [0,3,5,10,11,12,62,63] (λE L w'=>∃κ' ax aE,L=E/\Stp [4,6,7,11,12,13] aI eA κ' w'/\Oc E6 2 κ' w' 6 ax aE Y.1/\Oc Ep.bool 4 κ' w' 4 ay aA Y.2/\aq.length=Y.2.length/\Bc κ' w' 7 aT 37 [.slice ax Y.1.length aE]) ?_ ?_
 revert h
 cases e7:b1
 refine JF λh=>Jy R<|Js ?_
 cases h
 exact Jw1 _ ⟨aI,ag,ae,R,Jj3,(aU.stp i),(ah.stp i),ak,(aV.stp i)⟩<|KM R
 refine JT λh=>Jx R<|Ja [1,2,2,2,1] R ?_
 have bx:=bt.stp (G.tr i)
 refine Jb3 R I226 (bx.ld 0 R R)<|Jn 2 R<|Jf R (d8 (first:=[]) (captured:=[.tmp 11]) R R R ⟨_,R⟩)<|Ob h λf5 es h=>WO.callV R R R R R R R R C218 (fY _ (κ:=λb=>mp [(6,2),(4,3),(7,4)] 0<|aI b) (Jl2 (N.stp<|T13 M t K H C D j f g d e G i) (mp [(6,2),(4,3),(7,4)] 0) R R) ((aU.stp i).map (mp [(6,2),(4,3),(7,4)] 0) R R) ((ah.stp i).map (mp [(6,2),(4,3),(7,4)] 0) R R) (Jl2 (bw.stp i) (mp [(6,2),(4,3),(7,4)] 0) R R) ((aV.stp i).map (mp [(6,2),(4,3),(7,4)] 0) R R) (Bc.cast ((aZ.stp<|T7 j f g d e G i).map (mp [(6,2),(4,3),(7,4)] 0) R R) (by simp only[ak])) ((bv.stp i).map (mp [(6,2),(4,3),(7,4)] 0) R R) (bx.map (mp [(6,2),(4,3),(7,4)] 0) R R) es) ?_
 rintro _ fs ⟨fe,cS,cQ,rfl,cY,da,db,d2,dc⟩
 obtain⟨cl,cF,a6⟩:=Ji cY 9 R
 refine Tv<|Jo ?_
 cases h
 exact Jw1 _ ⟨(λb=>ren [(11,6),(12,4),(13,7)]<|cl b),cS,cQ,R,(Jy2 (cF.wk R) [(11,6),(12,4),(13,7)] R),((da.mx (cc _) a6 R (R:9+2=11)).map (ren [(11,6),(12,4),(13,7)]) R R),((db.mx eS a6 R (R:9+3=12)).map (ren [(11,6),(12,4),(13,7)]) R R),(ak.trans d2),((dc.mx a6 R (R:9+4=13)).map (ren [(11,6),(12,4),(13,7)]) R R)⟩<|KM R
 rintro _ fr ⟨ck,ax,aE,rfl,cE,c6,c7,d1,c8⟩
 have h:=dM
 refine Jz<|Jp<|Jf3 R ?_
 have ef:bM .i64 (x+1)=x+1:=wr1 dW (Jm2 V) dT
 rw[ef]
 have V:=Jm2 V
 cases h
 exact Jz1 λa ha=>⟨k,_,Ja3 _,⟨ck,x+1,(Y.1,Y.2),ax,aE,R,(T3 G i cE).wk R,c6,c7,d1,c8,by omega,by omega,a0⟩,(ha.mm R)⟩
 rintro _ fp ⟨ci,I,aR,aS,rfl,J,bu,eY,e4,c5,rfl⟩
 have h:=yI dK
 refine Jp<|Jg3 [2,2,1,1] 1 R<|Jn3 R U31 R R<|Ob h λaH et h=>Jl1 (κ:=ci) (E:=Ep.bool) (z:=(false:Bool)) 9 R R R R R R R Y178 fQ R R R R R (λ_ _ _=>R) (Ju2 et) λaQ ar ft bc y dd=>Tv<|Jv3 (κ:=bc) 5 (vc:=[.slice aQ aH.length ar]) R Z178 R (aZ.stp<|T7 j f g d e J y) R λfu A de=>Tv<|Jd<|Je [1,2] R<|Jx3 (κ:=bc) (E:=(Ep.fz<|Rp.sl<|Rp.int .i64)) 10 R Y31 bZ R λcP cO ce aJ p df=>Tv<|Jb 1 R<|Jq<|Je [1,2,2,2] R ?_
 have bz:=c5.stp (T3 y A p)
 refine Jb3 R I37 (bz.ld 0 R R)<|Jn3 R U37 R R<|Jb 2 R<|Ob h λb2 ed dN=>?_
 clear h
 refine Jx1 (λL w'=>∃κ',∃Z:(List<|List Int)×Int×(List Bool),∃az aC,L=[(14,.slice az Z.1.length aC)]/\Stp [9,10,11,12,15,16,20,21] aJ ce κ' w'/\Oc (Ep.fz<|Rp.sl<|Rp.int .i64) 37 κ' w' 10 az aC Z.1/\Oc Ep.bool 4 κ' w' 9 aQ ar Z.2.2/\aH.length=Z.2.2.length/\b2=cb Z) ?_ ?_
 refine Jv<|Jp3 [0,5,10,11,12] (λk E L w'=>∃κ',∃c:(List<|List Int)×Int×(List Bool),∃T U,L=(14,.slice T c.1.length U)::(15,vi c.2.1)::E/\Stp [9,10,11,12,15,16,20,21] aJ ce κ' w'/\Oc (Ep.fz<|Rp.sl<|Rp.int .i64) 37 κ' w' 10 T U c.1/\Oc Ep.bool 4 κ' w' 9 aQ ar c.2.2/\aH.length=c.2.2.length/\cu (dH p0 p1 an I) k c=some b2) ⟨_,_,⟨aJ,((([]:List (List Int)):(List<|List Int)),((IntKind.i64.wrap ((I.1.length:Int)-1)):Int),aH),cP,cO,R,Jj3,df,(dd.stp<|A.tr p),R,ed⟩,(KM R)⟩ ?_
 rintro k _ fw ⟨aK,c,T,U,rfl,o,aF,ai,al,h⟩
 rcases k with _ | k
 cases h
 obtain⟨fk,h,a2⟩:=BI h;unfold dH at h
 refine Jq<|Je3 R ?_
 revert h
 cases e8:decide (0<=c.2.1)
 refine JF λh=>Jy R<|Jc1<|Jt<|Jt ?_
 cases h
 have h:=a2
 refine Jb1 ?_
 cases h
 exact Jw1 _ ⟨aK,(c.1,c.2.1,c.2.2),T,U,R,o.wk R,aF,ai,al,R⟩<|KM R
 refine JT λh=>Jx R<|Js<|Jp<|Jq<|Jv<|Je [1,2,2,1,2] R<|Jb3 R I37 ((bz.stp o).ld 0 R R)<|Jn 1 R<|Ob h λf6 bV h=>Jc3 R bu.rdc bV U37 Z2<|Jb3 R I2 ((bu.stp<|T4 y A p o).rdc.gInt bV)<|Jb 1 R<|Jq<|Je [1,2,2,1] R ?_
 have bB:=de.stp (p.tr o)
 refine Jb3 R I178 (bB.ld 0 R R)<|Jn 1 R<|Ob h λeE bK h=>Jf R (Jf2 ai.rdc bK U178 Z4 R R al R)<|Jb3 R I4 (ai.rdc.gBool bK)<|Jd ?_
 revert h
 cases e9:eE
 refine JF λh=>Jy R<|Js<|Jp<|Je [1,1,1] R<|Jx3 (κ:=aK) (E:=E6) 11 R Y37 bS R λcN cT fx co B dh=>Tv<|Jt3 (κ:=co) 12 R X37 R λeX fy bd q di=>Tv<|Jv3 (κ:=bd) 12 (vc:=[.slice cN ([]:List Int).length cT]) R Z37 R di R λfz s dj=>Tv<|Jd<|Je [1,2,2,2,1] R ?_
 have bC:=bt.stp (T8 J y A p o B q s)
 have bi:=(T3 B q s)
 refine Jb3 R I226 (bC.ld 0 R R)<|Jn 2 R<|Jf R (d8 (first:=[]) (captured:=[.tmp 17]) R R R ⟨_,R⟩)<|Ob h λba ej h=>WO.callV R R R R R R R R C218 (Ret.cast (by simp only[d3,List.cons_append,List.nil_append])<|fZ _ (κ:=λb=>mp [(11,2),(9,3),(12,4)] 0<|bd b) (Jl2 (c9.stp<|T16 H C D j f g d e J y A p o B q s).rdc (mp [(11,2),(9,3),(12,4)] 0) R R) ((dh.stp<|q.tr s).map (mp [(11,2),(9,3),(12,4)] 0) R R) ((ai.stp bi).map (mp [(11,2),(9,3),(12,4)] 0) R R) (Jl2 (aj.stp<|M.tr<|t.tr<|K.tr<|H.tr<|C.tr<|D.tr<|j.tr<|f.tr<|g.tr<|d.tr<|e.tr<|J.tr<|y.tr<|A.tr<|p.tr<|o.tr<|B.tr<|q.tr s) (mp [(11,2),(9,3),(12,4)] 0) R R) (dj.map (mp [(11,2),(9,3),(12,4)] 0) R R) (Bc.cast ((bB.stp bi).map (mp [(11,2),(9,3),(12,4)] 0) R R) (by simp only[al])) ((aX.stp<|t.tr<|K.tr<|H.tr<|C.tr<|D.tr<|j.tr<|f.tr<|g.tr<|d.tr<|e.tr<|J.tr<|y.tr<|A.tr<|p.tr<|o.tr<|B.tr<|q.tr s).map (mp [(11,2),(9,3),(12,4)] 0) R R) (bC.map (mp [(11,2),(9,3),(12,4)] 0) R R) ej) ?_
 rintro _ fA ⟨ff,bp,br,rfl,cZ,dk,dl,d4,dm⟩
 obtain⟨cp,aw,a7⟩:=Ji cZ 13 R
 refine Tv<|?_
 have bD:=dm.mx a7 R (R:13+4=17)
 refine Jd<|Je [1,1] R<|Jb3 R I37 (bD.ld 0 R R)<|Ob h λeF ek h=>Jr3 R C106 (jB (κ:=λb=>mp [(15,2)] 0<|cp b) ((dk.mx (cc _) a7 R (R:13+2=15)).map (mp [(15,2)] 0) R R) ek) ?_
 rintro _ eB ⟨fg,rfl,c0,dn,d5⟩
 obtain⟨be,Q,eu⟩:=Ji c0 18 R
 refine Tv<|Jd<|Je [1,2,2,2,2,2,2,1,2,1,2] R ?_
 have bE:=bD.stp Q
 refine Jb3 R I37 (bE.ld 0 R R)<|Jn3 R U37 R R<|Jn 2 R<|Ob h λbX h dO=>Jf4 [0,5,10,11,12,14,15,17] 120 bX be eB [(4,2),(5,2),(6,2),(7,1),(8,2),(9,1),(10,2)] [] tv ?_ ?_
 revert h
 cases fa:decide (1<(ba.1.length:Int))
 refine JF λh=>Jn 2 R<|Ob h λfT bL h=>Jc3 R N bL U31 Z37 ?_
 obtain⟨eU,fl,dp,d0⟩:=(N.stp (M.tr (t.tr (K.tr (H.tr (C.tr (D.tr (j.tr (f.tr (g.tr (d.tr (e.tr (J.tr (y.tr (A.tr (p.tr (o.tr (B.tr (q.tr (s.tr (aw.tr Q))))))))))))))))))))).gSl bL
 refine Jb3 R I37 d0<|Jn 1 R<|Ob h λfU el h=>Jr3 R C89 (ch (κ:=Mk be) (Ji3 dp) el) ?_
 rintro _ fB ⟨fh,rfl,c1⟩
 obtain⟨eL,cH,fj⟩:=Ji c1 21 R
 refine Tv<|Jn 1 R ?_
 cases h
 exact Jv1 _ tv ⟨R,_,cH.wk R⟩<|KM R
 refine JT λh=>Jn 3 R<|Jz3 R<|Jn 1 R<|Jz3 R<|Jn 1 R ?_
 cases h
 exact Jg4 tv R
 rintro _ cf _ ⟨rfl,aL,S⟩
 have h:=dO
 refine Jd<|Ob h λa8 h dP=>Jo3 [0,5,10,11,12,15] (λE L w'=>∃κ' aD aB,L=(14,.slice aD a8.length aB)::E/\Stp [10,20,21] aL cf κ' w'/\Oc (Ep.fz<|Rp.sl<|Rp.int .i64) 37 κ' w' 10 aD aB a8) ?_ ?_
 revert h
 cases fb:bX
 refine JF λh=>Jy R<|Js ?_
 cases h
 exact Jw1 _ ⟨aL,T,U,R,Jj3,(aF.stp<|T6 B q s aw Q S)⟩<|KM R
 refine JT λh=>Jx R<|Jh3 [2,1,1,1,2] 1 R<|Jb3 R I37 ((bE.stp S).ld 0 R R) ?_
 obtain⟨cr,bk,eJ⟩:=lr aL cf 20
 refine Jw3 (κ:=cr) (E:=(Ep.fz<|Rp.sl<|Rp.int .i64)) 21 [] (parts:=[(0,.tmp 122)]) (cells:=[.slice bp ba.1.length br]) (xs:=([eF]:List (List Int))) R Y31 bZ R (Je4 ⟨_,_,(congrArg (λn=>[Value.slice bp n br])<|d5),(Sl.z1<|Sl.st eJ ((dn.mx (cc _) eu R (R:18+2=20)).stp S).rdc)⟩) λeT eO fE cs bl dr=>Tv<|Ob h λfV em h=>Jy3 (κ:=cs) (E:=(Ep.fz<|Rp.sl<|Rp.int .i64)) 10 [21] R Y31 bZ R (aF.stp<|T8 B q s aw Q S bk bl) dr.src (dG R) em R λcR cU fF ct cI ds=>Tv<|Jc 1 R ?_
 cases h
 exact Jw1 _ ⟨ct,cR,cU,R,(T3 bk bl cI).wk R,ds⟩<|KM R
 rintro _ fD ⟨cq,aD,aB,rfl,bj,dq⟩
 have h:=dP
 refine Jz<|Jp<|Jf3 R ?_
 cases h
 exact Jz1 λa ha=>⟨k,_,Ja3 _,⟨(λb=>ren [(16,9)]<|cq b),(a8,((IntKind.i64.wrap<|c.2.1-1):Int),ba.2),aD,aB,R,(Jy2 ((T8 o B q s aw Q S bj).wk R) [(16,9)] R),(dq.map (ren [(16,9)]) R R),(((dl.mx eS a7 R (R:13+3=16)).stp (T3 Q S bj)).map (ren [(16,9)]) R R),(al.trans d4),a2⟩,(ha.mm R)⟩
 refine JT λh=>Jx R<|Jc1<|Jt<|Jb1<|Jp<|Jf3 R ?_
 cases h
 exact Jz1 λa ha=>⟨k,_,Ja3 _,⟨aK,(c.1,((IntKind.i64.wrap<|c.2.1-1):Int),c.2.2),T,U,R,o.wk R,aF,ai,al,a2⟩,(ha.mm R)⟩
 rintro _ fv ⟨cm,Z,az,aC,rfl,cG,dg,eZ,e5,rfl⟩
 have h:=yI dN
 refine Jp<|Jg3 [2,1] 1 R<|Ob h λfW en h=>Jr3 R C221 (mG (κ:=λb=>mp [(10,2)] 1<|cm b) (dg.map (mp [(10,2)] 1) R R) en) ?_
 rintro _ fG ⟨fi,rfl,c2,dt,d6⟩
 obtain⟨cv,cJ,ev,eK⟩:=Jj c2 11 R
 refine Tv<|Jd<|Je3 R<|Ju<|Ja2 (l:=[.tmp 4]) V164 (Jp2 R R) R ?_
 cases h
 exact⟨(λb=>ren [(13,2)]<|cv b),az,aC,(by simp only[(d6)]),((dI.stp<|M.tr<|t.tr<|K.tr<|H.tr<|C.tr<|D.tr<|j.tr<|f.tr<|g.tr<|d.tr<|e.tr<|J.tr<|y.tr<|A.tr<|p.tr<|cG.tr cJ).map (ren [(13,2)]) R R),((dt.mxz eK ev R (R:11+2=13)).map (ren [(13,2)]) R R)⟩
theorem mL {p0:Sig}{G I H J}{p1:Machine}{p2:Int}{F aa}{p3:(List Int)}(P:Rd (Rp.sl (Rp.int .i64)) κ w 0 G I p1.Next) (Q:Rd (Rp.sl (Rp.int .i64)) κ w 0 H J p1.Out) (y:Rd (Rp.int .i64) κ w 0 F aa p3){r:(List Int)}(h:fI p0 p1 p2 p3=some r):Ret Tryz.prog 57 [.agg #[vi p0.In,vi p0.Out],.agg #[.slice G p1.Next.length I,.slice H p1.Out.length J],vi p2,.slice F p3.length aa] w (Pvs E6 2 κ w r):=by
 unfold fI at h
 refine Jk3 κ F57 R N57 R λav=>Je [1,1,2] R<|Js3 (κ:=κ) 2 R λaP w1 ad q ap=>Tv<|Js3 (κ:=ad) 3 R λaQ a2 ag p au=>Tv<|Jb 1 R<|Je [1,2] R<|Jx3 (κ:=ag) (E:=E6) 4 R Y37 bS R λaj al ab A j an=>Tv<|Jb 1 R<|Jq<|Je3 R ?_
 have ax:(p3.length:Int)<=9223372036854775807:=y.len_le
 refine Ob h λZ aB aw=>?_
 clear h
 refine Jx1 (λL w'=>∃κ',∃z:Int×(List Int),∃t u,L=[(9,.slice t z.2.length u)]/\Stp [4] A ab κ' w'/\Oc E6 2 κ' w' 4 t u z.2/\Z=cb z) ?_ ?_
 refine Jv<|Jp3 [3,4,5] (λk E L w'=>∃κ' c,∃e:Int×(List Int),∃v s,L=(2,vi e.1)::(9,.slice v e.2.length s)::(10,vi c)::E/\Stp [4] A ab κ' w'/\Oc E6 2 κ' w' 4 v s e.2/\0<=c/\hV ((p3.length:Int)-c)=k/\cntM (fP p0 p1 p3) k c e=some Z) ⟨_,_,⟨A,0,(p2,(([]:List Int):(List Int))),aj,al,R,Jj3,an,(by decide),(by simp),aB⟩,(KM R)⟩ ?_
 rintro k _ aX ⟨B,c,e,v,s,rfl,f,K,ay,aR,h⟩
 rcases k with _ | k
 have C:=h;obtain⟨aF,h⟩:=cw (cb (eg e):(List Int)⊕((Int×(List Int))⊕(Int×(List Int))))
 have m:decide (c<(p3.length:Int))=false:=Jo2 (by omega)
 refine Jq<|Jg3 [2,2,2,2] 2 R<|Jn3 R U37 R R<|Jb 1 R<|Jw2 R m<|Jc1<|Jt<|Jt ?_
 cases h
 have h:=C
 refine Jb1 ?_
 cases h
 exact Jw1 _ ⟨B,(e.1,e.2),v,s,R,f.wk R,K,R⟩<|KM R
 obtain⟨aF,h,C⟩:=BI h;unfold fP at h
 have m:decide (c<(p3.length:Int))=true:=Jn2 (by omega)
 refine Jq<|Jg3 [2,2,2,2] 2 R<|Jn3 R U37 R R<|Jb 1 R<|Jv2 R m<|Js<|Jp<|Jq<|Jv<|Jq<|Js1 (κ:=B) [0,2,3] none [(0,2),(1,2),(3,2),(6,2),(7,2),(8,2),(15,2),(16,2),(17,2),(2,0),(4,2),(5,0),(9,0),(10,2),(11,0),(12,0),(18,0),(13,1),(14,2),(19,2),(20,1),(21,1),(22,2)] [] (by kernel_rfl) (by kernel_rfl) λaY g=>Jn 1 R<|Jd3 R U33 R Z31<|Jn 3 R<|Ob h λa5 T h=>Jc3 R y T U37 Z2<|Jn 2 R<|Ob h λaI V h=>Jc3 R y V U37 Z2 ?_
 have M:=au.stp (T3 j f g)
 refine Jg R (Jc2 I31 R R<|hvC (M.ld 1 R R) R)<|Ob h λa4 S h=>Jc3 R Q S U31 Z37 ?_
 obtain⟨aN,aU,N,az⟩:=(Q.stp (T5 q p j f g)).gSl S
 refine Jg R (Jc2 I37 R R<|hvC az R) ?_
 have x:=y.stp (T5 q p j f g)
 refine Jg R (Jc2 I2 R R<|hvC (x.gInt T) R)<|Ob h λaG U h=>Jc3 R N U U37 Z2<|Jg R (Jc2 I2 R R<|hvC (N.gInt U) R)<|Jg R (Jc4 (haC (ap.stp<|T4 p j f g).cells R) I28 Z28 R)<|Jg R (Jc2 I2 R R<|hvC (x.gInt V) R)<|Ob h λaH aD h=>Jr3 R C60 (lE (κ:=Mk B) (p0:=p0) aD) ?_
 rintro _ aZ ⟨aS,rfl,am⟩
 obtain⟨ae,d,aT⟩:=Ji am 5 R
 refine⟨(d.cl R),Jn 2 R<|Jd4 (κ:=ae) 7 [(IntKind.i64.wrap ((IntKind.i64.wrap<|aG * aH)+aI))] R Y37 bS R λaL aM a0 af i aq=>⟨((d.tr i).cl R),Ob h λaJ aE h=>Jy3 (κ:=af) (E:=E6) 4 [] R Y37 bS R (K.stp<|T3 g d i) (Sl.srcP (bY _) aq.rdc) bU aE R λai ak a1 D n ar=>⟨((T3 d i n).cl R),Jn 1 R<|Jt1<|Jd<|Js1 (κ:=D) [0,3] none [(0,2),(2,2),(5,2),(6,2),(7,2),(1,0),(3,2),(4,0),(8,0),(9,2),(10,0),(11,2)] [] (by kernel_rfl) (by kernel_rfl) λa3 o=>Jd3 R U33 R Z31<|Jn 3 R<|Ob h λa7 X h=>Jc3 R x X U37 Z2<|Jg R (Jc2 I31 R R<|hvC ((M.stp<|T4 d i n o).ld 0 R R) R)<|Ob h λa6 W h=>Jc3 R P W U31 Z37 ?_⟩⟩⟩
 obtain⟨aO,aV,O,aA⟩:=(P.stp (T9 q p j f g d i n o)).gSl W
 refine Jg R (Jc2 I37 R R<|hvC aA R)<|Jg R (Jc2 I2 R R<|hvC ((x.stp<|T4 d i n o).gInt X) R)<|Ob h λaK Y h=>Jc3 R O Y U37 Z2<|Jg R (Jc2 I2 R R<|hvC (O.gInt Y) R)<|Jn 1 R<|Jt1<|Jo<|Jz<|Jp<|Jf3 R ?_
 have aC:bM .i64 (c+1)=c+1:=wr1 ay (Jm2 m) ax
 rw[aC]
 have m:=Jm2 m
 cases h
 exact Jz1 λa ha=>⟨k,_,Ja3 _,⟨D,c+1,(aK,aJ),ai,ak,R,(T6 f g d i n o).wk R,(ar.stp o),by omega,by omega,C⟩,(ha.mm R)⟩
 rintro _ aW ⟨ac,z,t,u,rfl,ah,ao,rfl⟩
 have h:=yI aw
 refine Jp<|Je3 R<|Ju<|Ja2 (l:=[.tmp 8]) V57 (Jp2 R R) R ?_
 cases h
 exact⟨(λb=>ren [(4,2)]<|ac b),t,u,R,((av.stp<|T4 q p j ah).map (ren [(4,2)]) R R),(ao.map (ren [(4,2)]) R R)⟩
theorem sC {k i m j}{p0:Word}{p1:Int}(A:Rd (Rp.int .i64) κ w 0 k i p0.Stem) (B:Rd (Rp.int .i64) κ w 0 m j p0.Loop){r:Bool}(h:l7 p0 p1=some r):Ret Tryz.prog 151 [.agg #[.slice k p0.Stem.length i,.slice m p0.Loop.length j],vi p1] w (Pvb κ w r):=by
 unfold l7 at h
 refine Jk3 κ F151 R N151 R λo=>Je [1,2] R<|Js3 (κ:=κ) 2 R λN w1 s c d=>Tv<|Jb 1 R<|Jq<|Je [2,1,2,2,2,2,1,2,2,2,2,2,1,2,2,2] R<|Jd3 R U39 R Z37<|Jb3 R I37 (d.ld 0 R R)<|Jn3 R U37 R R<|Jn 2 R<|Ob h λp h E=>Jf4 [1,2] 14 p s w1 [(5,2),(6,1),(7,2),(8,2),(9,2)] [(10,2),(11,2),(12,1),(13,2),(14,2),(15,2)] tv ?_ ?_
 revert h
 cases S:decide (600<(p0.Stem.length:Int))
 refine JF λh=>Jd3 R U39 R Z37<|Jb3 R I37 (d.ld 1 R R)<|Jn3 R U37 R R<|Jn 2 R ?_
 cases h
 exact Jg4 tv R
 refine JT λh=>Jn 1 R<|Jz3 R<|Jn 3 R ?_
 cases h
 exact Jg4 tv R
 rintro _ J _ ⟨rfl,u,a⟩
 have h:=E
 refine Jn 1 R<|Ob h λq h C=>Jf4 [1,2] 20 q u J [(11,2),(12,1),(13,2),(14,2),(15,2)] [] tv ?_ ?_
 revert h
 cases O:p
 refine JF λh=>Jd3 R U39 R Z37<|Jb3 R I37 ((d.stp a).ld 1 R R)<|Jn3 R U37 R R<|Jn 2 R ?_
 cases h
 exact Jg4 tv R
 refine JT λh=>Jn 1 R<|Jz3 R<|Jn 3 R ?_
 cases h
 exact Jg4 tv R
 rintro _ X _ ⟨rfl,f,b⟩
 have h:=C
 refine Jd ?_
 revert h
 cases P:q
 refine JF λh=>Jy R<|Js<|Jp<|Je [2,1,2,1,2,2,1,2,1,2,2] R<|Jd3 R U39 R Z37 ?_
 have n:=d.stp (a.tr b)
 refine Jb3 R I37 (n.ld 0 R R)<|Jn 1 R<|Ob h λK F h=>Jr3 R C61 (fW (κ:=Mk f) (Ji3<|A.stp<|T3 c a b) F) ?_
 rintro _ I ⟨T,rfl,y⟩
 obtain⟨g,e,V⟩:=Ji y 3 R
 refine Tv<|Jn 1 R<|Ob h λH h D=>Ju1 [(5,2),(6,1),(7,2),(8,1),(9,2)] [(10,2)] (λL w'=>L=[(30,.bool H)]/\∃κ',Stp [] g I κ' w') tv ?_ ?_
 revert h
 cases Q:K
 refine JF λh=>Jn 1 R<|Jz3 R<|Jn 1 R<|Jz3 R<|Jn 1 R ?_
 cases h
 exact Jg4 tv R
 refine JT λh=>Jd3 R U39 R Z37<|Jb3 R I37 ((n.stp e).ld 1 R R)<|Jn 1 R<|Ob h λaa G h=>Jr3 R C61 (fW (κ:=Mk g) (Ji3<|B.stp<|T4 c a b e) G) ?_
 rintro _ Y ⟨U,rfl,z⟩
 obtain⟨M,v,W⟩:=Ji z 5 R
 refine Tv<|Jn 1 R ?_
 cases h
 exact Jv1 _ tv ⟨R,_,v.wk R⟩<|KM R
 rintro _ Z _ ⟨rfl,t,x⟩
 have h:=D
 refine Jb 1 R<|Ju<|Ja2 (l:=[.tmp 4]) V151 (Jp2 R R) R ?_
 cases h
 exact⟨t,R,(o.stp<|T5 c a b e x)⟩
 refine JT λh=>Jx R<|Je3 R<|Ju<|Jw<|Ja2 (l:=[.tmp 4]) V151 (Jp2 R R) R ?_
 cases h
 exact⟨f,R,(o.stp<|T3 c a b)⟩
theorem qw {C F B z}{p0:Clause}{y D A G}{p1:Word}{a2 Q}{p2:(List Int)}(ac:Rd (Rp.int .i64) κ w 0 C F p0.A) (ad:Rd (Rp.int .i64) κ w 0 B z p0.B) (aw:Rd (Rp.int .i64) κ w 0 y D p1.Stem) (ae:Rd (Rp.int .i64) κ w 0 A G p1.Loop) (s:Rd (Rp.int .i64) κ w 0 a2 Q p2){r:Bool}(h:iZ p0 p1 p2=some r):Ret Tryz.prog 154 [.agg #[vi p0.Kind,.slice C p0.A.length F,.slice B p0.B.length z],.agg #[.slice y p1.Stem.length D,.slice A p1.Loop.length G],.slice a2 p2.length Q] w (Pvb κ w r):=by
 unfold iZ at h
 refine Jk3 κ F154 R N154 R λt=>Je [1,1,2] R<|Js3 (κ:=κ) 2 R λau w1 T g aa=>Tv<|Js3 (κ:=T) 3 R λav aL V d ab=>Tv<|Jb 1 R<|Jq<|Je [2,1,2,1,1] R<|Jd3 R U39 R Z37<|Jb3 R I37 (ab.ld 1 R R)<|Jd3 R U67 R Z37 ?_
 have J:=aa.stp d
 refine Jb3 R I37 (J.ld 2 R R)<|Ob h λap ak h=>?_
 have H:=ad.stp (g.tr d)
 refine Jr3 R C155 (ic (κ:=Mk V) (Ji3<|ae.stp<|g.tr d) (Ji3 H) ak) ?_
 rintro _ S ⟨aB,rfl,X⟩
 obtain⟨m,e,aE⟩:=Ji X 4 R
 refine Tv<|Jd ?_
 revert h
 cases ay:ap
 refine JF λh=>Jy R<|Js<|Jp<|Jq<|Je3 R ?_
 have ag:(p2.length:Int)<=9223372036854775807:=s.len_le
 refine Ob h λP ai K=>?_
 clear h
 refine Jx1 (λL w'=>∃κ',L=[]/\Stp [] m S κ' w'/\P=cb ()) ?_ ?_
 refine Jv<|Jp3 [2,3] (λk E L w'=>∃κ' b,L=(7,vi b)::E/\Stp [] m S κ' w'/\0<=b/\hV ((p2.length:Int)-b)=k/\cntM (eo p0 p2) k b ()=some P) ⟨_,_,⟨m,0,R,Jj3,(by decide),(by simp),ai⟩,(KM R)⟩ ?_
 rintro k _ aI ⟨o,b,rfl,f,ah,ax,h⟩
 rcases k with _ | k
 have n:=h;obtain⟨an,h⟩:=cw (cb (eg ()):Bool⊕((Unit)⊕(Unit)))
 have j:decide (b<(p2.length:Int))=false:=Jo2 (by omega)
 refine Jq<|Jg3 [2,2,2,2] 2 R<|Jn3 R U37 R R<|Jb 1 R<|Jw2 R j<|Jc1<|Jt<|Jt ?_
 cases h
 have h:=n
 refine Jb1 ?_
 cases h
 exact Jw1 _ ⟨o,R,f.wk R,R⟩ KN
 obtain⟨an,h,n⟩:=BI h;unfold eo at h
 have j:decide (b<(p2.length:Int))=true:=Jn2 (by omega)
 refine Jq<|Jg3 [2,2,2,2] 2 R<|Jn3 R U37 R R<|Jb 1 R<|Jv2 R j<|Js<|Jp<|Jq<|Jv<|Jq<|Js1 (κ:=o) [0,2] none [(0,2),(2,2),(3,2),(4,2),(1,0),(5,0),(6,1),(7,2),(8,2),(9,2),(10,2),(11,2),(12,0),(13,1),(14,2),(15,2)] [] (by kernel_rfl) (by kernel_rfl) λaJ i=>Jd3 R U67 R Z37<|Jn 2 R<|Ob h λaN M h=>Jc3 R s M U37 Z2 ?_
 have I:=J.stp (T3 e f i)
 refine Jg R (Jc2 I37 R R<|hvC (I.ld 1 R R) R) ?_
 have q:=s.stp (T5 g d e f i)
 refine Jg R (Jc2 I2 R R<|hvC (q.gInt M) R)<|Ob h λaq al h=>Jr3 R C81 (eN (κ:=Mk o) (Ji3<|ac.stp<|T5 g d e f i) al) ?_
 rintro _ ao ⟨aC,rfl,Y⟩
 obtain⟨u,c,aF⟩:=Ji Y 6 R
 refine⟨(c.cl R),Jn 1 R<|Ob h λO h af=>Jf4 [2,3,7] 34 O u ao [(8,2),(9,2),(10,2),(11,2),(12,0),(13,1),(14,2),(15,2)] [] (c.cl R) ?_ ?_⟩
 revert h
 cases az:aq
 refine JF λh=>Jn 4 R<|Ja4 R<|Jz3 R<|Jn 2 R ?_
 cases h
 exact Jv1 _ (c.cl R) ⟨R,_,Jj3⟩<|KM R
 refine JT λh=>Jn 2 R<|Ob h λaO N h=>Jf R (kM (k1:= .i64) (k2:= .i64) U37 Z2 (.inr ⟨_,R,R⟩) (.inl ⟨R,R⟩) N q.1 R R R)<|Jd3 R U67 R Z37<|Jg R (Jc2 I37 R R<|hvC (I.ld 2 R R) R)<|Ob h λaP am h=>Jr3 R C155 (ic (κ:=Mk u) (Ji3 ((q.stp c).sub N)) (Ji3<|H.stp<|T4 e f i c) am) ?_
 rintro _ aK ⟨aD,rfl,Z⟩
 obtain⟨ar,p,aG⟩:=Ji Z 8 R
 refine⟨((c.tr p).cl R),Jn 2 R ?_⟩
 cases h
 exact Jv1 _ ((c.tr p).cl R) ⟨R,_,p.wk R⟩<|KM R
 rintro _ aM _ ⟨rfl,v,x⟩
 have h:=af
 refine Jt1<|Jd ?_
 revert h
 cases aA:O
 refine JF λh=>Jy R<|Js<|Jz<|Jp<|Jf3 R ?_
 have aj:bM .i64 (b+1)=b+1:=wr1 ah (Jm2 j) ag
 rw[aj]
 have j:=Jm2 j
 cases h
 exact Jz1 λa ha=>⟨k,_,Ja3 _,⟨v,b+1,R,(T4 f i c x).wk R,by omega,by omega,n⟩,(ha.mm R)⟩
 refine JT λh=>Jx R<|Je3 R<|Ju<|Ja1<|Jw<|Jw ?_
 cases h
 obtain rfl:=Option.some.inj n
 have h:=yL K
 refine Ja1<|Jq2<|Jw<|Ja2 (l:=[.tmp 6]) V154 (Jp2 R R) R ?_
 cases h
 exact⟨v,R,(t.stp<|T7 g d e f i c x)⟩
 rintro _ aH ⟨U,rfl,W,rfl⟩
 have h:=yI K
 refine Jp<|Je3 R<|Ju<|Ja2 (l:=[.tmp 6]) V154 (Jp2 R R) R ?_
 cases h
 exact⟨U,R,(t.stp<|T4 g d e W)⟩
 refine JT λh=>Jx R<|Je3 R<|Ju<|Jw<|Ja2 (l:=[.tmp 6]) V154 (Jp2 R R) R ?_
 cases h
 exact⟨m,R,(t.stp<|T3 g d e)⟩
theorem je {p0:Int}{b c d a}{c0:Clause}{e}(j:Rd (Rp.int .i64) κ w 0 b c c0.A) (o:Rd (Rp.int .i64) κ w 0 d a c0.B) (k:Bc κ w 0 e 67 [vi c0.Kind,.slice b c0.A.length c,.slice d c0.B.length a]){r:Bool}(h:d7 p0 c0=some r):Ret Tryz.prog 255 [vi p0,.pointer (some ⟨e,0,none⟩)] w (Pvb κ w r):=by
 unfold d7 at h
 refine Jk3 κ F255 R N255 R λm=>Je3 R<|Je [2,1,2,1,2] R<|Jd3 R U67 R Z37<|Jb3 R I37 (k.ld 1 R R)<|Jn 1 R<|Ob h λs n h=>Jr3 R C89 (ch (κ:=Mk κ) (Ji3 j) n) ?_
 rintro _ w1 ⟨p,rfl,i⟩
 obtain⟨f,g,q⟩:=Ji i 2 R
 refine Tv<|Jb 1 R<|Ju<|Ja2 (l:=[.tmp 3]) V255 (Jp2 R R) R ?_
 cases h
 exact⟨f,R,(m.stp g)⟩
end Go.Proofs.YtleekpaohfpooaaGreat
