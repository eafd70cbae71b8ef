/- The walks, part 9. By program. -/
import Derived.Test.YtleekpaohfpooaaGreatFns8MD
set_option linter.unusedVariables false
set_option linter.unusedSimpArgs false
open Go.Wk.Ep renaming fz → Dw
open Int renaming toNat → Dq
open Go.IntKind renaming wrap → Dr
open Option.some renaming inj → Ds
open Go.Wk.Ow renaming nil → Dt
open Go.Wk.Sl renaming srcP → Du
open Sum renaming inr → Dv
namespace Go.Proofs.YtleekpaohfpooaaGreat
open Tryz
open Go Go.Wk Go.Proofs
set_option maxRecDepth 100000
set_option maxHeartbeats 1000000
section
variable {w:World}{J:Col}
theorem dM {a c}{p0:VC}{c1_0:Sig}{b}(g:Rd Clause.rp J w 0 a c p0) (i:Bc J w 0 b 28 [vi c1_0.In,vi c1_0.Out]){r:Bool}(h:ck p0 c1_0=some r):Ret prog 126 [.slice a p0.length c,.func (.func 127) #[] #[.pointer (some ⟨b,0,none⟩)]] w (Pvb J w r):=by
 unfold ck at h
 refine Jl3 J func126 R ntmps126 R λj=>Jf3 R<|Jh3 [2,2,1,2,2] 2 R<|Ob h λp k h=>Js3 R call194 (dU (J:=Mk J) (c1_0:=c1_0) (Jj3 g) (i.map (mp [] 0) R R) k) ?_
 rintro _ o ⟨m,rfl,f⟩
 obtain⟨d,e,n⟩:=Ji f 2 R
 refine Tv<|Jb 2 R<|Ju<|Jb2 (l:=[.tmp 4]) results126 (Jq2 R R) R ?_
 cases h
 exact⟨d,R,(j.stp e)⟩
theorem fH {a6 a1 aZ a0}{p0:Arena}{aF aD}{p1:Place}{a5 a2}{an:VP}{aH}(bn:Rd Ri J w 0 a6 a1 p0.Owner) (bo:Rd Rs J w 0 aZ a0 p0.Next) (cY:Rd Ri J w 0 aF aD p1.Record) (cZ:Rd Pair.rp J w 0 a5 a2 an) (c0:Bc J w 0 aH 69 [.slice a5 an.length a2]){r:Parity×VL×Bool}(h:cI p0 p1 an=some r):Ret prog 109 [.agg #[.slice a6 p0.Owner.length a1,.slice aZ p0.Next.length a0],.agg #[vi p1.At,.slice aF p1.Record.length aD],.func (.func 110) #[] #[.pointer (some ⟨aH,0,none⟩)],.func (.func 112) #[] #[.pointer (some ⟨aH,0,none⟩)]] w (λdn a=>∃(b:Col) (bz:Option Addr) (bD:Nat) (bA:Option Addr) (bE:Nat) (bB:Option Addr) (bF:Nat) (bC:Option Addr) (bG:Nat),dn= .tuple #[.agg #[.slice bz r.1.Arena.Owner.length bD,.slice bA r.1.Arena.Next.length bE,.slice bB r.1.Prio.length bF],.slice bC r.2.1.length bG,.bool r.2.2]/\Ent J w b a/\Oc E6 2 b a 2 bz bD r.1.Arena.Owner/\Oc (Dw Rs) 37 b a 3 bA bE r.1.Arena.Next/\Oc E6 2 b a 4 bB bF r.1.Prio/\Oc (Dw Place.rp) 88 b a 5 bC bG r.2.1):=by
 unfold cI at h
 refine Jl3 J func109 R ntmps109 R λbp=>Je [1,1,1,2,2] R<|Jt3 J 2 R λdB d1 b0 C cQ=>Tv<|Jt3 b0 3 R λdC ej b1 y cU=>Tv<|Ju3 b1 4 R X79 R λdD eo bL p a8=>Tv<|Jb 2 R<|Je [1,1,2] R<|Jc4 tv R (Jd4 (haE (cU.stp p).cells) I88 Z88 R)<|Jx3 bL (Dw Place.rp) 5 [] (parts:=[(0,.tmp 20)]) (cells:=[vi p1.At,.slice aF p1.Record.length aD]) (xs:=([p1]:VL)) R Y80 gJ R (Jf4<|Place.mk_rel<|Sl.z1<|cY.stp<|T3 C y p) λce cb ea bW s cC=>Tv<|Jb 1 R<|Je [2,1,1] R<|Jf R (Jj4 [.slice none 0 0,.slice none 0 0,.slice none 0 0] R)<|Ju3 bW 6 R X79 R λa7 ed P i cJ=>Tv<|Ji4 P 6 R Z79 R cJ R λbH j cK=>Tv<|Jd<|Jq<|Jf3 R<|Ob h λbw c7 br=>?_
 clear h
 refine Jp3 [2,3,8,12] (λn o a=>∃b,∃m:VL×Int×VI×VV×VI,∃Z ai ad af V ah aj ac,o=(11,.slice Z m.1.length ai)::n/\Stp [5,6,7,8,9,10,14,17,18,25,26,27] P bH b a/\Oc (Dw Place.rp) 88 b a 5 Z ai m.1/\Oc E6 2 b a 7 ad af m.2.2.1/\Oc (Dw<|Rs) 37 b a 8 V ah m.2.2.2.1/\Oc E6 2 b a 9 aj ac m.2.2.2.2/\Bc b a 6 a7 79 [.slice ad m.2.2.1.length af,.slice V m.2.2.2.1.length ah,.slice aj m.2.2.2.2.length ac]/\bw=Dv m) ?_ ?_
 refine Jv<|Jq3 [2,3,4,8,12] (λk n o a=>∃b,∃c:VL×Int×VI×VV×VI,∃K M al ak aa U Y ab,o=(11,.slice K c.1.length M)::(13,vi c.2.1)::n/\Stp [5,6,7,8,9,10,14,17,18,25,26,27] P bH b a/\Oc (Dw Place.rp) 88 b a 5 K M c.1/\Oc E6 2 b a 7 al ak c.2.2.1/\Oc (Dw<|Rs) 37 b a 8 aa U c.2.2.2.1/\Oc E6 2 b a 9 Y ab c.2.2.2.2/\Bc b a 6 a7 79 [.slice al c.2.2.1.length ak,.slice aa c.2.2.2.1.length U,.slice Y c.2.2.2.2.length ab]/\cd (ci p0 an) k c=some bw) ⟨_,_,⟨P,((([p1]:VL):VL),(0:Int),([]:VI),([]:VV),([]:VI)),ce,cb,none,0,none,0,none,0,R,Jk3,(cC.stp<|i.tr j),Dt,Dt,Dt,cK,c7⟩,(KM R)⟩ ?_
 rintro k _ eh ⟨aP,c,K,M,al,ak,aa,U,Y,ab,rfl,t,ao,bb,bc,bd,be,h⟩
 rcases k with _|k
 cases h
 obtain⟨dX,h,aJ⟩:=BI h;unfold ci at h
 refine Jq<|Jh3 [2,2,2,2] 2 R<|Jo3 R U80 R R<|Jb 1 R ?_
 revert h
 cases dP:decide (c.2.1<(c.1.length:Int))
 refine JF λh=>Jy R<|Jc1<|Jt<|Jt ?_
 cases h
 have h:=aJ
 refine Jb1 ?_
 cases h
 exact Jw1 _ ⟨aP,(c.1,c.2.1,c.2.2.1,c.2.2.2.1,c.2.2.2.2),K,M,al,ak,aa,U,Y,ab,R,t.wk R,ao,bb,bc,bd,be,R⟩<|KM R
 refine JT λh=>Jx R<|Js<|Jp<|Jq<|Jv<|Jh3 [2,2,2,1,1,1] 2 R<|Ob h λbJ bs h=>Jd3 R ao.rdc bs U80 Z88 ?_
 obtain⟨dM,da,c5⟩:=Ow.gZS ao bs
 obtain⟨dy,dZ,rfl,cX⟩:=Place.un da
 refine Jc4 tv R (Jd4 (haE c5) I88 Z88 R)<|Ju3 aP 10 R zeroValue88 R λdA ei aQ d cR=>Tv<|Ji4 aQ 10 R Z88 R cR R λek e bf=>Tv<|Jd<|Jh3 [2,1,1,2] 1 R<|Jc4 tv R (Jd4 (haE bf.cells) I88 Z88 R)<|Ob h λds dc h=>?_
 have bg:=cX.stp (d.tr e)
 have bh:=cZ.stp (T9 C y p s i j t d e)
 have bi:=c0.stp (T9 C y p s i j t d e)
 refine WO.callV R R R R R R R R call110 (qW (J:=Mk aQ) (p0:=bJ) (Jj3 bg) (Jj3 bh) (bi.map (mp [] 0) R R) dc) ?_
 rintro _ el ⟨dT,dI,dK,rfl,cr,cS⟩
 obtain⟨b2,g,dl⟩:=Ji cr 11 R
 refine Tv<|Jb 1 R<|Je [1,2] R<|Jy3 b2 E6 14 R Y37 bS R λcl ch bI av f cT=>Tv<|Jb 1 R<|Jq<|Je [2,1,2,1,2,1,2,2] R<|Je3 R U75 R Z31 ?_
 have bj:=cQ.stp (T10 y p s i j t d e g f)
 refine Jc3 R I31 (bj.ld 1 R R)<|Je3 R U88 R Z2 ?_
 have bk:=bf.stp (g.tr f)
 refine Jc3 R I2 (bk.ld 0 R R)<|Ob h λbK bt h=>Jd3 R bo bt U31 Z37 ?_
 obtain⟨dz,d0,aI,c4⟩:=(bo.stp (T11 C y p s i j t d e g f)).gSl bt
 refine Jc3 R I37 c4<|Jo3 R U37 R R<|Jb 1 R<|Ob h λbx c8 c2=>?_
 clear h
 refine Jp3 [2,3,4,8,12,13,14] (λn o a=>∃b,∃A:VL×VI,∃T X aE aG,o=(11,.slice T A.1.length X)::(16,.slice aE A.2.length aG)::n/\Stp [5,14,17,18] av bI b a/\Oc (Dw Place.rp) 88 b a 5 T X A.1/\Oc E6 2 b a 14 aE aG A.2/\bx=Dv A) ?_ ?_
 refine Jv<|Jq3 [2,3,4,8,12,13,14,15,42,43] (λk n o a=>∃b B,∃z:VL×VI,∃N L am W,o=(11,.slice N z.1.length L)::(16,.slice am z.2.length W)::(44,vi B)::n/\Stp [5,14,17,18] av bI b a/\Oc (Dw Place.rp) 88 b a 5 N L z.1/\Oc E6 2 b a 14 am W z.2/\0<=B/\Dq ((bK.length:Int)-B)=k/\cntM (co ds bK) k B z=some bx) ⟨_,_,⟨av,0,(c.1,([]:VI)),K,M,cl,ch,R,Jk3,(ao.stp<|T4 d e g f),cT,(by decide),(by simp),c8⟩,(KM R)⟩ ?_
 rintro k _ en ⟨aR,B,z,N,L,am,W,rfl,S,ap,bl,c3,bq,h⟩
 rcases k with _|k
 have aq:=h;obtain⟨dm,h⟩:=exq aq
 have F:=dcf bq
 refine Jf3 R<|Jq<|Jx2 R F<|Jc1<|Jt<|Jt ?_
 cases h
 have h:=aq
 refine Jb1 ?_
 cases h
 exact Jw1 _ ⟨aR,(z.1,z.2),N,L,am,W,R,S.wk R,ap,bl,R⟩<|KM R
 obtain⟨dm,h,aq⟩:=BI h;unfold co at h
 have F:=dct bq
 refine Jf3 R<|Jq<|Jw2 R F<|Js<|Jp<|Jq<|Jv<|Je [2,1,2] R<|Ob h λar bu h=>Jd3 R aI bu U37 Z2<|Jc3 R I2 ((aI.stp S).gInt bu)<|Jb 1 R<|Jh3 [2,2,2,1,2] 3 R<|Ob h λdt dd h=>?_
 have bm:=(cS.mx (bZ _) dl R (R:11+2=13)).stp (f.tr S)
 refine Js3 R call174 (uo (J:=Mk aR) (Jj3 ap.rdc) (Jj3 bm.rdc) dd) ?_
 rintro _ dr ⟨dU,rfl,cs⟩
 obtain⟨ax,I,dW⟩:=Ji cs 15 R
 refine Tv<|Jb 1 R<|Jq<|Jf3 R<|Ob h λO h c1=>Jp3 [2,3,4,8,12,13,14,15,16,42,43,44] (λn o a=>∃b ae ag,o=(11,.slice ae O.1.length ag)::(19,vi O.2)::n/\Stp [5,17,18] ax dr b a/\Oc (Dw Place.rp) 88 b a 5 ae ag O.1) ?_ ?_
 revert h
 cases dN:decide (dt<0)
 refine JF λh=>Jy R<|Js ?_
 cases h
 exact Jw1 _ ⟨ax,N,L,R,Jk3,(ap.stp I)⟩<|KM R
 refine JT λh=>Jx R<|Jh3 [2,2,2] 1 R<|Jo3 R U80 R R<|Jb 1 R<|Ji3 [2,2,1,2,1,2,1,1,2] 2 R<|Jy3 ax E6 17 R Y37 bS R λdF dL d3 bN aA cu=>Tv<|Jn 1 R<|Ob h λau de h=>Jz3 bN E6 17 [] R Y37 bS R cu (Du (cc _) (bm.stp<|I.tr aA).rdc) bV de R λa4 a3 dp bO aU cv=>Tv<|Jf R (Jj4 [vi ar,.slice a4 au.length a3] R) ?_
 obtain⟨bP,aV,dv⟩:=gD bO dp 17
 refine Jx3 bP (Dw Place.rp) 18 [] (parts:=[(0,.tmp 61)]) (cells:=[vi ar,.slice a4 au.length a3]) (xs:=([(⟨ar,au⟩:Place)]:VL)) R Y80 gJ R (Jf4<|Place.mk_rel (x:=(⟨ar,au⟩:Place))<|Sl.z1<|Sl.st dv cv.rdc) λdJ dE d4 bQ aW cw=>Tv<|Ob h λep df h=>Jz3 bQ (Dw Place.rp) 5 [18] R Y80 gJ R (ap.stp<|T5 I aA aU aV aW) cw.src (c9 R) df R λck cf d5 bR b3 cx=>Tv<|Jc 1 R ?_
 cases h
 exact Jw1 _ ⟨bR,ck,cf,R,(T5 aA aU aV aW b3).wk R,cx⟩<|KM R
 rintro _ d2 ⟨bM,ae,ag,rfl,aT,ct⟩
 have h:=c1
 refine Jp<|Ji3 [2,2,1,1,2] 2 R<|Je4 bM 17 [O.2] R Y37 bS R λdG dH d6 bT aB cy=>Tv<|Ob h λdu dg h=>Jz3 bT E6 14 [] R Y37 bS R (bl.stp<|T3 I aT aB) (Du (cc _) cy.rdc) bV dg R λb6 cj d7 bU aX cz=>Tv<|Jc 1 R<|Jz<|Jp<|Jg3 R ?_
 have db:Dr .i64 (B+1)=B+1:=wr1 c3 (Jn2 F) aI.len_le
 rw[db]
 have F:=Jn2 F
 cases h
 exact Ja2 ⟨bU,B+1,(O.1,du),ae,ag,b6,cj,R,(T5 S I aT aB aX).wk R,(ct.stp<|aB.tr aX),cz,by omega,by omega,aq⟩ R
 rintro _ em ⟨aw,A,T,X,aE,aG,rfl,u,cV,cW,rfl⟩
 have h:=yI c2
 refine Jp<|Jq<|Jh3 [2,2,2] 1 R<|Jo3 R U80 R R<|Jb 1 R ?_
 revert h
 cases dO:decide (256<(A.1.length:Int))
 refine JF λh=>Jy R<|Js<|Jp<|Jh3 [2,1] 1 R<|Ob h λeq dh h=>Js3 R call106 (dY (J:=λD=>mp [(14,2)] 0<|aw D) (cW.map (mp [(14,2)] 0) R R) dh) ?_
 rintro _ d9 ⟨dQ,rfl,cn,cB,c6⟩
 obtain⟨aM,v,dk⟩:=Ji cn 15 R
 refine Tv<|Jd<|Js1 (J:=aM) [0,2,6,10] (some 12) [(1,2),(3,2),(7,2),(10,2),(0,0),(2,0),(4,0),(5,2),(6,0),(8,0),(9,1),(11,1)] [(12,1)] (by kernel_rfl) (by kernel_rfl) λeb q=>Je3 R U75 R Z37<|Je3 R U88 R Z2<|Jn 2 R ?_
 have a9:=be.stp (T7 d e g f u v q)
 refine Jg R (Jd4 (haC a9.cells R) I79 Z79 R)<|Jg R (Jd2 I37 R R<|hvC ((bj.stp<|T3 u v q).ld 0 R R) R) ?_
 have ba:=bk.stp (T3 u v q)
 have ay:=(T5 g f u v q)
 refine Jg R (Jd2 I2 R R<|hvC (ba.ld 0 R R) R)<|Ob h λer bv h=>Jd3 R bn bv U37 Z2<|Jg R (Jd2 I2 R R<|hvC ((bn.stp<|T14 C y p s i j t d e g f u v q).gInt bv) R)<|Jg R (Jd4 (haC ba.cells R) I88 Z88 R)<|Ob h λes di h=>WO.callV R R R R R R R R call112 (qX (J:=Mk aM) (p0:=bJ) (Jj3<|bg.stp ay) (Jj3<|bh.stp ay) ((bi.stp ay).map (mp [] 0) R R) di) ?_
 rintro _ dq ⟨dR,rfl,cp⟩
 obtain⟨bX,E,dV⟩:=Ji cp 18 R
 refine⟨(E.cl R),?_⟩
 obtain⟨bY,Q,dw⟩:=gD bX dq 17
 have az:=(T9 d e g f u v q E Q)
 refine Ob h λaL dj h=>Js3 R call175 (Ret.cast (by simp only[(c6),List.cons_append,List.nil_append])<|qZ (J:=λD=>mp [(7,2),(8,3),(9,4)] 1<|bY D) (p0:=(⟨(⟨c.2.2.1,c.2.2.2.1⟩:Arena),c.2.2.2.2⟩:Parity)) ((bb.stp az).map (mp [(7,2),(8,3),(9,4)] 1) R R) ((bc.stp az).map (mp [(7,2),(8,3),(9,4)] 1) R R) ((bd.stp az).map (mp [(7,2),(8,3),(9,4)] 1) R R) (Jm2 (Sl.st dw ((cB.mx (bZ _) dk R (R:15+2=17)).stp (q.tr E)).rdc) (mp [(7,2),(8,3),(9,4)] 1) R R) dj) ?_
 rintro _ ec ⟨dS,cm,b9,b8,b7,b5,ca,rfl,cq,cD,cE,cF⟩
 obtain⟨aN,aC,aK,dx⟩:=Jj cq 20 R
 have aS:=(T3 E Q aC)
 refine⟨(aS.cl R),Jt1<|Ji4 aN 6 R Z79 R (a9.stp aS) R λee G cG=>Tv<|Jo<|Jz<|Jp<|Jg3 R ?_⟩
 cases h
 exact Ja2 ⟨(λD=>ren [(25,7),(26,8),(27,9)]<|aN D),(A.1,((Dr .i64<|c.2.1+1):Int),aL.Arena.Owner,aL.Arena.Next,aL.Prio),T,X,cm,b9,b8,b7,b5,ca,R,(Jz2 ((T12 t d e g f u v q E Q aC G).wk R) [(25,7),(26,8),(27,9)] R),((cV.stp<|T6 v q E Q aC G).map (ren [(25,7),(26,8),(27,9)]) R R),(((cD.mx (bZ _) aK R (R:20+5=25)).stp G).map (ren [(25,7),(26,8),(27,9)]) R R),(((cE.mxz dx aK R (R:20+6=26)).stp G).map (ren [(25,7),(26,8),(27,9)]) R R),(((cF.mx (bZ _) aK R (R:20+7=27)).stp G).map (ren [(25,7),(26,8),(27,9)]) R R),(cG.map (ren [(25,7),(26,8),(27,9)]) R R),aJ⟩ R
 refine JT λh=>Jx R<|Je [2,1,2,2] R<|Jf R (Jj4 [.slice none 0 0,.slice none 0 0,.slice none 0 0] R)<|Ji4 aw 4 R Z79 R (a8.stp<|T9 s i j t d e g f u) R λd8 b4 cA=>Tv<|Jb 2 R<|Ju<|Jw<|Ja1<|Jw<|Jw ?_
 cases h
 obtain rfl:=Ds aJ
 have h:=yL br
 refine Ja1<|Jr2<|Jw<|Jb2 (l:=[.cell 8 79,.tmp 9,.tmp 10]) results109 (cg R cA I79 Z79 R<|Jq2 R<|Jq2 R R) R ?_
 cases h
 exact⟨aw,none,0,none,0,none,0,none,0,R,(bp.stp<|T13 C y p s i j t d e g f u b4),Dt,Dt,Dt,Dt⟩
 rintro _ eg ⟨aO,m,Z,ai,ad,af,V,ah,aj,ac,rfl,aY,cL,cM,cN,cO,cP,rfl⟩
 have h:=yI br
 refine Jp<|Je [1,2,1,2,2] R<|Jc4 tv R (Jd4 (haE cP.cells) I79 Z79 R)<|Jn 1 R<|Ji4 aO 4 R Z79 R (a8.stp<|T4 s i j aY) R λef H cH=>Tv<|Jb 2 R<|Ju<|Jb2 (l:=[.cell 8 79,.tmp 9,.tmp 10]) results109 (cg R cH I79 Z79 R<|Jq2 R<|Jq2 R R) R ?_
 cases h
 exact⟨(λD=>ren [(7,2),(8,3),(9,4)]<|aO D),ad,af,V,ah,aj,ac,Z,ai,R,((bp.stp<|T8 C y p s i j aY H).map (ren [(7,2),(8,3),(9,4)]) R R),((cM.stp H).map (ren [(7,2),(8,3),(9,4)]) R R),((cN.stp H).map (ren [(7,2),(8,3),(9,4)]) R R),((cO.stp H).map (ren [(7,2),(8,3),(9,4)]) R R),((cL.stp H).map (ren [(7,2),(8,3),(9,4)]) R R)⟩
theorem pV {H F K G I L}{p0:Parity}(am:Rd Ri J w 0 H F p0.Arena.Owner) (an:Rd Rs J w 0 K G p0.Arena.Next) (ao:Rd Ri J w 0 I L p0.Prio){r:VI}(h:fl p0=some r):Ret prog 44 [.agg #[.slice H p0.Arena.Owner.length F,.slice K p0.Arena.Next.length G,.slice I p0.Prio.length L]] w (Pvs E6 2 J w r):=by
 unfold fl at h
 refine Jl3 J func44 R ntmps44 R λap=>Je [1,2] R<|Jt3 J 2 R λaJ aN Z k P=>Tv<|Jb 1 R<|Je [2,1,2,1,2] R<|Je3 R U79 R Z37<|Jc3 R I37 (P.ld 2 R R)<|Jo3 R U37 R R<|Ob h λp aw h=>Jl1 (J:=Z) (E:=E6) (z:=(0:Int)) 3 R R R R R R R Y37 bS R R R R R (λ_ _ _=>R) (Jv2 aw) λx v aS E e al=>Tv<|Jb 1 R<|Jq<|Js1 (J:=E) [2] none [(1,2),(0,0),(2,0),(3,1),(4,1),(5,2),(6,2),(7,2),(8,2),(9,2)] [] (by kernel_rfl) (by kernel_rfl) λaO b=>Je3 R U79 R Z75 ?_
 have M:=P.stp (e.tr b)
 refine Jg R (Jd4 (haC M.cells R) I79 Z79 R)<|Jg R (Jd4 (haC (M.lds 0 2 R) R) I75 Z75 R)<|Ob h λaU ax h=>?_
 have N:=am.stp (T3 k e b)
 have O:=an.stp (T3 k e b)
 refine Js3 R call115 (wY (J:=Mk E) (p0:=p0.Arena) (Jj3 N) (Jj3 O) ax) ?_
 rintro _ aP ⟨aL,aH,aF,rfl,af,ah⟩
 obtain⟨Y,a,aA⟩:=Ji af 4 R
 refine⟨(a.cl R),Ob h λW ay h=>Js3 R call114 (rY (J:=Mk Y) (p0:=p0) (Jj3<|N.stp a) (Jj3<|O.stp a) (Jj3<|ao.stp<|T4 k e b a) (Jj3 (ah.mx (bZ _) aA R (R:4+2=6)).rdc) ay) ?_⟩
 rintro _ V ⟨aM,aI,aG,aD,aE,rfl,ag,aK,ai⟩
 obtain⟨q,t,aB⟩:=Ji ag 7 R
 refine⟨((a.tr t).cl R),?_⟩
 have y:=ai.mx (bZ _) aB R (R:7+3=10)
 refine Jn 5 R<|Jt1<|Jd<|Jq<|Jh3 [2,2,2] 1 R<|Jo3 R U37 R R<|Jb 1 R<|Ob h λU av aq=>?_
 clear h
 refine Jp3 [3] (λd s i=>∃j,∃o:VI,s=d/\Stp [3] q V j i/\Oc E6 2 j i 3 x v o/\p.length=o.length/\U=Dv o) ?_ ?_
 refine Jv<|Jq3 [3,20,21] (λf d s i=>∃j c,∃g:VI,s=(22,vi c)::d/\Stp [3] q V j i/\Oc E6 2 j i 3 x v g/\p.length=g.length/\0<=c/\Dq ((W.2.length:Int)-c)=f/\cntM (jz W) f c g=some U) ⟨_,_,⟨q,0,p,R,Jk3,(al.stp<|T3 b a t),R,(by decide),(by simp),av⟩,(KM R)⟩ ?_
 rintro f _ aR ⟨D,c,g,rfl,u,A,C,Q,m,h⟩
 rcases f with _|f
 have n:=h;obtain⟨aC,h⟩:=exq n
 have B:=dcf m
 refine Jf3 R<|Jq<|Jx2 R B<|Jc1<|Jt<|Jt ?_
 cases h
 have h:=n
 refine Jb1 ?_
 cases h
 exact Jw1 _ ⟨D,g,R,u.wk R,A,C,R⟩<|KM R
 obtain⟨aC,h,n⟩:=BI h;unfold jz at h
 have B:=dct m
 refine Jf3 R<|Jq<|Jw2 R B<|Js<|Jp<|Jq<|Jv<|Je [2,1,2] R<|Ob h λaV S h=>Jd3 R y.rdc S U37 Z2<|Jc3 R I2 ((y.stp u).rdc.gInt S)<|Jb 1 R<|Ji3 [2,2,2,1] 2 R<|Ob h λaW az h=>Jf R (Jg2 A.rdc az U37 Z2 R R C R)<|Ob h λX T h=>Jk1 (J:=D) (E:=E6) 3 [] R R R R R R R R Z2 R R R R A T λaT ab ad ak=>Tv<|?_
 have au:p.length=X.length:=C.trans (Ju2 T).2.2.2.symm
 refine Jo<|Jz<|Jp<|Jg3 R<|wr2 Q m y.len_le ▸ ?_
 cases h
 exact Ja2 ⟨ab,c+1,X,R,(u.tr ad).wk R,ak,au,nxz Q,nxm m,n⟩ R
 rintro _ aQ ⟨aa,o,rfl,ac,aj,ar,rfl⟩
 have h:=yI aq
 refine Jp<|Jf3 R<|Ju<|Jb2 (l:=[.tmp 2]) results44 (Jq2 R R) R ?_
 cases h
 exact⟨(λae=>ren [(3,2)]<|aa ae),x,v,(by simp only[ar]),((ap.stp<|T6 k e b a t ac).map (ren [(3,2)]) R R),(aj.map (ren [(3,2)]) R R)⟩
theorem te {aC aB ay av aw ax}{p0:Parity}{au a7}{p1:VI}{af an}{p2:VI}(aI:Rd Ri J w 0 aC aB p0.Arena.Owner) (aJ:Rd Rs J w 0 ay av p0.Arena.Next) (bJ:Rd Ri J w 0 aw ax p0.Prio) (bK:Rd Ri J w 0 au a7 p1) (aj:Rd Ri J w 0 af an p2){r:Answer}(h:lJ p0 p1 p2=some r):Ret prog 117 [.agg #[.slice aC p0.Arena.Owner.length aB,.slice ay p0.Arena.Next.length av,.slice aw p0.Prio.length ax],.slice au p1.length a7,.slice af p2.length an] w (λcf a=>∃(b:Col) (a3:Option Addr) (a5:Nat) (a4:Option Addr) (a6:Nat),cf= .agg #[.slice a3 r.Won.length a5,.slice a4 r.Plan.length a6]/\Ent J w b a/\Oc E6 2 b a 2 a3 a5 r.Won/\Oc E6 2 b a 3 a4 a6 r.Plan):=by
 unfold lJ at h
 refine Jl3 J func117 R ntmps117 R λbL=>Je [1,1] R<|Jt3 J 2 R λcK c1 bi u bC=>Tv<|Ju3 bi 3 R zeroValue85 R λcL db bk q bF=>Tv<|Jd<|Je [1,2,1,2] R<|Jy3 bk E6 4 R Y37 bS R λcE cI dg be j bv=>Tv<|Jn 1 R<|Ob h λn b5 h=>Jz3 be E6 4 [] R Y37 bS R bv (Du (cc _)<|bK.stp<|T3 u q j) bV b5 R λA z a9 Z o aD=>Tv<|Jb 1 R<|Jq<|Jh3 [2,2,2] 1 R<|Jo3 R U37 R R<|Jb 1 R ?_
 have aK:=aD.len_le
 refine Ob h λa1 bY bP=>?_
 clear h
 refine Jp3 [2,6,7] (λi t a=>∃b,∃Y:VI,t=i/\Stp [4] Z a9 b a/\Oc E6 2 b a 4 A z Y/\n.length=Y.length/\a1=Dv Y) ?_ ?_
 refine Jv<|Jq3 [2,3,6,7,18] (λe i t a=>∃b g,∃x:VI,t=(19,vi g)::i/\Stp [4] Z a9 b a/\Oc E6 2 b a 4 A z x/\n.length=x.length/\0<=g/\Dq ((n.length:Int)-g)=e/\cntM (iK p0 p2) e g x=some a1) ⟨_,_,⟨Z,0,n,R,Jk3,aD,R,(by decide),(by simp),bY⟩,(KM R)⟩ ?_
 rintro e _ c9 ⟨aa,g,x,rfl,p,H,V,ak,T,h⟩
 rcases e with _|e
 have K:=h;obtain⟨cb,h⟩:=exq K
 have B:=dcf T
 refine Jf3 R<|Jq<|Jx2 R B<|Jc1<|Jt<|Jt ?_
 cases h
 have h:=K
 refine Jb1 ?_
 cases h
 exact Jw1 _ ⟨aa,x,R,p.wk R,H,V,R⟩<|KM R
 obtain⟨cb,h,K⟩:=BI h;unfold iK at h
 have B:=dct T
 refine Jf3 R<|Jq<|Jw2 R B<|Js<|Jp<|Jq<|Jv<|Jf3 R<|Jq<|Jq<|Js1 (J:=aa) [0,2,4] none [(0,2),(1,2),(3,2),(6,2),(7,2),(8,2),(2,0),(4,2),(5,0),(9,0),(10,2),(11,2),(12,2),(13,2),(14,2),(15,0),(16,2),(17,2)] [] (by kernel_rfl) (by kernel_rfl) λci f=>Je3 R U79 R Z75<|Je3 R U75 R Z37<|Jn 3 R<|Ob h λcl aN h=>Jd3 R aj aN U37 Z2 ?_
 have aE:=bC.stp (T5 q j o p f)
 refine Jg R (Jd2 I37 R R<|hvC (aE.ld 0 R R) R)<|Ob h λck aM h=>Jd3 R aI aM U37 Z2 ?_
 have aF:=aI.stp (T6 u q j o p f)
 refine Jg R (Jd2 I2 R R<|hvC (aF.gInt aM) R) ?_
 have ah:=aj.stp (T6 u q j o p f)
 refine Jg R (Jd2 I2 R R<|hvC (ah.gInt aN) R)<|Jn 2 R<|Ob h λaZ h bQ=>Jg4 [2,3,6,7,8,18,19] 39 aZ aa ci [(12,2),(13,2),(14,2),(15,0),(16,2),(17,2)] [] (Cl.refl _ _ _) ?_ ?_
 revert h
 cases cT:(ck !=cl)
 refine JF λh=>Jn 2 R<|Ob h λdj aO h=>Jf R (Jg2 H.rdc aO U37 Z2 R R V R)<|Jg R (Jd2 I2 R R<|hvC ((H.stp f).rdc.gInt aO) R)<|Jn 2 R ?_
 cases h
 exact Jv1 _ (Cl.refl _ _ _) ⟨R,_,Jk3⟩<|KM R
 refine JT λh=>Jn 3 R<|Jb4 R<|Jn 2 R ?_
 cases h
 exact Jv1 _ (Cl.refl _ _ _) ⟨R,_,Jk3⟩<|KM R
 rintro _ da _ ⟨rfl,ar,k⟩
 have h:=bQ
 refine Jt1<|Jd ?_
 revert h
 cases cU:aZ
 refine JF λh=>Jy R<|Js<|Jp<|Jh3 [2,2,2,2,2,1,1,2] 1 R<|Jf R (Jj4 [.slice af p2.length an,.slice none 0 0] R)<|Jn 2 R<|Ob h λdk aP h=>Jd3 R ah aP U37 Z2 ?_
 have I:=ah.stp k
 refine Jc3 R I2 (I.gInt aP)<|Ob h λcm b6 h=>Js3 R call183 (sZ (J:=Mk ar) (p0:=(⟨p2,([]:VI)⟩:Answer)) (Jj3 I) Sl.nil b6) ?_
 rintro _ ba ⟨cX,cD,cJ,rfl,bt,bD⟩
 obtain⟨ab,v,ca⟩:=Ji bt 5 R
 refine Tv<|Jb 1 R<|Je [2,2,1,2,2,1,2,2] R<|Je3 R U79 R Z75<|Je3 R U75 R Z31 ?_
 have aG:=aE.stp (k.tr v)
 refine Jc3 R I31 (aG.ld 1 R R)<|Jn 1 R<|Ob h λbb aQ h=>Jd3 R aJ aQ U31 Z37 ?_
 have aH:=aJ.stp (T8 u q j o p f k v)
 obtain⟨cH,c0,ai,bT⟩:=aH.gSl aQ
 refine Jc3 R I37 bT<|Jo3 R U37 R R<|Jb 1 R ?_
 have aL:=ai.len_le
 refine Ob h λa2 b0 bR=>?_
 clear h
 refine Jp3 [2,3,6,7,18,19] (λi t a=>∃b,∃L:VI,t=i/\Stp [4] ab ba b a/\Oc E6 2 b a 4 A z L/\n.length=L.length/\a2=Dv L) ?_ ?_
 refine Jv<|Jq3 [2,3,6,7,8,9,18,19,52,53] (λe i t a=>∃b m,∃E:VI,t=(54,vi m)::i/\Stp [4] ab ba b a/\Oc E6 2 b a 4 A z E/\n.length=E.length/\0<=m/\Dq ((bb.length:Int)-m)=e/\cntM (gj p0 p2 g cm bb) e m E=some a2) ⟨_,_,⟨ab,0,x,R,Jk3,(H.stp<|T3 f k v),V,(by decide),(by simp),b0⟩,(KM R)⟩ ?_
 rintro e _ dd ⟨M,m,E,rfl,c,P,W,al,U,h⟩
 rcases e with _|e
 have D:=h;obtain⟨cd,h⟩:=exq D
 have C:=dcf U
 refine Jf3 R<|Jq<|Jx2 R C<|Jc1<|Jt<|Jt ?_
 cases h
 have h:=D
 refine Jb1 ?_
 cases h
 exact Jw1 _ ⟨M,E,R,c.wk R,P,W,R⟩<|KM R
 obtain⟨cd,h,D⟩:=BI h;unfold gj at h
 have C:=dct U
 refine Jf3 R<|Jq<|Jw2 R C<|Js<|Jp<|Jq<|Jv<|Je [2,1,2] R<|Ob h λdl aR h=>Jd3 R ai aR U37 Z2<|Jc3 R I2 ((ai.stp c).gInt aR)<|Jb 1 R<|Jq<|Jq<|Js1 (J:=M) [0] none [(0,2),(1,2),(2,2),(4,2),(5,2),(6,2),(3,0),(7,0),(8,2)] [] (by kernel_rfl) (by kernel_rfl) λde d=>Jn 2 R<|Ob h λcn aS h=>Jd3 R I aS U37 Z2<|Jn 2 R<|Ob h λco aT h=>Jd3 R I aT U37 Z2 ?_
 have Q:=I.stp (T3 v c d)
 refine Jg R (Jd2 I2 R R<|hvC (Q.gInt aS) R)<|Jg R (Jd2 I2 R R<|hvC (Q.gInt aT) R)<|Jn 1 R<|Jt1<|Jd ?_
 revert h
 cases cV:(cn !=co)
 refine JF λh=>Jy R<|Js<|Jp<|Jh3 [2,2,2,2,1] 3 R<|Ob h λdm b7 h=>Jf R (Jg2 P.rdc b7 U37 Z2 R R W R)<|Ob h λbc aW h=>Jk1 (J:=M) (E:=E6) 4 [] R R R R R R R R Z2 R R R R (P.stp d) aW λdf bm s S=>Tv<|?_
 have X:n.length=bc.length:=W.trans (Ju2 aW).2.2.2.symm
 refine Jd<|Je [1,2,1,2,1,2,2,2,2,2] R<|Jc4 tv R (Jd4 (haE (aG.stp<|T3 c d s).cells) I79 Z79 R)<|Jn 1 R<|Ob h λcp b8 h=>Js3 R call184 (Ret.cast (by simp only[X,List.cons_append,List.nil_append])<|vI (J:=Mk bm) (p0:=p0) (Jj3<|aF.stp<|T5 k v c d s) (Jj3<|aH.stp<|T3 c d s) (Jj3<|bJ.stp<|T11 u q j o p f k v c d s) (Jj3 S.rdc) b8) ?_
 rintro _ dh ⟨cY,cB,cy,cw,cz,cA,cu,rfl,bu,bG,bH,bI⟩
 obtain⟨bn,y,am⟩:=Ji bu 8 R
 refine Tv<|Jn 1 R<|Ob h λdn b9 h=>Js3 R call114 (rY (J:=Mk bn) (p0:=cp) (Jj3 (bG.mx (bZ _) am R (R:8+2=10)).rdc) (Jj3 (bH.mx (cQ (bZ _) _) am R (R:8+3=11)).rdc) (Jj3 (bI.mx (bZ _) am R (R:8+4=12)).rdc) (Jj3 ((bD.mx (bZ _) ca R (R:5+2=7)).stp (T4 c d s y)).rdc) b9) ?_
 rintro _ ch ⟨cW,cG,cv,cF,cx,rfl,bs,cM,cN⟩
 obtain⟨bf,F,cZ⟩:=Ji bs 13 R
 refine Tv<|Jb 5 R<|Jq<|Jh3 [2,2,2,1,2,2,2,2,2,2,2,2,2,2,1,2,2,2,2,2,2,2] 2 R<|Ob h λcq aU h=>Jd3 R Q aU U37 Z2 ?_
 have ag:=Q.stp (T3 s y F)
 refine Jc3 R I2 (ag.gInt aU)<|Jn 2 R<|Ob h λa0 h bM=>Jg4 [2,3,6,7,8,9,12,18,19,52,53,54] 88 a0 bf ch [(6,2),(7,2),(8,2),(9,2)] [(10,2),(11,2),(12,2),(13,2),(14,1),(15,2),(16,2),(17,2),(18,2),(19,2),(20,2),(21,2)] tv ?_ ?_
 revert h
 cases cO:(cq==0)
 refine JF λh=>Jn 4 R ?_
 cases h
 exact Jh4 tv R
 refine JT λh=>Jn 1 R<|Jo3 R U37 R R<|Jn 2 R ?_
 cases h
 exact Jh4 tv R
 rintro _ a8 _ ⟨rfl,ao,G⟩
 have h:=bM
 refine Jn 1 R<|Ob h λaY h bN=>Jg4 [2,3,6,7,8,9,18,19,52,53,54] 100 aY ao a8 [(11,2),(12,2),(13,2),(14,1),(15,2),(16,2),(17,2),(18,2),(19,2),(20,2),(21,2)] [] tv ?_ ?_
 revert h
 cases cP:a0
 refine JF λh=>Jn 2 R<|Ob h λcr aV h=>Jd3 R ag aV U37 Z2<|Jc3 R I2 ((ag.stp G).gInt aV)<|Jn 2 R<|Ob h λce h bO=>Jg4 [2,3,6,7,8,9,18,19,52,53,54,89,90,91,92,93,94,95] 99 ce ao a8 [(17,2),(18,2),(19,2),(20,2)] [(21,2)] tv ?_ ?_
 revert h
 cases cR:(cr==1)
 refine JF λh=>Jn 4 R ?_
 cases h
 exact Jh4 tv R
 refine JT λh=>Jn 1 R<|Jo3 R U37 R R<|Jn 2 R ?_
 cases h
 exact Jh4 tv R
 rintro _ c2 _ ⟨rfl,cs,bo⟩
 have h:=bO
 refine Jn 1 R ?_
 cases h
 exact Jv1 _ tv ⟨R,_,bo.wk R⟩<|KM R
 refine JT λh=>Jn 3 R<|Ja4 R<|Jn 7 R ?_
 cases h
 exact Jh4 tv R
 rintro _ c3 _ ⟨rfl,ap,N⟩
 have h:=bN
 refine Jd ?_
 revert h
 cases cS:aY
 refine JF λh=>Jy R<|Js<|Jp<|Ji3 [2,2,2,1] 2 R<|Ob h λdi b3 h=>Jf R (Jg2 S.rdc b3 U37 Z2 R R X R)<|Ob h λbd aX h=>Jk1 (J:=ap) (E:=E6) 4 [] R R R R R R R R Z2 R R R R (S.stp<|T4 y F G N) aX λc4 bg bp bw=>Tv<|?_
 have bU:n.length=bd.length:=X.trans (Ju2 aX).2.2.2.symm
 refine Jo<|Jz<|Jp<|Jg3 R<|wr2 al U aL ▸ ?_
 cases h
 exact Ja2 ⟨bg,m+1,bd,R,(T8 c d s y F G N bp).wk R,bw,bU,nxz al,nxm U,D⟩ R
 refine JT λh=>Jx R<|Jc1<|Jt<|Ja3 R<|Jt<|Jt ?_
 cases h
 have h:=D
 refine Jb1 ?_
 cases h
 exact Jw1 _ ⟨ap,bc,R,(T7 c d s y F G N).wk R,(S.stp<|T4 y F G N),X,R⟩<|KM R
 refine JT λh=>Jx R<|Jc1<|Jt<|Jb1<|Jp<|Jg3 R ?_
 have b2:Dr .i64 (m+1)=m+1:=wr1 al (Jn2 C) aL
 rw[b2]
 have C:=Jn2 C
 cases h
 exact Ja2 ⟨M,m+1,E,R,(c.tr d).wk R,(P.stp d),W,by omega,by omega,D⟩ R
 rintro _ dc ⟨bl,L,rfl,bq,bE,bX,rfl⟩
 have h:=yI bR
 refine Jz<|Jp<|Jg3 R<|wr2 ak T aK ▸ ?_
 cases h
 exact Ja2 ⟨bl,g+1,L,R,(T5 p f k v bq).wk R,bE,bX,nxz ak,nxm T,K⟩ R
 refine JT λh=>Jx R<|Jc1<|Jt<|Jb1<|Jp<|Jg3 R ?_
 have b1:Dr .i64 (g+1)=g+1:=wr1 ak (Jn2 B) aK
 rw[b1]
 have B:=Jn2 B
 cases h
 exact Ja2 ⟨ar,g+1,x,R,(T3 p f k).wk R,(H.stp<|f.tr k),V,by omega,by omega,K⟩ R
 rintro _ c8 ⟨bj,Y,rfl,ae,bB,bW,rfl⟩
 have h:=yI bP
 refine Jp<|Je [1,2,1,2,2,1] R<|Jy3 bj E6 5 R Y37 bS R λcC ct c5 bh O bx=>Tv<|Jn 1 R<|Ob h λcj b4 h=>Jz3 bh E6 5 [] R Y37 bS R bx (Du (cc _)<|aj.stp<|T6 u q j o ae O) bV b4 R λaz aA c6 aq ac bz=>Tv<|Jn 1 R<|Jf R (Jj4 [.slice az cj.length aA,.slice A n.length z] R)<|Ji4 aq 3 R Z85 R (bF.stp<|T5 j o ae O ac) R λc7 ad bA=>Tv<|Jd<|Ju<|Jb2 (l:=[.cell 6 85]) results117 (cg R bA isAgg85 Z85 R R) R ?_
 cases h
 exact⟨(λbr=>ren [(5,2),(4,3)]<|aq br),az,aA,A,z,(by simp only[bW]),((bL.stp<|T8 u q j o ae O ac ad).map (ren [(5,2),(4,3)]) R R),((bz.stp ad).map (ren [(5,2),(4,3)]) R R),((bB.stp<|T3 O ac ad).map (ren [(5,2),(4,3)]) R R)⟩
theorem wZ {p0:Sig}{E D B C}{p1:Det}(p:Rd Rs J w 0 E D p1.Next) (ab:Rd Pair.rp J w 0 B C p1.Pairs){r:Bool}(h:oF p0 p1=some r):Ret prog 119 [.agg #[vi p0.In,vi p0.Out],.agg #[.slice E p1.Next.length D,.slice B p1.Pairs.length C]] w (Pvb J w r):=by
 unfold oF at h
 refine Jl3 J func119 R ntmps119 R λq=>Je [1,1,2] R<|Jt3 J 2 R λav aJ P e Z=>Tv<|Jt3 P 3 R λaw an S c o=>Tv<|Jb 1 R<|Je [2,1,2,2] R<|Je3 R U71 R Z31<|Jc3 R I31 (o.ld 0 R R)<|Jo3 R U31 R R<|Jb 1 R<|Jq<|Jh3 [2,2,2,2,2,2,2,2,1,2,1,2,2] 3 R<|Ob h λI h ae=>Jg4 [2,3,5] 16 I S an [(3,2),(4,2),(5,2)] [(6,2),(7,2),(8,1),(9,2),(10,1),(11,2),(12,2)] tv ?_ ?_
 revert h
 cases ax:decide ((p1.Next.length:Int)<1)
 refine JF λh=>Jn 3 R ?_
 cases h
 exact Jh4 tv R
 refine JT λh=>Jn 3 R ?_
 cases h
 exact Jh4 tv R
 rintro _ al _ ⟨rfl,v,a⟩
 have h:=ae
 refine Jn 1 R<|Ob h λK h ac=>Jg4 [2,3,5] 23 K v al [(7,2),(8,1),(9,2),(10,1),(11,2),(12,2)] [] tv ?_ ?_
 revert h
 cases ay:I
 refine JF λh=>Je3 R U71 R Z69<|Jc3 R I69 ((o.stp a).ld 1 R R)<|Jn 1 R<|Ob h λaP ah h=>Js3 R call185 (ta (J:=Mk v) (Jj3<|ab.stp<|T3 e c a) ah) ?_
 rintro _ aK ⟨aC,rfl,W⟩
 obtain⟨aq,T,aF⟩:=Ji W 4 R
 refine Tv<|Jn 2 R ?_
 cases h
 exact Jv1 _ tv ⟨R,_,T.wk R⟩<|KM R
 refine JT λh=>Jn 1 R<|Ja4 R<|Jn 1 R<|Ja4 R<|Jn 2 R ?_
 cases h
 exact Jh4 tv R
 rintro _ N _ ⟨rfl,j,b⟩
 have h:=ac
 refine Jd ?_
 revert h
 cases az:K
 refine JF λh=>Jy R<|Js<|Jp<|Jq<|Je [2,1,2,2] R<|Je3 R U71 R Z31<|Jc3 R I31 ((o.stp<|a.tr b).ld 0 R R)<|Jo3 R U31 R R<|Jb 1 R<|Ob h λM ag F=>?_
 clear h
 refine Jx1 (λm t=>∃u,m=[]/\Stp [] j N u t/\M=Dv ()) ?_ ?_
 refine Jv<|Jq3 [2,5,25,26] (λi O m t=>∃u d,m=(27,vi d)::O/\Stp [] j N u t/\0<=d/\Dq ((p1.Next.length:Int)-d)=i/\cntM (lB p0 p1) i d ()=some M) ⟨_,_,⟨j,0,R,Jk3,(by decide),(by simp),ag⟩,(KM R)⟩ ?_
 rintro i _ aM ⟨x,d,rfl,f,G,k,h⟩
 rcases i with _|i
 have g:=h;obtain⟨ak,h⟩:=exq g
 have s:=dcf k
 refine Jf3 R<|Jq<|Jx2 R s<|Jc1<|Jt<|Jt ?_
 cases h
 have h:=g
 refine Jb1 ?_
 cases h
 exact Jw1 _ ⟨x,R,f.wk R,R⟩ KN
 obtain⟨ak,h,g⟩:=BI h;unfold lB at h
 have s:=dct k
 refine Jf3 R<|Jq<|Jw2 R s<|Js<|Jp<|Jq<|Jv<|Je [2,1,2] R<|Ob h λao H h=>Jd3 R p H U31 Z37 ?_
 obtain⟨au,aI,aa,af⟩:=(p.stp (T5 e c a b f)).gSl H
 refine Jc3 R I37 af<|Jb 1 R<|Jh3 [2,2,1,1,2,2,2,2,1,2,2] 1 R<|Jo3 R U37 R R<|Jc4 tv R (Jd4 (haE (Z.stp<|T4 c a b f).cells) I28 Z28 R)<|Ob h λap ai h=>Js3 R call103 (gR (J:=Mk x) (p0:=p0) ai) ?_
 rintro _ am ⟨aD,rfl,X⟩
 obtain⟨y,n,aG⟩:=Ji X 4 R
 refine Tv<|Jn 2 R<|Ob h λL h ad=>Jg4 [2,5,25,26,27] 41 L y am [(6,2),(7,2),(8,1),(9,2),(10,2)] [] tv ?_ ?_
 revert h
 cases aA:((ao.length:Int) !=ap)
 refine JF λh=>Jn 2 R<|Ob h λaQ aj h=>Js3 R call159 (kO (J:=Mk y) (Jj3<|aa.stp n) aj) ?_
 rintro _ aN ⟨aE,rfl,Y⟩
 obtain⟨ar,V,aH⟩:=Ji Y 6 R
 refine Tv<|Jn 2 R ?_
 cases h
 exact Jv1 _ tv ⟨R,_,V.wk R⟩<|KM R
 refine JT λh=>Jn 2 R<|Ja4 R<|Jn 2 R ?_
 cases h
 exact Jh4 tv R
 rintro _ aO _ ⟨rfl,z,A⟩
 have h:=ad
 refine Jd ?_
 revert h
 cases aB:L
 refine JF λh=>Jy R<|Js<|Jz<|Jp<|Jg3 R<|wr2 G k p.len_le ▸ ?_
 cases h
 exact Ja2 ⟨z,d+1,R,(T3 f n A).wk R,nxz G,nxm k,g⟩ R
 refine JT λh=>Jx R<|Jf3 R<|Ju<|Ja1<|Jw<|Jw ?_
 cases h
 obtain rfl:=Ds g
 have h:=yL F
 refine Ja1<|Jr2<|Jw<|Jb2 (l:=[.tmp 4]) results119 (Jq2 R R) R ?_
 cases h
 exact⟨z,R,(q.stp<|T7 e c a b f n A)⟩
 rintro _ aL ⟨Q,rfl,U,rfl⟩
 have h:=yI F
 refine Jp<|Jf3 R<|Ju<|Jb2 (l:=[.tmp 4]) results119 (Jq2 R R) R ?_
 cases h
 exact⟨Q,R,(q.stp<|T5 e c a b U)⟩
 refine JT λh=>Jx R<|Jf3 R<|Ju<|Jw<|Jb2 (l:=[.tmp 4]) results119 (Jq2 R R) R ?_
 cases h
 exact⟨j,R,(q.stp<|T4 e c a b)⟩
theorem sA {p0:Sig}{x E}{p1:VC}(p:Rd Clause.rp J w 0 x E p1){r:Bool}(h:gW p0 p1=some r):Ret prog 75 [.agg #[vi p0.In,vi p0.Out],.slice x p1.length E] w (Pvb J w r):=by
 unfold gW at h
 refine Jl3 J func75 R ntmps75 R λq=>Je [1,2] R<|Jt3 J 2 R λae ap H j y=>Tv<|Jb 1 R<|Jq<|Je [1,1,2,2,2,2,2,2] R<|Jc4 tv R (Jd4 (haE y.cells) I28 Z28 R)<|Ob h λab W h=>Js3 R call58 (jY (J:=Mk H) (p0:=p0) W) ?_
 rintro _ Y ⟨ak,rfl,N⟩
 obtain⟨K,d,al⟩:=Ji N 3 R
 refine Tv<|Jn 2 R<|Ob h λC h Q=>Jg4 [1,2] 13 C K Y [(4,2),(5,2),(6,2),(7,2)] [] tv ?_ ?_
 revert h
 cases ag:(!ab)
 refine JF λh=>Jn 1 R<|Jo3 R U29 R R<|Jn 2 R ?_
 cases h
 exact Jh4 tv R
 refine JT λh=>Jn 4 R ?_
 cases h
 exact Jh4 tv R
 rintro _ F _ ⟨rfl,g,b⟩
 have h:=Q
 refine Jd ?_
 revert h
 cases ah:C
 refine JF λh=>Jy R<|Js<|Jp<|Jq<|Jf3 R<|Ob h λD T z=>?_
 clear h
 refine Jx1 (λn t=>∃u,n=[]/\Stp [] g F u t/\D=Dv ()) ?_ ?_
 refine Jv<|Jq3 [1,2] (λf G n t=>∃u a,n=(5,vi a)::G/\Stp [] g F u t/\0<=a/\Dq ((p1.length:Int)-a)=f/\cntM (gX p0 p1) f a ()=some D) ⟨_,_,⟨g,0,R,Jk3,(by decide),(by simp),T⟩,(KM R)⟩ ?_
 rintro f _ ar ⟨m,a,rfl,c,A,k,h⟩
 rcases f with _|f
 have e:=h;obtain⟨X,h⟩:=exq e
 have s:=dcf k
 refine Jq<|Jh3 [2,2,2,2] 2 R<|Jo3 R U29 R R<|Jb 1 R<|Jx2 R s<|Jc1<|Jt<|Jt ?_
 cases h
 have h:=e
 refine Jb1 ?_
 cases h
 exact Jw1 _ ⟨m,R,c.wk R,R⟩ KN
 obtain⟨X,h,e⟩:=BI h;unfold gX at h
 have s:=dct k
 refine Jq<|Jh3 [2,2,2,2] 2 R<|Jo3 R U29 R R<|Jb 1 R<|Jw2 R s<|Js<|Jp<|Jq<|Jv<|Jq<|Js1 (J:=m) [0,2] none [(1,2),(2,2),(3,2),(0,0),(4,0),(5,1),(6,2)] [] (by kernel_rfl) (by kernel_rfl) λau i=>Jn 2 R<|Ob h λZ B h=>Jd3 R p B U29 Z67<|Jg R (Jd4 (haC (y.stp<|T4 d b c i).cells R) I28 Z28 R) ?_
 obtain⟨af,U,S⟩:=((p.stp (T5 j d b c i))).gSt B
 obtain⟨ac,an,ad,ao,rfl,O,P⟩:=Clause.un U
 refine Jg R (Jd4 (haC S R) I67 Z67 R)<|Ob h λaa V h=>Js3 R call150 (pc (J:=Mk m) (p0:=p0) (p1:=Z) (Jj3 O) (Jj3 P) V) ?_
 rintro _ av ⟨aj,rfl,M⟩
 obtain⟨v,o,am⟩:=Ji M 5 R
 refine⟨(o.cl R),Jn 1 R<|Jt1<|Jd ?_⟩
 revert h
 cases ai:(!aa)
 refine JF λh=>Jy R<|Js<|Jz<|Jp<|Jg3 R<|wr2 A k p.len_le ▸ ?_
 cases h
 exact Ja2 ⟨v,a+1,R,(T3 c i o).wk R,nxz A,nxm k,e⟩ R
 refine JT λh=>Jx R<|Jf3 R<|Ju<|Ja1<|Jw<|Jw ?_
 cases h
 obtain rfl:=Ds e
 have h:=yL z
 refine Ja1<|Jr2<|Jw<|Jb2 (l:=[.tmp 4]) results75 (Jq2 R R) R ?_
 cases h
 exact⟨v,R,(q.stp<|T6 j d b c i o)⟩
 rintro _ aq ⟨I,rfl,L,rfl⟩
 have h:=yI z
 refine Jp<|Jf3 R<|Ju<|Jb2 (l:=[.tmp 4]) results75 (Jq2 R R) R ?_
 cases h
 exact⟨I,R,(q.stp<|T4 j d b L)⟩
 refine JT λh=>Jx R<|Jf3 R<|Ju<|Jw<|Jb2 (l:=[.tmp 4]) results75 (Jq2 R R) R ?_
 cases h
 exact⟨g,R,(q.stp<|T3 j d b)⟩
theorem od {p0:Sig}{ao ai ak am}{p1:Clause}(bv:Rd Ri J w 0 ao ai p1.A) (bw:Rd Ri J w 0 ak am p1.B){r:Det}(h:kz p0 p1=some r):Ret prog 122 [.agg #[vi p0.In,vi p0.Out],.agg #[vi p1.Kind,.slice ao p1.A.length ai,.slice ak p1.B.length am]] w (λbJ a=>∃(b:Col) (aJ:Option Addr) (aL:Nat) (aK:Option Addr) (aM:Nat),bJ= .agg #[.slice aJ r.Next.length aL,.slice aK r.Pairs.length aM]/\Ent J w b a/\Oc (Ep.own E6 2) 37 b a 2 aJ aL r.Next/\Oc Pair.ep127 127 b a 3 aK aM r.Pairs):=by
 unfold kz at h
 refine Jl3 J func122 R ntmps122 R λaD=>Je [1,1,1] R<|Jt3 J 2 R λbU ch aV C bm=>Tv<|Jt3 aV 3 R λbX ct aX x bt=>Tv<|Ju3 aX 4 R X71 R λbY cz aQ m aq=>Tv<|Jd<|Jq<|Je [1,1,1,2] R ?_
 have au:=bm.stp (x.tr m)
 refine Jc4 tv R (Jd4 (haE au.cells) I28 Z28 R) ?_
 have av:=bt.stp m
 refine Jc4 tv R (Jd4 (haE av.cells) I67 Z67 R)<|Ob h λbK bC h=>?_
 have aw:=bv.stp (T3 C x m)
 have ax:=bw.stp (T3 C x m)
 refine Js3 R call150 (pc (J:=Mk aQ) (p0:=p0) (p1:=p1) (Jj3 aw) (Jj3 ax) bC) ?_
 rintro _ cp ⟨b4,rfl,a9⟩
 obtain⟨N,k,b9⟩:=Ji a9 5 R
 refine Tv<|Jb 1 R ?_
 revert h
 cases b1:(!bK)
 refine JF λh=>Jy R<|Js<|Jp<|Je [2,1,1,1,2,1,1] R<|Je3 R U67 R Z2 ?_
 have ay:=av.stp k
 refine Jc3 R I2 (ay.ld 0 R R)<|Ob h λg bD h=>Js3 R call187 (uX (J:=Mk N) bD) ?_
 rintro _ aN ⟨b5,aj,an,al,ah,rfl,ba,bk,bl⟩
 obtain⟨O,t,aG⟩:=Ji ba 7 R
 refine Tv<|Jx3 O Pair.ep127 11 [9,10] (parts:=[(0,.tmp 16)]) (cells:=[.slice aj g.Ask.length an,.slice al g.Give.length ah]) (xs:=([g]:VP)) R Y69 cG R (Jf4 ⟨[.slice aj g.Ask.length an],[.slice al g.Give.length ah],Zl O aN [9],Zl O aN [10],R,Zl.sp (l1:=[9]) (l2:=[10]) R,Zl.sr (l1:=[9]) (l2:=[10]),⟨_,_,R,(bk.mx (bZ _) aG R (R:7+2=9))⟩,⟨_,_,R,(bl.mx (bZ _) aG R (R:7+3=10))⟩⟩) λz A cr aW u bn=>Tv<|Jf R (Jj4 [.slice none 0 0,.slice z ([g]:VP).length A] R)<|Ju3 aW 12 R X71 R λap cs B n bo=>Tv<|Ji4 B 12 R Z71 R bo R λaO o bp=>Tv<|Jd<|Jq<|Jf3 R<|Ob h λaH bA bx=>?_
 clear h
 refine Jp3 [4,5] (λi j a=>∃b,∃M:Int×VV,∃H I,j=i/\Stp [12,13,16,17] B aO b a/\Oc (Ep.own E6 2) 37 b a 13 H I M.2/\Bc b a 12 ap 71 [.slice H M.2.length I,.slice z ([g]:VP).length A]/\aH=Dv M) ?_ ?_
 refine Jv<|Jq3 [2,3,4,5] (λe i j a=>∃b,∃c:Int×VV,∃D F,j=(6,vi c.1)::i/\Stp [12,13,16,17] B aO b a/\Oc (Ep.own E6 2) 37 b a 13 D F c.2/\Bc b a 12 ap 71 [.slice D c.2.length F,.slice z ([g]:VP).length A]/\cd (g9 p0 p1) e c=some aH) ⟨_,_,⟨B,((0:Int),([]:VV)),none,0,R,Jk3,Dt,bp,bA⟩,(KM R)⟩ ?_
 rintro e _ cv ⟨aY,c,D,F,rfl,v,az,aA,h⟩
 rcases e with _|e
 cases h
 obtain⟨ce,h,aE⟩:=BI h;unfold g9 at h
 refine Jq<|Jh3 [2,2,1,1,2] 1 R<|Je3 R U67 R Z2 ?_
 have aB:=ay.stp (T5 t u n o v)
 refine Jc3 R I2 (aB.ld 0 R R)<|Ob h λbL bE h=>Js3 R call188 (sJ (J:=Mk aY) bE) ?_
 rintro _ cw ⟨b6,rfl,bb⟩
 obtain⟨aa,d,ca⟩:=Ji bb 14 R
 refine Tv<|Jb 1 R ?_
 revert h
 cases b2:decide (c.1<bL)
 refine JF λh=>Jy R<|Jc1<|Jt<|Jt ?_
 cases h
 have h:=aE
 refine Jb1 ?_
 cases h
 exact Jw1 _ ⟨aa,(c.1,c.2),D,F,R,(v.tr d).wk R,(az.stp d),(aA.stp d),R⟩<|KM R
 refine JT λh=>Jx R<|Js<|Jp<|Jq<|Jv<|Je [1,2] R<|Jy3 aa E6 16 R Y37 bS R λa6 a4 aP P p bs=>Tv<|Jb 1 R<|Jq<|Jf3 R<|Ob h λaI bB bz=>?_
 clear h
 refine Jp3 [2,3,4,5,6] (λi j a=>∃b,∃s:VI×Int,∃L E,j=(7,.slice L s.1.length E)::i/\Stp [16] P aP b a/\Oc E6 2 b a 16 L E s.1/\aI=Dv s) ?_ ?_
 refine Jv<|Jq3 [2,3,4,5,6] (λe i j a=>∃b,∃f:VI×Int,∃G K,j=(7,.slice G f.1.length K)::(8,vi f.2)::i/\Stp [16] P aP b a/\Oc E6 2 b a 16 G K f.1/\cd (hU p0 p1 c) e f=some aI) ⟨_,_,⟨P,(([]:VI),(0:Int)),a6,a4,R,Jk3,bs,bB⟩,(KM R)⟩ ?_
 rintro e _ cy ⟨a0,f,G,K,rfl,y,aC,h⟩
 rcases e with _|e
 cases h
 obtain⟨cf,h,aF⟩:=BI h;unfold hU at h
 refine Jq<|Jh3 [2,1,1,2] 1 R<|Jc4 tv R (Jd4 (haE (au.stp<|T9 k t u n o v d p y).cells) I28 Z28 R)<|Ob h λbM bF h=>Js3 R call120 (g7 (J:=Mk a0) (p0:=p0) bF) ?_
 rintro _ cA ⟨b7,rfl,bc⟩
 obtain⟨ab,q,cb⟩:=Ji bc 17 R
 refine Tv<|Jb 1 R ?_
 revert h
 cases b0:decide (f.2<bM)
 refine JF λh=>Jy R<|Jc1<|Jt<|Jt ?_
 cases h
 have h:=aF
 refine Jb1 ?_
 cases h
 exact Jw1 _ ⟨ab,(f.1,f.2),G,K,R,(y.tr q).wk R,(aC.stp q),R⟩<|KM R
 have ac:=(T10 k t u n o v d p y q)
 refine JT λh=>Jx R<|Js<|Jp<|Jq<|Jv<|Ji3 [2,1,2,2,1,1,1,2] 1 R<|Jc4 tv R (Jd4 (haE (aB.stp<|T4 d p y q).cells) I67 Z67 R)<|Jn 2 R<|Ob h λbN bG h=>Js3 R call189 (uW (J:=Mk ab) (p0:=p1) (Jj3<|aw.stp ac) (Jj3<|ax.stp ac) bG) ?_
 rintro _ ci ⟨b3,rfl,a8⟩
 obtain⟨aR,ad,b8⟩:=Ji a8 19 R
 refine Tv<|Je4 aR 21 [bN] R Y37 bS R λbR bQ cj aS ae bd=>Tv<|Ob h λbO bH h=>Jz3 aS E6 16 [] R Y37 bS R (aC.stp<|T3 q ad ae) (Du (cc _) bd.rdc) bV bH R λa5 a3 ck aT a1 be=>Tv<|Jc 1 R<|Jz<|Jp<|Jg3 R ?_
 cases h
 exact Ja2 ⟨aT,(bO,((Dr .i64<|f.2+1):Int)),a5,a3,R,(T5 y q ad ae a1).wk R,be,aF⟩ R
 rintro _ cx ⟨aZ,s,L,E,rfl,U,bu,rfl⟩
 have h:=yI bz
 refine Jp<|Ja [2,1,2,1,1,2,1] R<|Je3 R U71 R Z31 ?_
 have ar:=aA.stp (T3 d p U)
 refine Jc3 R I31 (ar.ld 0 R R)<|Jn 1 R<|Jx3 aZ (Ep.own E6 2) 17 [16] (parts:=[(0,.tmp 42)]) (cells:=[.slice L s.1.length E]) (xs:=([s.1]:VV)) R Y31 bW R (Jf4 ⟨_,_,R,bu⟩) λbP bT cl aU Q bf=>Tv<|Ob h λX bI h=>Jz3 aU (Ep.own E6 2) 13 [17] R Y31 bW R (az.stp<|T4 d p U Q) bf.src (c9 R) bI R λV W cm Y af bg=>Tv<|Je3 R U71 R Z31<|Jv3 Y 12 (off:=0) (vc:=[.slice V X.length W]) (cs':=[.slice V X.length W,.slice z ([g]:VP).length A]) R Z31 R (ar.stp<|Q.tr af) R λcn ag bh=>Tv<|Jo<|Jz<|Jp<|Jg3 R ?_
 cases h
 exact Ja2 ⟨Y,(((Dr .i64<|c.1+1):Int),X),V,W,R,(T7 v d p U Q af ag).wk R,(bg.stp ag),bh,aE⟩ R
 rintro _ cu ⟨Z,M,H,I,rfl,T,bq,br,rfl⟩
 have h:=yI bx
 refine Jp<|Je [1,1] R<|Jc4 tv R (Jd4 (haE br.cells) I71 Z71 R)<|Ji4 Z 4 R Z71 R (aq.stp<|T6 k t u n o T) R λco S bi=>Tv<|Jd<|Ju<|Jb2 (l:=[.cell 4 71]) results122 (cg R bi I71 Z71 R R) R ?_
 cases h
 exact⟨(λa7=>ren [(13,2),(11,3)]<|Z a7),H,I,z,A,R,((aD.stp<|T10 C x m k t u n o T S).map (ren [(13,2),(11,3)]) R R),((bq.stp S).map (ren [(13,2),(11,3)]) R R),((bn.stp<|T4 n o T S).map (ren [(13,2),(11,3)]) R R)⟩
 refine JT λh=>Jx R<|Je [2,1] R<|Jf R (Jj4 [.slice none 0 0,.slice none 0 0] R)<|Ji4 N 4 R Z71 R (aq.stp k) R λcq a2 bj=>Tv<|Jd<|Ju<|Jw<|Jb2 (l:=[.cell 4 71]) results122 (cg R bj I71 Z71 R R) R ?_
 cases h
 exact⟨N,none,0,none,0,R,(aD.stp<|T5 C x m k a2),Dt,Dt⟩
theorem qe {z H}{p0:VP}{p1:Int}(o:Rd Pair.rp J w 0 z H p0){r:Bool}(h:lh p0 p1=some r):Ret prog 133 [.slice z p0.length H,vi p1] w (Pvb J w r):=by
 unfold lh at h
 refine Jl3 J func133 R ntmps133 R λp=>Jf3 R<|Jq<|Jh3 [2,1,2,2,2,2,2,2] 1 R<|Ob h λaj ae h=>Js3 R C59 (dD (J:=Mk J) ae) ?_
 rintro _ ag ⟨az,rfl,Q⟩
 obtain⟨M,i,aE⟩:=Ji Q 2 R
 refine Tv<|Jn 2 R<|Ob h λE h W=>Jg4 [0,1] 13 E M ag [(4,2),(5,2),(6,2),(7,2)] [] tv ?_ ?_
 revert h
 cases ay:(!aj)
 refine JF λh=>Jn 1 R<|Jo3 R U69 R R<|Jn 2 R ?_
 cases h
 exact Jh4 tv R
 refine JT λh=>Jn 4 R ?_
 cases h
 exact Jh4 tv R
 rintro _ I _ ⟨rfl,e,f⟩
 have h:=W
 refine Jd ?_
 revert h
 cases av:E
 refine JF λh=>Jy R<|Js<|Jp<|Jq<|Jf3 R<|Ob h λG Z A=>?_
 clear h
 refine Jx1 (λk a=>∃t,k=[]/\Stp [] e I t a/\G=Dv ()) ?_ ?_
 refine Jv<|Jq3 [0,1] (λd K k a=>∃t b,k=(5,vi b)::K/\Stp [] e I t a/\0<=b/\Dq ((p0.length:Int)-b)=d/\cntM (jJ p0 p1) d b ()=some G) ⟨_,_,⟨e,0,R,Jk3,(by decide),(by simp),Z⟩,(KM R)⟩ ?_
 rintro d _ aK ⟨u,b,rfl,g,B,j,h⟩
 rcases d with _|d
 have c:=h;obtain⟨af,h⟩:=exq c
 have q:=dcf j
 refine Jq<|Jh3 [2,2,2,2] 2 R<|Jo3 R U69 R R<|Jb 1 R<|Jx2 R q<|Jc1<|Jt<|Jt ?_
 cases h
 have h:=c
 refine Jb1 ?_
 cases h
 exact Jw1 _ ⟨u,R,g.wk R,R⟩ KN
 obtain⟨af,h,c⟩:=BI h;unfold jJ at h
 have q:=dct j
 refine Jq<|Jh3 [2,2,2,2] 2 R<|Jo3 R U69 R R<|Jb 1 R<|Jw2 R q<|Js<|Jp<|Jq<|Jv<|Jh3 [2,2,2,2,1,2,1,2,2,2,2,2,2,1,2,1,2,2] 2 R<|Ob h λaN C h=>Jd3 R o C U69 Z127<|Je3 R U127 R Z37 ?_
 have n:=o.stp (T3 i f g)
 obtain⟨ap,aa,X⟩:=(n).gSt C
 obtain⟨al,aF,am,aG,rfl,T,ar⟩:=Pair.un aa
 refine Jc3 R I37 (λa s=>X a s 0 _ R)<|Jn 1 R<|Ob h λai ac h=>Js3 R call80 (px (J:=Mk u) (Jj3 T) ac) ?_
 rintro _ ah ⟨aA,rfl,P⟩
 obtain⟨v,m,aC⟩:=Ji P 4 R
 refine Tv<|Jn 2 R<|Ob h λF h V=>Jg4 [0,1,5] 37 F v ah [(9,2),(10,2),(11,2),(12,2),(13,1),(14,2),(15,1),(16,2),(17,2)] [] tv ?_ ?_
 revert h
 cases aw:(!ai)
 refine JF λh=>Jn 2 R<|Ob h λaO D h=>Jd3 R n D U69 Z127<|Je3 R U127 R Z37 ?_
 obtain⟨aq,ab,Y⟩:=((n.stp m)).gSt D
 obtain⟨an,aH,ao,aI,rfl,au,U⟩:=Pair.un ab
 refine Jc3 R I37 (λa s=>Y a s 1 _ R)<|Jn 1 R<|Ob h λaP ad h=>Js3 R call80 (px (J:=Mk v) (Jj3 U) ad) ?_
 rintro _ aL ⟨aB,rfl,S⟩
 obtain⟨ak,O,aD⟩:=Ji S 6 R
 refine Tv<|Jn 2 R ?_
 cases h
 exact Jv1 _ tv ⟨R,_,O.wk R⟩<|KM R
 refine JT λh=>Jn 4 R<|Ja4 R<|Jn 1 R<|Ja4 R<|Jn 2 R ?_
 cases h
 exact Jh4 tv R
 rintro _ aM _ ⟨rfl,x,y⟩
 have h:=V
 refine Jd ?_
 revert h
 cases ax:F
 refine JF λh=>Jy R<|Js<|Jz<|Jp<|Jg3 R<|wr2 B j o.len_le ▸ ?_
 cases h
 exact Ja2 ⟨x,b+1,R,(T3 g m y).wk R,nxz B,nxm j,c⟩ R
 refine JT λh=>Jx R<|Jf3 R<|Ju<|Ja1<|Jw<|Jw ?_
 cases h
 obtain rfl:=Ds c
 have h:=yL A
 refine Ja1<|Jr2<|Jw<|Jb2 (l:=[.tmp 4]) results133 (Jq2 R R) R ?_
 cases h
 exact⟨x,R,(p.stp<|T5 i f g m y)⟩
 rintro _ aJ ⟨L,rfl,N,rfl⟩
 have h:=yI A
 refine Jp<|Jf3 R<|Ju<|Jb2 (l:=[.tmp 4]) results133 (Jq2 R R) R ?_
 cases h
 exact⟨L,R,(p.stp<|T3 i f N)⟩
 refine JT λh=>Jx R<|Jf3 R<|Ju<|Jw<|Jb2 (l:=[.tmp 4]) results133 (Jq2 R R) R ?_
 cases h
 exact⟨e,R,(p.stp<|i.tr f)⟩
theorem tp {z x B y A C}{p0:Parity}(U:Rd Ri J w 0 z x p0.Arena.Owner) (V:Rd Rs J w 0 B y p0.Arena.Next) (n:Rd Ri J w 0 A C p0.Prio){r:Bool}(h:i7 p0=some r):Ret prog 138 [.agg #[.slice z p0.Arena.Owner.length x,.slice B p0.Arena.Next.length y,.slice A p0.Prio.length C]] w (Pvb J w r):=by
 unfold i7 at h
 refine Jl3 J func138 R ntmps138 R λo=>Je [1,2] R<|Jt3 J 2 R λae am O c j=>Tv<|Jb 1 R<|Jq<|Je [2,1,1,2,2,2,1,2,2,2,1,2,2,2] R<|Je3 R U79 R Z75<|Jc4 tv R (Jd4 (haE<|j.lds 0 2 R) I75 Z75 R)<|Ob h λad Z h=>Js3 R call132 (qd (J:=Mk O) (p0:=p0.Arena) (Jj3<|U.stp c) (Jj3<|V.stp c) Z) ?_
 rintro _ ab ⟨aj,rfl,T⟩
 obtain⟨N,a,ak⟩:=Ji T 3 R
 refine Tv<|Jn 2 R<|Ob h λI h W=>Jg4 [1] 17 I N ab [(5,2),(6,1),(7,2),(8,2),(9,2),(10,1),(11,2),(12,2),(13,2)] [] tv ?_ ?_
 revert h
 cases af:(!ad)
 refine JF λh=>Je3 R U79 R Z37 ?_
 have D:=j.stp a
 refine Jc3 R I37 (D.ld 2 R R)<|Jo3 R U37 R R<|Je3 R U79 R Z75<|Je3 R U75 R Z37<|Jc3 R I37 (D.ld 0 R R)<|Jo3 R U37 R R<|Jn 2 R ?_
 cases h
 exact Jh4 tv R
 refine JT λh=>Jn 1 R<|Ja4 R<|Jn 3 R<|Ja4 R<|Jn 3 R ?_
 cases h
 exact Jh4 tv R
 rintro _ L _ ⟨rfl,i,b⟩
 have h:=W
 refine Jd ?_
 revert h
 cases ag:I
 refine JF λh=>Jy R<|Js<|Jp<|Jq<|Jf3 R<|Ob h λK X F=>?_
 clear h
 refine Jx1 (λm q=>∃s,m=[]/\Stp [] i L s q/\K=Dv ()) ?_ ?_
 refine Jv<|Jq3 [1] (λg M m q=>∃s e,m=(3,vi e)::M/\Stp [] i L s q/\0<=e/\Dq ((p0.Prio.length:Int)-e)=g/\cntM (iL p0) g e ()=some K) ⟨_,_,⟨i,0,R,Jk3,(by decide),(by simp),X⟩,(KM R)⟩ ?_
 rintro g _ ao ⟨t,e,rfl,d,G,k,h⟩
 rcases g with _|g
 have f:=h;obtain⟨aa,h⟩:=exq f
 have p:=dcf k
 refine Jq<|Jh3 [2,2,1,2,2] 1 R<|Je3 R U79 R Z37<|Jc3 R I37 ((j.stp<|T3 a b d).ld 2 R R)<|Jo3 R U37 R R<|Jb 1 R<|Jx2 R p<|Jc1<|Jt<|Jt ?_
 cases h
 have h:=f
 refine Jb1 ?_
 cases h
 exact Jw1 _ ⟨t,R,d.wk R,R⟩ KN
 obtain⟨aa,h,f⟩:=BI h;unfold iL at h
 have p:=dct k
 refine Jq<|Jh3 [2,2,1,2,2] 1 R<|Je3 R U79 R Z37 ?_
 have E:=j.stp (T3 a b d)
 refine Jc3 R I37 (E.ld 2 R R)<|Jo3 R U37 R R<|Jb 1 R<|Jw2 R p<|Js<|Jp<|Jq<|Jv<|Je [2,1,2,2,1,1,2] R<|Je3 R U79 R Z37<|Jc3 R I37 (E.ld 2 R R)<|Jn 1 R<|Ob h λaq H h=>Jd3 R n H U37 Z2<|Jc3 R I2 ((n.stp<|T4 c a b d).gInt H)<|Ob h λac Y h=>Js3 R C59 (dD (J:=Mk t) Y) ?_
 rintro _ ap ⟨ai,rfl,S⟩
 obtain⟨u,v,al⟩:=Ji S 5 R
 refine Tv<|Jb 1 R ?_
 revert h
 cases ah:(!ac)
 refine JF λh=>Jy R<|Js<|Jz<|Jp<|Jg3 R<|wr2 G k n.len_le ▸ ?_
 cases h
 exact Ja2 ⟨u,e+1,R,(d.tr v).wk R,nxz G,nxm k,f⟩ R
 refine JT λh=>Jx R<|Jf3 R<|Ju<|Ja1<|Jw<|Jw ?_
 cases h
 obtain rfl:=Ds f
 have h:=yL F
 refine Ja1<|Jr2<|Jw<|Jb2 (l:=[.tmp 2]) results138 (Jq2 R R) R ?_
 cases h
 exact⟨u,R,(o.stp<|T5 c a b d v)⟩
 rintro _ an ⟨P,rfl,Q,rfl⟩
 have h:=yI F
 refine Jp<|Jf3 R<|Ju<|Jb2 (l:=[.tmp 2]) results138 (Jq2 R R) R ?_
 cases h
 exact⟨P,R,(o.stp<|T4 c a b Q)⟩
 refine JT λh=>Jx R<|Jf3 R<|Ju<|Jw<|Jb2 (l:=[.tmp 2]) results138 (Jq2 R R) R ?_
 cases h
 exact⟨i,R,(o.stp<|T3 c a b)⟩
theorem nV {p0:Sig}{M L I K}{p1:Machine}(z:Rd Rs J w 0 M L p1.Next) (p:Rd Rs J w 0 I K p1.Out){r:Bool}(h:jg p0 p1=some r):Ret prog 83 [.agg #[vi p0.In,vi p0.Out],.agg #[.slice M p1.Next.length L,.slice I p1.Out.length K]] w (Pvb J w r):=by
 unfold jg at h
 refine Jl3 J func83 R ntmps83 R λA=>Je [1,1,2] R<|Jt3 J 2 R λaR ba ae j an=>Tv<|Jt3 ae 3 R λaS aH ah i y=>Tv<|Jb 1 R<|Je [2,1,2,2] R<|Je3 R U33 R Z31<|Jc3 R I31 (y.ld 0 R R)<|Jo3 R U31 R R<|Jb 1 R<|Jq<|Jh3 [2,2,2,2,2,2,2,2,1,2,2,1,2,2,2] 3 R<|Ob h λV h av=>Jg4 [2,3,5] 16 V ah aH [(3,2),(4,2),(5,2)] [(6,2),(7,2),(8,1),(9,2),(10,2),(11,1),(12,2),(13,2),(14,2)] tv ?_ ?_
 revert h
 cases aU:decide ((p1.Next.length:Int)<1)
 refine JF λh=>Jn 3 R ?_
 cases h
 exact Jh4 tv R
 refine JT λh=>Jn 3 R ?_
 cases h
 exact Jh4 tv R
 rintro _ aF _ ⟨rfl,ad,c⟩
 have h:=av
 refine Jn 1 R<|Ob h λW h ap=>Jg4 [2,3,5] 25 W ad aF [(7,2),(8,1),(9,2),(10,2),(11,1),(12,2),(13,2),(14,2)] [] tv ?_ ?_
 revert h
 cases aV:V
 refine JF λh=>Je3 R U33 R Z31 ?_
 have N:=y.stp c
 refine Jc3 R I31 (N.ld 1 R R)<|Jo3 R U31 R R<|Je3 R U33 R Z31<|Jc3 R I31 (N.ld 0 R R)<|Jo3 R U31 R R<|Jn 2 R ?_
 cases h
 exact Jh4 tv R
 refine JT λh=>Jn 1 R<|Ja4 R<|Jn 2 R<|Ja4 R<|Jn 3 R ?_
 cases h
 exact Jh4 tv R
 rintro _ ab _ ⟨rfl,o,e⟩
 have h:=ap
 refine Jd ?_
 revert h
 cases aW:W
 refine JF λh=>Jy R<|Js<|Jp<|Jq<|Je [2,1,2,2] R<|Je3 R U33 R Z31 ?_
 have x:=y.stp (c.tr e)
 refine Jc3 R I31 (x.ld 0 R R)<|Jo3 R U31 R R<|Jb 1 R<|Ob h λaa az P=>?_
 clear h
 refine Jx1 (λt C=>∃D,t=[]/\Stp [] o ab D C/\aa=Dv ()) ?_ ?_
 refine Jv<|Jq3 [2,3,5,27,28] (λn ac t C=>∃D k,t=(29,vi k)::ac/\Stp [] o ab D C/\0<=k/\Dq ((p1.Next.length:Int)-k)=n/\cntM (gO p0 p1) n k ()=some aa) ⟨_,_,⟨o,0,R,Jk3,(by decide),(by simp),az⟩,(KM R)⟩ ?_
 rintro n _ bc ⟨s,k,rfl,d,Q,q,h⟩
 rcases n with _|n
 have m:=h;obtain⟨aE,h⟩:=exq m
 have B:=dcf q
 refine Jf3 R<|Jq<|Jx2 R B<|Jc1<|Jt<|Jt ?_
 cases h
 have h:=m
 refine Jb1 ?_
 cases h
 exact Jw1 _ ⟨s,R,d.wk R,R⟩ KN
 obtain⟨aE,h,m⟩:=BI h;unfold gO at h
 have B:=dct q
 refine Jf3 R<|Jq<|Jw2 R B<|Js<|Jp<|Jq<|Jv<|Jh3 [2,2,1,2,2] 1 R<|Ob h λaK S h=>Jd3 R z S U31 Z37 ?_
 obtain⟨aO,a7,am,aw⟩:=(z.stp (T5 j i c e d)).gSl S
 refine Jc3 R I37 aw<|Jb 2 R<|Jq<|Js1 (J:=s) [0,2,3] none [(0,2),(1,2),(2,0),(3,1),(4,2),(5,2),(6,2),(8,2),(12,2),(13,2),(7,0),(9,2),(10,0),(11,2),(14,2),(15,2),(16,2),(17,2),(18,2),(19,1),(20,2),(21,2),(22,2),(23,2),(25,2),(28,2),(24,0),(26,2),(27,0),(29,0),(30,2),(31,1),(32,2),(33,2)] [] (by kernel_rfl) (by kernel_rfl) λbd f=>Jn 1 R<|Jo3 R U37 R R ?_
 have O:=an.stp (T5 i c e d f)
 refine Jg R (Jd4 (haC O.cells R) I28 Z28 R)<|Ob h λaL aA h=>Js3 R call46 (eK (J:=Mk s) (p0:=p0) aA) ?_
 rintro _ aG ⟨a1,rfl,aj⟩
 obtain⟨ag,a,a4⟩:=Ji aj 4 R
 refine⟨(a.cl R),Jn 2 R<|Ob h λX h aq=>Jg4 [2,3,5,6,7,27,28,29] 49 X ag aG [(6,2),(8,2),(12,2),(13,2),(7,0),(9,2),(10,0),(11,2),(14,2),(15,2)] [(16,2),(17,2),(18,2),(19,1),(20,2),(21,2),(22,2),(23,2),(25,2),(28,2),(24,0),(26,2),(27,0),(29,0),(30,2),(31,1),(32,2),(33,2)] (a.cl R) ?_ ?_⟩
 revert h
 cases aX:((aK.length:Int) !=aL)
 refine JF λh=>Je3 R U33 R Z31<|Jn 2 R<|Jo3 R U37 R R<|Jg R (Jd2 I31 R R<|hvC ((x.stp<|d.tr f).ld 1 R R) R)<|Ob h λbh T h=>Jd3 R p T U31 Z37 ?_
 obtain⟨aP,a8,aT,ax⟩:=(p.stp (T6 j i c e d f)).gSl T
 refine Jg R (Jd2 I37 R R<|hvC ax R)<|Jo3 R U37 R R<|Jn 2 R ?_
 cases h
 exact Jv1 _ (a.cl R) ⟨R,_,Jk3⟩<|KM R
 refine JT λh=>Jn 4 R<|Jb4 R<|Jn 1 R<|Jb4 R<|Jn 3 R ?_
 cases h
 exact Jv1 _ (a.cl R) ⟨R,_,Jk3⟩<|KM R
 rintro _ aI _ ⟨rfl,E,b⟩
 have h:=aq
 refine Jn 1 R<|Ob h λY h ar=>Jg4 [2,3,5,6,27,28,29] 55 Y E aI [(17,2),(18,2),(19,1),(20,2),(21,2)] [(22,2),(23,2),(25,2),(28,2),(24,0),(26,2),(27,0),(29,0),(30,2),(31,1),(32,2),(33,2)] ((a.tr b).cl R) ?_ ?_
 revert h
 cases aY:X
 refine JF λh=>Jn 2 R<|Ob h λbi aB h=>Js3 R call159 (kO (J:=Mk E) (Jj3<|am.stp<|T3 f a b) aB) ?_
 rintro _ be ⟨a2,rfl,ak⟩
 obtain⟨aM,u,a5⟩:=Ji ak 6 R
 refine⟨((T3 a b u).cl R),Jn 2 R ?_⟩
 cases h
 exact Jv1 _ ((T3 a b u).cl R) ⟨R,_,u.wk R⟩<|KM R
 refine JT λh=>Jn 2 R<|Ja4 R<|Jn 2 R ?_
 cases h
 exact Jv1 _ ((a.tr b).cl R) ⟨R,_,Jk3⟩<|KM R
 rintro _ aJ _ ⟨rfl,F,g⟩
 have h:=ar
 refine Jn 1 R<|Ob h λZ h au=>Jg4 [2,3,5,27,28,29] 67 Z F aJ [(23,2),(25,2),(28,2),(24,0),(26,2),(27,0),(29,0),(30,2),(31,1),(32,2),(33,2)] [] ((T3 a b g).cl R) ?_ ?_
 revert h
 cases aZ:Y
 refine JF λh=>Je3 R U33 R Z31<|Jn 1 R<|Je3 R U28 R Z2<|Jg R (Jd2 I31 R R<|hvC ((x.stp<|d.tr f).ld 1 R R) R)<|Ob h λbj U h=>Jd3 R p U U31 Z37 ?_
 obtain⟨aQ,a9,ao,ay⟩:=(p.stp (T6 j i c e d f)).gSl U
 refine Jg R (Jd2 I37 R R<|hvC ay R)<|Jg R (Jd2 I2 R R<|hvC (O.ld 1 R R) R)<|Ob h λ_z64 aD h=>Jf R (sw R R R<|vX aD)<|Ob h λbk aC h=>Js3 R call159 (kO (J:=Mk F) (Jj3<|ao.stp<|T3 a b g) aC) ?_
 rintro _ bf ⟨a3,rfl,al⟩
 obtain⟨aN,v,a6⟩:=Ji al 6 R
 refine⟨((T4 a b g v).cl R),Jn 2 R ?_⟩
 cases h
 exact Jv1 _ ((T4 a b g v).cl R) ⟨R,_,v.wk R⟩<|KM R
 refine JT λh=>Jn 3 R<|Jb4 R<|Jn 1 R<|Jb4 R<|Jb4 R<|Jn 1 R<|Ja4 R<|Jn 2 R ?_
 cases h
 exact Jv1 _ ((T3 a b g).cl R) ⟨R,_,Jk3⟩<|KM R
 rintro _ bg _ ⟨rfl,G,H⟩
 have h:=au
 refine Jt1<|Jd ?_
 revert h
 cases a0:Z
 refine JF λh=>Jy R<|Js<|Jz<|Jp<|Jg3 R<|wr2 Q q z.len_le ▸ ?_
 cases h
 exact Ja2 ⟨G,k+1,R,(T6 d f a b g H).wk R,nxz Q,nxm q,m⟩ R
 refine JT λh=>Jx R<|Jf3 R<|Ju<|Ja1<|Jw<|Jw ?_
 cases h
 obtain rfl:=Ds m
 have h:=yL P
 refine Ja1<|Jr2<|Jw<|Jb2 (l:=[.tmp 4]) results83 (Jq2 R R) R ?_
 cases h
 exact⟨G,R,(A.stp<|T10 j i c e d f a b g H)⟩
 rintro _ bb ⟨af,rfl,ai,rfl⟩
 have h:=yI P
 refine Jp<|Jf3 R<|Ju<|Jb2 (l:=[.tmp 4]) results83 (Jq2 R R) R ?_
 cases h
 exact⟨af,R,(A.stp<|T5 j i c e ai)⟩
 refine JT λh=>Jx R<|Jf3 R<|Ju<|Jw<|Jb2 (l:=[.tmp 4]) results83 (Jq2 R R) R ?_
 cases h
 exact⟨o,R,(A.stp<|T4 j i c e)⟩
theorem pU {O L I K N M}{p0:watch}{P}(ar:Rd Rs J w 0 O L p0.next) (au:Rd Rs J w 0 I K p0.letters) (C:Rd Pair.rp J w 0 N M p0.pairs) (av:Bc J w 0 P 172 [.slice O p0.next.length L,.slice I p0.letters.length K,.slice N p0.pairs.length M]){r:VI}(h:gT p0=some r):Ret prog 74 [.pointer (some ⟨P,0,none⟩)] w (Pvs E6 2 J w r):=by
 unfold gT at h
 refine Jl3 J func74 R ntmps74 R λaw=>Jf3 R<|Je [1,2] R<|Jy3 J E6 2 R Y37 bS R λae aF W y j al=>Tv<|Jb 1 R<|Jq<|Jh3 [2,2,2,1,2,2] 1 R<|Jf R (bX R R)<|Je3 R U172 R Z69 ?_
 have S:=av.stp j
 refine Jc3 R I69 (S.ld 2 R R)<|Jo3 R U69 R R<|Jb 1 R<|Ob h λV aA ay=>?_
 clear h
 refine Jp3 [0] (λg i c=>∃d,∃x:VI,∃p s,i=(3,.slice p x.length s)::g/\Stp [2,3] y W d c/\Oc E6 2 d c 2 p s x/\V=Dv x) ?_ ?_
 refine Jv<|Jq3 [0,10,11] (λn g i c=>∃d e,∃o:VI,∃k m,i=(3,.slice k o.length m)::(12,vi e)::g/\Stp [2,3] y W d c/\Oc E6 2 d c 2 k m o/\0<=e/\Dq ((p0.pairs.length:Int)-e)=n/\cntM (eE p0) n e o=some V) ⟨_,_,⟨y,0,([]:VI),ae,aF,R,Jk3,al,(by decide),(by simp),aA⟩,(KM R)⟩ ?_
 rintro n _ aX ⟨F,e,o,k,m,rfl,f,B,T,u,h⟩
 rcases n with _|n
 have v:=h;obtain⟨aE,h⟩:=exq v
 have D:=dcf u
 refine Jf3 R<|Jq<|Jx2 R D<|Jc1<|Jt<|Jt ?_
 cases h
 have h:=v
 refine Jb1 ?_
 cases h
 exact Jw1 _ ⟨F,o,k,m,R,f.wk R,B,R⟩<|KM R
 obtain⟨aE,h,v⟩:=BI h;unfold eE at h
 have D:=dct u
 refine Jf3 R<|Jq<|Jw2 R D<|Js<|Jp<|Jq<|Jv<|Jh3 [2,2,1,1,2,1] 1 R<|Ob h λaH U h=>Jd3 R C U U69 Z127 ?_
 have Q:=C.stp (j.tr f)
 obtain⟨aQ,aB,az⟩:=(Q).gSt U
 obtain⟨aJ,aV,aK,aW,rfl,ap,aq⟩:=Pair.un aB
 refine Jc4 tv R (Jd4 (haE az) I127 Z127 R)<|Ju3 F 3 R X127 R λaP aY G a aj=>Tv<|Jn 1 R<|Ji4 G 3 R Z127 R aj R λaZ b ak=>Tv<|Jd<|Jh3 [2,1,1,2,2] 1 R<|Jc4 tv R (Jd4 (haE ak.cells) I127 Z127 R)<|Ob h λaI aC h=>Js3 R call149 (pj (J:=Mk G) (p1:=aH) (p0:=p0) (Jj3<|ar.stp<|T4 j f a b) (Jj3<|au.stp<|T4 j f a b) (Jj3<|Q.stp<|a.tr b) (Jj3<|ap.stp<|a.tr b) (Jj3<|aq.stp<|a.tr b) ((S.stp<|T3 f a b).map (mp [] 0) R R) aC) ?_
 rintro _ aG ⟨aT,aM,aN,rfl,ah,aR⟩
 obtain⟨z,A,aU⟩:=Ji ah 4 R
 refine Tv<|Jo3 R U37 R R<|Jb 1 R<|Ob h λE h ax=>Jp3 [0,10,11,12] (λg i c=>∃d t q,i=(3,.slice t E.length q)::g/\Stp [2] z aG d c/\Oc E6 2 d c 2 t q E) ?_ ?_
 revert h
 cases aS:decide (0<(aI.length:Int))
 refine JF λh=>Jy R<|Js ?_
 cases h
 exact Jw1 _ ⟨z,k,m,R,Jk3,(B.stp<|T3 a b A)⟩<|KM R
 refine JT λh=>Jx R<|Ji3 [2,2,1,1,2] 2 R<|Je4 z 7 [e] R Y37 bS R λaO aL a1 Z H an=>Tv<|Ob h λa4 aD h=>Jz3 Z E6 2 [] R Y37 bS R (B.stp<|T4 a b A H) (Du (cc _) an.rdc) bV aD R λag af a2 aa ad ao=>Tv<|Jc 1 R ?_
 cases h
 exact Jw1 _ ⟨aa,ag,af,R,(H.tr ad).wk R,ao⟩<|KM R
 rintro _ a0 ⟨Y,t,q,rfl,ac,am⟩
 have h:=ax
 refine Jz<|Jp<|Jg3 R<|wr2 T u C.len_le ▸ ?_
 cases h
 exact Ja2 ⟨Y,e+1,E,t,q,R,(T5 f a b A ac).wk R,am,nxz T,nxm u,v⟩ R
 rintro _ a3 ⟨X,x,p,s,rfl,ab,ai,rfl⟩
 have h:=yI ay
 refine Jp<|Jf3 R<|Ju<|Jb2 (l:=[.tmp 2]) results74 (Jq2 R R) R ?_
 cases h
 exact⟨X,p,s,R,(aw.stp<|j.tr ab),ai⟩
end
end Go.Proofs.YtleekpaohfpooaaGreat
