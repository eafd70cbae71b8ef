/- The walks, part 11. By program. -/
import Derived.Test.YtleekpaohfpooaaGreatFns10MD
set_option linter.unusedVariables false
set_option linter.unusedSimpArgs false
open Go.Wk.Ep renaming fz → Dw, own → Dp
open Int renaming toNat → Dq
open Go.IntKind renaming wrap → Dr
open Option.some renaming inj → Ds
open Go.Wk.Ow renaming nil → Dt
open Go.Wk.Sl renaming srcP → Du
open Sum renaming inr → Dv
namespace Go.Proofs.YtleekpaohfpooaaGreat
open Tryz
open Go Go.Wk Go.Proofs
set_option maxRecDepth 100000
set_option maxHeartbeats 1000000
section
variable {w:World}{J:Col}
theorem nS {p0:Sig}{aP bd}{p1:VC}(al:Rd Clause.rp J w 0 aP bd p1){r:Det×Bool}(h:dh p0 p1=some r):Ret prog 41 [.agg #[vi p0.In,vi p0.Out],.slice aP p1.length bd] w (λct a=>∃(b:Col) (a9:Option Addr) (bb:Nat) (ba:Option Addr) (bc:Nat),ct= .tuple #[.agg #[.slice a9 r.1.Next.length bb,.slice ba r.1.Pairs.length bc],.bool r.2]/\Ent J w b a/\Oc (Dp E6 2) 37 b a 2 a9 bb r.1.Next/\Oc Pair.ep127 127 b a 3 ba bc r.1.Pairs):=by
 unfold dh at h
 refine Jl3 J func41 R ntmps41 R λay=>Je [1,1,2] R<|Jt3 J 2 R λcA cV bk I b4=>Tv<|Ju3 bk 3 R X71 R λcB dg bo A aw=>Tv<|Jb 1 R<|Jq<|Je [1,1,2,2,1,2,1,2,2] R ?_
 have ax:=b4.stp A
 refine Jc4 tv R (Jd4 (haE ax.cells) I28 Z28 R)<|Ob h λcw co h=>Js3 R call82 (nq (J:=Mk bo) (p0:=p0) co) ?_
 rintro _ cu ⟨cI,rfl,bB⟩
 obtain⟨aD,g,cP⟩:=Ji bB 4 R
 refine Tv<|Jn 2 R<|Ob h λa7 h ci=>Jg4 [1,2,4] 19 a7 aD cu [(4,1),(5,2),(6,1),(7,2),(8,2)] [] tv ?_ ?_
 revert h
 cases cE:(!cw)
 refine JF λh=>Jc4 tv R (Jd4 (haE (ax.stp g).cells) I28 Z28 R)<|Jn 1 R<|Ob h λdp cp h=>Js3 R call63 (qS (J:=Mk aD) (p0:=p0) (Jj3<|al.stp<|T3 I A g) cp) ?_
 rintro _ da ⟨cN,rfl,bF⟩
 obtain⟨cx,bq,cR⟩:=Ji bF 6 R
 refine Tv<|Jn 2 R ?_
 cases h
 exact Jv1 _ tv ⟨R,_,bq.wk R⟩<|KM R
 refine JT λh=>Ja4 R<|Jn 1 R<|Ja4 R<|Jn 2 R ?_
 cases h
 exact Jh4 tv R
 rintro _ db _ ⟨rfl,an,m⟩
 have h:=ci
 refine Jd ?_
 revert h
 cases cG:a7
 refine JF λh=>Jy R<|Js<|Jp<|Je [1,1,1,1,2,1,1] R ?_
 have aV:=ax.stp (g.tr m)
 refine Jc4 tv R (Jd4 (haE aV.cells) I28 Z28 R)<|Ob h λdq cq h=>Js3 R call103 (gR (J:=Mk an) (p0:=p0) cq) ?_
 rintro _ dd ⟨cO,rfl,bG⟩
 obtain⟨bl,v,cS⟩:=Ji bG 6 R
 refine Tv<|Ob h λam cr h=>Jl1 (J:=bl) (E:=E6) (z:=(0:Int)) 8 R R R R R R R Y37 bS R R R R R (λ_ _ _=>R) (Jv2 cr) λbu bt de bm x b5=>Tv<|Jx3 bm (Dp E6 2) 9 [8] (parts:=[(0,.tmp 23)]) (cells:=[.slice bu am.length bt]) (xs:=([am]:VV)) R Y31 bW R (Jf4 ⟨_,_,R,b5⟩) λaR aQ df bn y b6=>Tv<|Jf R (Jj4 [.slice aR ([am]:VV).length aQ,.slice none 0 0] R)<|Ju3 bn 10 R X71 R λaS di Q s b7=>Tv<|Ji4 Q 10 R Z71 R b7 R λbe t b8=>Tv<|Jd<|Jq<|Jh3 [2,2,2] 1 R<|Jo3 R U29 R R<|Jb 1 R<|Ob h λa8 cl aZ=>?_
 clear h
 refine Jp3 [4,6] (λu F a=>∃b,∃D:VV×VP,∃aa af ac ad,F=u/\Stp [10,12,13,14,17,19,20,21] Q be b a/\Oc (Dp E6 2) 37 b a 9 aa af D.1/\Oc Pair.ep127 127 b a 11 ac ad D.2/\Bc b a 10 aS 71 [.slice aa D.1.length af,.slice ac D.2.length ad]/\a8=Dv D) ?_ ?_
 refine Jv<|Jq3 [2,4,6,26,27] (λP u F a=>∃b n,∃c:VV×VP,∃Y Z ai ag,F=(28,vi n)::u/\Stp [10,12,13,14,17,19,20,21] Q be b a/\Oc (Dp E6 2) 37 b a 9 Y Z c.1/\Oc Pair.ep127 127 b a 11 ai ag c.2/\Bc b a 10 aS 71 [.slice Y c.1.length Z,.slice ai c.2.length ag]/\0<=n/\Dq ((p1.length:Int)-n)=P/\cntM (eV p0 p1) P n c=some a8) ⟨_,_,⟨Q,0,((([am]:VV):VV),([]:VP)),aR,aQ,none,0,R,Jk3,(b6.stp<|s.tr t),Dt,b8,(by decide),(by simp),cl⟩,(KM R)⟩ ?_
 rintro P _ dk ⟨aH,n,c,Y,Z,ai,ag,rfl,B,aj,ak,av,cj,aY,h⟩
 rcases P with _|P
 have O:=h;obtain⟨cs,h⟩:=exq O
 have C:=dcf aY
 refine Jf3 R<|Jq<|Jx2 R C<|Jc1<|Jt<|Jt ?_
 cases h
 have h:=O
 refine Jb1 ?_
 cases h
 exact Jw1 _ ⟨aH,(c.1,c.2),Y,Z,ai,ag,R,B.wk R,aj,ak,av,R⟩<|KM R
 obtain⟨cs,h,O⟩:=BI h;unfold eV at h
 have C:=dct aY
 refine Jf3 R<|Jq<|Jw2 R C<|Js<|Jp<|Jq<|Jv<|Je [2,1,1,1] R<|Ob h λbf a0 h=>Jd3 R al a0 U29 Z67 ?_
 obtain⟨cD,cm,ck⟩:=((al.stp (T10 I A g m v x y s t B))).gSt a0
 obtain⟨cy,cT,cz,cU,rfl,aW,aX⟩:=Clause.un cm
 refine Jc4 tv R (Jd4 (haE ck) I67 Z67 R)<|Ju3 aH 12 R zeroValue67 R λcC dl E d cc=>Tv<|Ji4 E 12 R Z67 R cc R λcv e cd=>Tv<|Jd<|Jq<|Ob h λaA a1 h=>Ob h λo az h=>Jp3 [2,4,6,26,27,28] (λu F a=>∃b j X ah ab ae,F=(9,.pointer (some ⟨j,0,none⟩))::(10,.bool o.2)::u/\Stp [13,17,19,20,21] E cv b a/\Oc (Dp E6 2) 37 b a 13 X ah o.1.Next/\Oc Pair.ep127 127 b a 14 ab ae o.1.Pairs/\Bc b a 15 j 71 [.slice X o.1.Next.length ah,.slice ab o.1.Pairs.length ae]) ?_ ?_
 refine WC.rxt (J:=E) [2,10,12] none (by kernel_rfl) λdn f=>Jq1 (fuel:=8) [(0,0),(1,0),(2,0)] (by kernel_rfl) (by kernel_rfl) R<|Jg R (Jd4 (haC (av.stp<|T3 d e f).cells R) I71 Z71 R)<|Jg R (Jd4 (haC (aV.stp<|T9 v x y s t B d e f).cells R) I28 Z28 R)<|Jg R (Jd4 (haC (cd.stp f).cells R) I67 Z67 R)<|Jp1<|WA.fork2 (fuel:=7) 3 8 (by kernel_rfl) R ?_ ?_
 refine Js3 R call105 (nY (J:=Mk E) (p0:=p0) (p1:=bf) (Jj3<|aW.stp<|T3 d e f) (Jj3<|aX.stp<|T3 d e f) a1) ?_
 rintro _ cW ⟨cH,bs,bw,bv,bx,rfl,bz,bH,bI⟩
 obtain⟨aB,k,a2⟩:=Ji bz 13 R
 refine⟨(k.cl R),?_⟩
 have aT:=bH.mx (cQ (bZ _) _) a2 R (R:13+2=15)
 have aU:=bI.mx Pair.no127 a2 R (R:13+3=16)
 refine Jp1<|WA.fork2 (fuel:=6) 4 8 (by kernel_rfl) R ?_ ?_
 have aI:=(T4 d e f k)
 refine Js3 R call104 (lH (J:=Mk aB) (p0:=(⟨c.1,c.2⟩:Det)) (p1:=aA) (Jj3 (aj.stp aI).rdc) (Jj3 (ak.stp aI).rdc) (Jj3 aT.rdc) (Jj3 aU.rdc) az) ?_
 rintro _ cX ⟨cJ,M,K,L,N,rfl,bA,bJ,bK⟩
 obtain⟨bg,aN,a3⟩:=Ji bA 17 R
 have ao:=(k.tr aN)
 exact⟨(ao.cl R),Jp1<|Jq1 (fuel:=0) [(5,2),(6,2),(7,2),(8,1),(9,1),(10,2)] (by kernel_rfl) (by kernel_rfl) R<|Jn 3 R<|Ju3 bg 21 R X71 R λj cY aC G bL=>⟨((ao.tr G).cl R),Ji4 aC 21 R Z71 R bL R λcZ T bM=>⟨((T3 ao G T).cl R),Jn 1 R<|Jp1<|Jr1 [] (by kernel_rfl) (by kernel_rfl) R<|Jo<|Jw1 _ ⟨(λi=>ren [(19,13),(20,14),(21,15)]<|aC i),j,M,K,L,N,R,(Jz2 ((T5 f k aN G T).wk R) [(19,13),(20,14),(21,15)] R),(((bJ.mx (cQ (bZ _) _) a3 R (R:17+2=19)).stp (G.tr T)).map (ren [(19,13),(20,14),(21,15)]) R R),(((bK.mx Pair.no127 a3 R (R:17+3=20)).stp (G.tr T)).map (ren [(19,13),(20,14),(21,15)]) R R),(bM.map (ren [(19,13),(20,14),(21,15)]) R R)⟩<|KM R⟩⟩⟩
 have aJ:=(T4 d e f k)
 refine Ju3 aB 17 R X71 R λj c0 bh p bN=>⟨((k.tr p).cl R),Jp1<|Jq1 (fuel:=0) [(4,1),(5,2),(6,2),(7,2),(9,1),(10,2)] (by kernel_rfl) (by kernel_rfl) R<|Js3 R call104 (lH (J:=Mk bh) (p0:=(⟨c.1,c.2⟩:Det)) (p1:=aA) (Jj3 (aj.stp<|aJ.tr p).rdc) (Jj3 (ak.stp<|aJ.tr p).rdc) (Jj3 (aT.stp p).rdc) (Jj3 (aU.stp p).rdc) az) ?_⟩
 rintro _ c1 ⟨cK,M,K,L,N,rfl,bC,bO,bP⟩
 obtain⟨aE,ap,a4⟩:=Ji bC 18 R
 have aK:=(T3 k p ap)
 exact⟨(aK.cl R),Jn 3 R<|Ji4 aE 17 R Z71 R (bN.stp ap) R λc2 U bQ=>⟨((aK.tr U).cl R),Jn 1 R<|Jp1<|Jr1 [] (by kernel_rfl) (by kernel_rfl) R<|Jo<|Jw1 _ ⟨(λi=>ren [(20,13),(21,14),(17,15)]<|aE i),j,M,K,L,N,R,(Jz2 ((T5 f k p ap U).wk R) [(20,13),(21,14),(17,15)] R),(((bO.mx (cQ (bZ _) _) a4 R (R:18+2=20)).stp U).map (ren [(20,13),(21,14),(17,15)]) R R),(((bP.mx Pair.no127 a4 R (R:18+3=21)).stp U).map (ren [(20,13),(21,14),(17,15)]) R R),(bQ.map (ren [(20,13),(21,14),(17,15)]) R R)⟩<|KM R⟩⟩
 refine Ju3 E 13 R X71 R λj c3 bi q bR=>⟨(q.cl R),Jp1<|Jq1 (fuel:=0) [(3,1),(4,1),(5,2),(6,2),(7,2),(9,1),(10,2)] (by kernel_rfl) (by kernel_rfl) R<|Js3 R call105 (nY (J:=Mk bi) (p0:=p0) (p1:=bf) (Jj3<|aW.stp<|T4 d e f q) (Jj3<|aX.stp<|T4 d e f q) a1) ?_⟩
 rintro _ c4 ⟨cL,bs,bw,bv,bx,rfl,bD,bT,bU⟩
 obtain⟨bj,H,a5⟩:=Ji bD 14 R
 have aL:=(T5 d e f q H)
 refine⟨((q.tr H).cl R),Js3 R call104 (lH (J:=Mk bj) (p0:=(⟨c.1,c.2⟩:Det)) (p1:=aA) (Jj3 (aj.stp aL).rdc) (Jj3 (ak.stp aL).rdc) (Jj3 (bT.mx (cQ (bZ _) _) a5 R (R:14+2=16)).rdc) (Jj3 (bU.mx Pair.no127 a5 R (R:14+3=17)).rdc) az) ?_⟩
 rintro _ c5 ⟨cM,M,K,L,N,rfl,bE,bV,bX⟩
 obtain⟨aF,aq,a6⟩:=Ji bE 18 R
 have aM:=(T3 q H aq)
 exact⟨(aM.cl R),Jn 3 R<|Ji4 aF 13 R Z71 R (bR.stp<|H.tr aq) R λc6 V bY=>⟨((aM.tr V).cl R),Jn 1 R<|Jp1<|Jr1 [] (by kernel_rfl) (by kernel_rfl) R<|Jo<|Jw1 _ ⟨(λi=>ren [(20,13),(21,14),(13,15)]<|aF i),j,M,K,L,N,R,(Jz2 ((T5 f q H aq V).wk R) [(20,13),(21,14),(13,15)] R),(((bV.mx (cQ (bZ _) _) a6 R (R:18+2=20)).stp V).map (ren [(20,13),(21,14),(13,15)]) R R),(((bX.mx Pair.no127 a6 R (R:18+3=21)).stp V).map (ren [(20,13),(21,14),(13,15)]) R R),(bY.map (ren [(20,13),(21,14),(13,15)]) R R)⟩<|KM R⟩⟩
 rintro _ dm ⟨S,j,X,ah,ab,ae,rfl,W,ce,cf,ch⟩
 refine Jp<|Jq<|Jf3 R ?_
 revert h
 cases cF:(!o.2)
 refine JF λh=>Jy R<|Js<|Jp<|Ja [1,1] R<|Jc4 tv R (Jd4 (haE ch.cells) I71 Z71 R)<|Ji4 S 10 R Z71 R (av.stp<|T3 d e W) R λc8 ar b1=>Tv<|Jo<|Jz<|Jp<|Jg3 R ?_
 have cn:Dr .i64 (n+1)=n+1:=wr1 cj (Jn2 C) al.len_le
 rw[cn]
 have C:=Jn2 C
 cases h
 exact Ja2 ⟨(λi=>ren [(13,9),(14,11)]<|S i),n+1,(o.1.Next,o.1.Pairs),X,ah,ab,ae,R,(Jz2 ((T5 B d e W ar).wk R) [(13,9),(14,11)] R),((ce.stp ar).map (ren [(13,9),(14,11)]) R R),((cf.stp ar).map (ren [(13,9),(14,11)]) R R),(b1.map (ren [(13,9),(14,11)]) R R),by omega,by omega,O⟩ R
 refine JT λh=>Jx R<|Je [2,1,2] R<|Jf R (Jj4 [.slice none 0 0,.slice none 0 0] R)<|Ji4 S 3 R Z71 R (aw.stp<|T11 g m v x y s t B d e W) R λc7 bp b0=>Tv<|Jb 1 R<|Ju<|Jw<|Ja1<|Jw<|Jw ?_
 cases h
 obtain rfl:=Ds O
 have h:=yL aZ
 refine Ja1<|Jr2<|Jw<|Jb2 (l:=[.cell 4 71,.tmp 5]) results41 (cg R b0 I71 Z71 R<|Jq2 R R) R ?_
 cases h
 exact⟨S,none,0,none,0,R,(ay.stp<|T14 I A g m v x y s t B d e W bp),Dt,Dt⟩
 rintro _ dj ⟨aG,D,aa,af,ac,ad,rfl,aO,b9,ca,cb,rfl⟩
 have h:=yI aZ
 refine Jp<|Je [1,1,2] R<|Jc4 tv R (Jd4 (haE cb.cells) I71 Z71 R)<|Ji4 aG 3 R Z71 R (aw.stp<|T8 g m v x y s t aO) R λc9 au b2=>Tv<|Jb 1 R<|Ju<|Jb2 (l:=[.cell 4 71,.tmp 5]) results41 (cg R b2 I71 Z71 R<|Jq2 R R) R ?_
 cases h
 exact⟨(λi=>ren [(9,2),(11,3)]<|aG i),aa,af,ac,ad,R,((ay.stp<|T11 I A g m v x y s t aO au).map (ren [(9,2),(11,3)]) R R),((b9.stp au).map (ren [(9,2),(11,3)]) R R),((ca.stp au).map (ren [(9,2),(11,3)]) R R)⟩
 refine JT λh=>Jx R<|Je [2,1,2] R<|Jf R (Jj4 [.slice none 0 0,.slice none 0 0] R)<|Ji4 an 3 R Z71 R (aw.stp<|g.tr m) R λdc br b3=>Tv<|Jb 1 R<|Ju<|Jw<|Jb2 (l:=[.cell 4 71,.tmp 5]) results41 (cg R b3 I71 Z71 R<|Jq2 R R) R ?_
 cases h
 exact⟨an,none,0,none,0,R,(ay.stp<|T5 I A g m br),Dt,Dt⟩
theorem rO {p0:Sig}{bG cG}{p1:VC}(ev:Rd Clause.rp J w 0 bG cG p1){r:Machine×Bool}(h:jf p0 p1=some r):Ret prog 11 [.agg #[vi p0.In,vi p0.Out],.slice bG p1.length cG] w (λe7 a=>∃(b:Col) (cC:Option Addr) (cE:Nat) (cD:Option Addr) (cF:Nat),e7= .tuple #[.agg #[.slice cC r.1.Next.length cE,.slice cD r.1.Out.length cF],.bool r.2]/\Ent J w b a/\Oc (Dp E6 2) 37 b a 2 cC cE r.1.Next/\Oc (Dp E6 2) 37 b a 3 cD cF r.1.Out):=by
 unfold jf at h
 refine Jl3 J func11 R ntmps11 R λa2=>Je [1,1,2] R<|Jt3 J 2 R λfy gB cR ak ej=>Tv<|Ju3 cR 3 R X33 R λfA hn c5 ag a1=>Tv<|Jb 1 R<|Je [1,2,1,2,2,2,1,1,2] R ?_
 have ck:=ej.stp ag
 refine Jc4 tv R (Jd4 (haE ck.cells) I28 Z28 R)<|Jn 1 R<|Ob h λai eW h=>Js3 R call41 (nS (J:=Mk c5) (p0:=p0) (Jj3<|ev.stp<|ak.tr ag) eW) ?_
 rintro _ gC ⟨gl,f7,fH,fl,fR,rfl,dw,dI,dK⟩
 obtain⟨cO,W,cy⟩:=Ji dw 4 R
 refine Tv<|Jn 3 R<|Ju3 cO 8 R X71 R λfB gV az H d2=>Tv<|Ji4 az 8 R Z71 R d2 R λg1 K b6=>Tv<|Jb 1 R<|Jq<|Jf3 R ?_
 revert h
 cases gi:(!ai.2)
 refine JF λh=>Jy R<|Js<|Jp<|Je [1,1,1,2,2,2,1,1,2] R ?_
 have ca:=ck.stp (T3 W H K)
 refine Jc4 tv R (Jd4 (haE ca.cells) I28 Z28 R)<|Jc4 tv R (Jd4 (haE b6.cells) I71 Z71 R)<|Ob h λff eX h=>?_
 have cb:=(dI.mx (cQ (bZ _) _) cy R (R:4+2=6)).stp (H.tr K)
 have ce:=(dK.mx Pair.no127 cy R (R:4+3=7)).stp (H.tr K)
 refine Js3 R call42 (rQ (J:=Mk az) (p0:=p0) (p1:=ai.1) (Jj3 cb.rdc) (Jj3 ce.rdc) eX) ?_
 rintro _ hm ⟨gr,f1,fI,fX,fK,fS,fU,rfl,dC,ek,el,em⟩
 obtain⟨c3,Y,bq⟩:=Ji dC 9 R
 refine Tv<|Jn 3 R<|Ju3 c3 14 R X75 R λfC ho bB D en=>Tv<|Ji4 bB 14 R Z75 R en R λbr E eo=>Tv<|Jb 1 R<|Je [1,2,1,2,2,2,2,1,1,1,1,2] R<|Jc4 tv R (Jd4 (haE eo.cells) I75 Z75 R)<|Jn 1 R ?_
 obtain⟨c4,N,fh⟩:=gD bB br 11
 obtain⟨c6,O,fi⟩:=gD c4 br 12
 obtain⟨c7,P,fj⟩:=gD c6 br 13
 refine Ob h λaj eY h=>Js3 R call43 (tf (J:=λbi=>mp [] 1<|c7 bi) (p0:=ff.1) (Jm2 ((Sl.st fh ((ek.mx (bZ _) bq R (R:9+2=11)).stp (D.tr E)).rdc).stp (O.tr P)) (mp [] 1) R R) (Jm2 ((Sl.st fi ((el.mx (cQ (bZ _) _) bq R (R:9+3=12)).stp (T3 D E N)).rdc).stp P) (mp [] 1) R R) (Jm2 (Sl.st fj ((em.mx Pair.no127 bq R (R:9+4=13)).stp (T4 D E N O)).rdc) (mp [] 1) R R) eY) ?_
 rintro _ hp ⟨gs,fN,fn,fL,fM,fF,fp,dm,dk,rfl,dD,ep,eq,er,es⟩
 obtain⟨c8,Z,a4,cL⟩:=Jj dD 15 R
 refine Tv<|?_
 have cf:=ep.mx (bZ _) a4 R (R:15+2=17)
 have ch:=eq.mxz cL a4 R (R:15+3=18)
 have ci:=er.mx (bZ _) a4 R (R:15+4=19)
 have cj:=es.mxz cL a4 R (R:15+5=20)
 refine Jn 4 R<|Ju3 c8 21 R X79 R λfu hq da x et=>Tv<|Ju3 da 22 R zeroValue80 R λfv hr aA t eu=>Tv<|Ji4 aA 21 R Z79 R (et.stp t) R λhs j bI=>Tv<|Jw3 aA 22 (vc:=[.slice dm aj.2.1.length dk]) R sizeOf80 R (eu.stp j) R λe8 e dE=>Tv<|Jb 1 R<|Jq<|Jh3 [2,2,2,1,1,2,1,2,2] 3 R<|Ob h λcz h ew=>Jg4 [2,4,6,10,11] 54 cz aA e8 [(3,1),(4,1),(5,2),(6,1),(7,2),(8,2)] [] tv ?_ ?_
 revert h
 cases ge:(!aj.2.2)
 have bb:=(T4 x t j e)
 refine JF λh=>Jc4 tv R (Jd4 (haE (bI.stp e).cells) I79 Z79 R)<|Ob h λhz eZ h=>Js3 R call44 (pV (J:=Mk aA) (p0:=aj.1) (Jj3 (cf.stp bb).rdc) (Jj3 (ch.stp bb).rdc) (Jj3 (ci.stp bb).rdc) eZ) ?_
 rintro _ gE ⟨gk,fW,fZ,rfl,dv,dF⟩
 obtain⟨fk,db,e3⟩:=Ji dv 23 R
 refine Tv<|?_
 have bJ:=dF.mx (bZ _) e3 R (R:23+2=25)
 refine Ob h λhA ct h=>Jd3 R bJ.rdc ct U37 Z2<|Jc3 R I2 (bJ.rdc.gInt ct)<|Jn 2 R ?_
 cases h
 exact Jv1 _ tv ⟨R,_,db.wk R⟩<|KM R
 refine JT λh=>Ja4 R<|Ja4 R<|Jn 1 R<|Ja4 R<|Jn 2 R ?_
 cases h
 exact Jh4 tv R
 rintro _ gF _ ⟨rfl,a6,k⟩
 have h:=ew
 refine Jd ?_
 revert h
 cases gf:cz
 refine JF λh=>Jy R<|Js<|Jp<|Je [1,1,2,2] R ?_
 have bK:=bI.stp (e.tr k)
 refine Jc4 tv R (Jd4 (haE bK.cells) I79 Z79 R)<|Ob h λcJ e0 h=>?_
 have bj:=ch.stp (T5 x t j e k)
 have bC:=(T5 x t j e k)
 refine Js3 R call45 (vD (J:=Mk a6) (p0:=aj.1) (Jj3 (cf.stp bC).rdc) (Jj3 bj.rdc) (Jj3 (ci.stp bC).rdc) e0) ?_
 rintro _ gH ⟨gm,f4,fm,fO,fE,rfl,dx,ga,dH⟩
 obtain⟨cM,F,e4⟩:=Ji dx 23 R
 refine Tv<|?_
 have bL:=dH.mx (bZ _) e4 R (R:23+3=26)
 refine Jf R (yK U85 R I37 R R R)<|Jb 1 R<|Je [2,1,2,1,1] R<|Je3 R U71 R Z31 ?_
 have bM:=b6.stp (T13 Y D E N O P Z x t j e k F)
 refine Jc3 R I31 (bM.ld 0 R R)<|Jo3 R U31 R R<|Ju3 cM 27 R X2 R λfw gI bt z dJ=>Tv<|Jw3 bt 27 (vc:=[vi (ai.1.Next.length:Int)]) R Z2 R dJ R λgJ A dL=>Tv<|Jd<|Je [1,2] R<|Je4 bt 28 [0] R Y37 bS R λdh ds gK cN u dM=>Tv<|Jb 1 R<|Je [2,1,1] R<|Jf R (Jj4 [.slice none 0 0,.slice none 0 0] R)<|Ju3 cN 29 R X33 R λbH gM ax m dN=>Tv<|Ji4 ax 29 R Z33 R dN R λcH n dO=>Tv<|Jd<|Jq<|Jf3 R<|Ob h λcA eG ex=>?_
 clear h
 refine Jp3 [4,15] (λU V a=>∃b,∃aa:VI×Int×VV×VV,∃bg bf aM aP aW aO,V=(14,.slice bg aa.1.length bf)::U/\Stp [28,29,30,31,32,33,34,37,38] ax cH b a/\Oc E6 2 b a 28 bg bf aa.1/\Oc (Dp E6 2) 37 b a 30 aM aP aa.2.2.1/\Oc (Dp E6 2) 37 b a 31 aW aO aa.2.2.2/\Bc b a 29 bH 33 [.slice aM aa.2.2.1.length aP,.slice aW aa.2.2.2.length aO]/\cA=Dv aa) ?_ ?_
 refine Jv<|Jq3 [2,4,6,10,11,12,13,15] (λT U V a=>∃b,∃c:VI×Int×VV×VV,∃ar au aT aG ap aq,V=(14,.slice ar c.1.length au)::(16,vi c.2.1)::U/\Stp [28,29,30,31,32,33,34,37,38] ax cH b a/\Oc E6 2 b a 28 ar au c.1/\Oc (Dp E6 2) 37 b a 30 aT aG c.2.2.1/\Oc (Dp E6 2) 37 b a 31 ap aq c.2.2.2/\Bc b a 29 bH 33 [.slice aT c.2.2.1.length aG,.slice ap c.2.2.2.length aq]/\cd (gL p0 ai aj cJ) T c=some cA) ⟨_,_,⟨ax,((([0]:VI):VI),(0:Int),([]:VV),([]:VV)),dh,ds,none,0,none,0,R,Jk3,(dM.stp<|m.tr n),Dt,Dt,dO,eG⟩,(KM R)⟩ ?_
 rintro T _ gO ⟨a7,c,ar,au,aT,aG,ap,aq,rfl,G,bk,bN,bO,bP,h⟩
 rcases T with _|T
 cases h
 obtain⟨gw,h,cm⟩:=BI h;unfold gL at h
 refine Jq<|Jh3 [2,2,2,2] 2 R<|Jo3 R U37 R R<|Jb 1 R ?_
 revert h
 cases gg:decide (c.2.1<(c.1.length:Int))
 refine JF λh=>Jy R<|Jc1<|Jt<|Jt ?_
 cases h
 have h:=cm
 refine Jb1 ?_
 cases h
 exact Jw1 _ ⟨a7,(c.1,c.2.1,c.2.2.1,c.2.2.2),ar,au,aT,aG,ap,aq,R,G.wk R,bk,bN,bO,bP,R⟩<|KM R
 refine JT λh=>Jx R<|Js<|Jp<|Jq<|Jv<|Jq<|Js1 (J:=a7) [0,20,22,28] none [(1,2),(2,2),(3,2),(0,0),(4,0),(5,2),(6,2),(7,0),(8,1),(9,1)] [] (by kernel_rfl) (by kernel_rfl) λgP v=>Jn 2 R<|Ob h λhB cu h=>Jd3 R bk.rdc cu U37 Z2 ?_
 have bQ:=dE.stp (T9 k F z A u m n G v)
 refine Jg R (Jd2 isAgg80 R R<|hvC (bQ.ld 0 R R) R) ?_
 have bR:=bk.stp v
 refine Jg R (Jd2 I2 R R<|hvC (bR.rdc.gInt cu) R)<|Ob h λcK cv h=>Jd3 R cj.rdc cv U80 Z88<|Je3 R U88 R Z2 ?_
 have bT:=cj.stp (T13 x t j e k F z A u m n G v)
 obtain⟨f8,eL,eE⟩:=Ow.gZS bT cv
 obtain⟨fq,gx,rfl,gc⟩:=Place.un eL
 refine Jg R (Jd2 I2 R R<|hvC (λa bp=>eE a bp 0 _ R) R)<|Ju3 a7 32 R X2 R λfx gQ bu f dS=>⟨(f.cl R),Jw3 bu 32 (vc:=[vi cK.At]) R Z2 R dS R λgR o dT=>⟨((f.tr o).cl R),Jt1<|Jd<|Je [1,1,2,2] R<|Jy3 bu E6 33 R Y37 bS R λdn dt gS cP p dU=>Tv<|Jy3 cP E6 34 R Y37 bS R λdp dq gT cS g dV=>Tv<|Jb 2 R<|Jq<|Je [1,1,2] R ?_⟩⟩
 have bU:=ca.stp (Y.tr (D.tr (E.tr (N.tr (O.tr (P.tr (Z.tr (x.tr (t.tr (j.tr (e.tr (k.tr (F.tr (z.tr (A.tr (u.tr (m.tr (n.tr (G.tr (v.tr (f.tr (o.tr (p.tr g)))))))))))))))))))))))
 refine Jc4 tv R (Jd4 (haE bU.cells) I28 Z28 R)<|Ob h λfg e1 h=>Js3 R call46 (eK (J:=Mk cS) (p0:=p0) e1) ?_
 rintro _ cI ⟨gn,rfl,dy⟩
 obtain⟨a8,d,gt⟩:=Ji dy 35 R
 refine Tv<|Jb 1 R<|Ob h λ_ eJ h=>?_
 have eA:=jG eJ
 refine Ob h λcB eI ey=>?_
 clear h
 refine Jp3 [2,4,6,10,11,12,13,15,16] (λU V a=>∃b,∃y:VI×VI×VI,∃aR aZ aS aI aV aY,V=(14,.slice aR y.1.length aZ)::(18,.slice aS y.2.1.length aI)::(19,.slice aV y.2.2.length aY)::U/\Stp [28,33,34,37] a8 cI b a/\Oc E6 2 b a 28 aR aZ y.1/\Oc E6 2 b a 33 aS aI y.2.1/\Oc E6 2 b a 34 aV aY y.2.2/\cB=Dv y) ?_ ?_
 refine Jv<|Jq3 [2,4,6,10,11,12,13,15,16,17,81] (λT U V a=>∃b ab,∃Q:VI×VI×VI,∃ao av aQ aJ aX aK,V=(14,.slice ao Q.1.length av)::(18,.slice aQ Q.2.1.length aJ)::(19,.slice aX Q.2.2.length aK)::(82,vi ab)::U/\Stp [28,33,34,37] a8 cI b a/\Oc E6 2 b a 28 ao av Q.1/\Oc E6 2 b a 33 aQ aJ Q.2.1/\Oc E6 2 b a 34 aX aK Q.2.2/\0<=ab/\Dq (fg-ab)=T/\cntM (eU p0 ai aj cJ c cK) T ab Q=some cB) ⟨_,_,⟨a8,0,(c.1,([]:VI),([]:VI)),ar,au,dn,dt,dp,dq,R,Jk3,(bR.stp<|T5 f o p g d),(dU.stp<|g.tr d),(dV.stp d),(by decide),(by simp),eI⟩,(KM R)⟩ ?_
 rintro T _ gW ⟨bv,ab,Q,ao,av,aQ,aJ,aX,aK,rfl,B,bl,bX,bY,eB,cl,h⟩
 rcases T with _|T
 have a3:=h;obtain⟨e6,h⟩:=exq a3
 have ah:=dcf cl
 refine Jf3 R<|Jq<|Jx2 R ah<|Jc1<|Jt<|Jt ?_
 cases h
 have h:=a3
 refine Jb1 ?_
 cases h
 exact Jw1 _ ⟨bv,(Q.1,Q.2.1,Q.2.2),ao,av,aQ,aJ,aX,aK,R,B.wk R,bl,bX,bY,R⟩<|KM R
 obtain⟨e6,h,a3⟩:=BI h;unfold eU at h
 have ah:=dct cl
 refine Jf3 R<|Jq<|Jw2 R ah<|Js<|Jp<|Jq<|Jv<|Jh3 [2,1,1] 1 R<|Ju3 bv 37 R X2 R λfz gX a9 q dZ=>Tv<|Jw3 a9 37 (vc:=[vi ab]) R Z2 R dZ R λgY s d0=>Tv<|Jd<|Jq<|Js1 (J:=a9) [0,18,21,28] none [(0,2),(1,2),(3,2),(4,2),(5,2),(9,2),(2,0),(6,0),(7,2),(8,0),(10,1),(11,2)] [] (by kernel_rfl) (by kernel_rfl) λgZ i=>Je3 R U79 R Z75<|Je3 R U75 R Z31<|Jn 2 R<|Ob h λhC cw h=>Jd3 R bl.rdc cw U37 Z2<|Jf R (eH (first:=[]) (captured:=[.tmp 11,.tmp 13,.tmp 17,.tmp 2,.tmp 20]) R R R ⟨_,R⟩) ?_
 have b0:=bK.stp (F.tr (z.tr (A.tr (u.tr (m.tr (n.tr (G.tr (v.tr (f.tr (o.tr (p.tr (g.tr (d.tr (B.tr (q.tr (s.tr i))))))))))))))))
 refine Jg R (Jd2 I31 R R<|hvC (b0.ld 1 R R) R) ?_
 have bm:=bl.stp (T3 q s i)
 refine Jg R (Jd2 I2 R R<|hvC (bm.rdc.gInt cw) R)<|Ob h λhD cx h=>Jd3 R bj.rdc cx U31 Z37 ?_
 have bn:=bj.stp (F.tr (z.tr (A.tr (u.tr (m.tr (n.tr (G.tr (v.tr (f.tr (o.tr (p.tr (g.tr (d.tr (B.tr (q.tr (s.tr i))))))))))))))))
 obtain⟨ft,gA,d1,eC⟩:=bn.gZ cx
 refine Jg R (Jd2 I37 R R<|hvC eC R)<|Ob h λhE e2 h=>?_
 have bo:=bT.stp (T9 f o p g d B q s i)
 have b1:=bQ.stp (T9 f o p g d B q s i)
 have b2:=dT.stp (T7 p g d B q s i)
 have b3:=bU.stp (T5 d B q s i)
 have b4:=d0.stp i
 refine Js3 R call47 (fV (J:=Mk a9) (c1_3:=p0) (Jj3 d1) (Jj3 bo.rdc) (b1.map (mp [] 0) R R) ((dL.stp<|T14 u m n G v f o p g d B q s i).map (mp [] 0) R R) (b2.map (mp [] 0) R R) (b3.map (mp [] 0) R R) (b4.map (mp [] 0) R R) e2) ?_
 rintro _ g0 ⟨go,rfl,dz⟩
 obtain⟨bw,C,gu⟩:=Ji dz 38 R
 refine⟨(C.cl R),Jn 1 R<|Jt1<|Jd<|Jq<|Js1 (J:=bw) [0,18,21,26,28] none [(0,2),(1,2),(2,2),(4,2),(5,2),(6,2),(10,2),(3,0),(7,0),(8,2),(9,0),(11,2),(12,0),(13,2),(14,0),(15,2)] [] (by kernel_rfl) (by kernel_rfl) λg2 I=>Jn 1 R<|Je3 R U79 R Z75<|Je3 R U75 R Z31<|Jn 2 R<|Ob h λht cn h=>Jd3 R bm.rdc cn U37 Z2<|Jn 1 R<|Jg R (Jd2 I31 R R<|hvC ((b0.stp<|C.tr I).ld 1 R R) R) ?_⟩
 have a0:=bm.stp (C.tr I)
 refine Jg R (Jd2 I2 R R<|hvC (a0.rdc.gInt cn) R)<|Ob h λhu co h=>Jd3 R bn.rdc co U31 Z37 ?_
 obtain⟨fs,gz,b5,eD⟩:=(bn.stp (C.tr I)).gZ co
 refine Jg R (Jd2 I37 R R<|hvC eD R)<|Ob h λhv cp h=>Jd3 R b5 cp U37 Z2<|Jg R (Jd2 I2 R R<|hvC (b5.gInt cp) R)<|Ob h λfa cq h=>Jd3 R bL.rdc cq U37 Z2<|Jg R (Jd2 I2 R R<|hvC ((bL.stp<|z.tr<|A.tr<|u.tr<|m.tr<|n.tr<|G.tr<|v.tr<|f.tr<|o.tr<|p.tr<|g.tr<|d.tr<|B.tr<|q.tr<|s.tr<|i.tr<|C.tr I).rdc.gInt cq) R)<|Jn 1 R<|Jt1<|Jd<|Jh3 [2,2,1,2] 2 R<|Ob h λfb eO h=>Js3 R call49 (fG (J:=Mk bw) (Jj3 a0.rdc) eO) ?_
 rintro _ e9 ⟨gp,rfl,dA⟩
 obtain⟨ba,X,gv⟩:=Ji dA 40 R
 refine Tv<|Jb 1 R<|Jq<|Jf3 R<|Ob h λaw h ez=>Jp3 [2,4,6,10,11,12,13,15,16,17,18,19,20,22,81,82] (λU V a=>∃b aU aN,V=(14,.slice aU aw.1.length aN)::(23,vi aw.2)::U/\Stp [28] ba e9 b a/\Oc E6 2 b a 28 aU aN aw.1) ?_ ?_
 revert h
 cases gh:decide (fb<0)
 refine JF λh=>Jy R<|Js ?_
 cases h
 exact Jw1 _ ⟨ba,ao,av,R,Jk3,(a0.stp X)⟩<|KM R
 refine JT λh=>Jx R<|Jh3 [2,2,2] 1 R<|Jo3 R U37 R R<|Jb 1 R<|Ji3 [2,2,1,1,2] 2 R<|Je4 ba 42 [fa] R Y37 bS R λfT f5 g4 cV bF d4=>Tv<|Ob h λhw eP h=>Jz3 cV E6 28 [] R Y37 bS R (a0.stp<|X.tr bF) (Du (cc _) d4.rdc) bV eP R λdg dl g5 cW dd d5=>Tv<|Jc 1 R ?_
 cases h
 exact Jw1 _ ⟨cW,dg,dl,R,(bF.tr dd).wk R,d5⟩<|KM R
 rintro _ g3 ⟨cU,aU,aN,rfl,ad,d3⟩
 have h:=ez
 have aB:=(T4 C I X ad)
 refine Jp<|Jh3 [2,2,1,1,2] 2 R<|Je4 cU 42 [aw.2] R Y37 bS R λfJ f3 g6 cX L d6=>Tv<|Ob h λfc eQ h=>Jz3 cX E6 33 [] R Y37 bS R (bX.stp<|T8 q s i C I X ad L) (Du (cc _) d6.rdc) bV eQ R λdi dr g7 bx S d7=>Tv<|Jb 1 R<|Js1 (J:=bx) [0,2,8,20,22,32,37] none [(0,2),(6,2),(1,0),(2,0),(3,0),(4,0),(5,0),(7,2),(8,2),(9,0),(10,1),(11,2),(12,1),(13,1),(14,1),(15,2)] [] (by kernel_rfl) (by kernel_rfl) λg8 M=>Jn 2 R<|Jg R (Jd4 (haC (b3.stp<|T4 aB L S M).cells R) I28 Z28 R)<|Jg R (Jd4 (haC (bM.stp<|z.tr<|A.tr<|u.tr<|m.tr<|n.tr<|G.tr<|v.tr<|f.tr<|o.tr<|p.tr<|g.tr<|d.tr<|B.tr<|q.tr<|s.tr<|i.tr<|C.tr<|I.tr<|X.tr<|ad.tr<|L.tr<|S.tr M).cells R) I71 Z71 R)<|Jg R (Jd2 I2 R R<|hvC ((b2.stp<|T4 aB L S M).ld 0 R R) R)<|Jg R (Jd2 I2 R R<|hvC ((b4.stp<|T4 aB L S M).ld 0 R R) R)<|Jg R (Jd2 isAgg80 R R<|hvC ((b1.stp<|T4 aB L S M).ld 0 R R) R)<|Ob h λhx cr h=>Jd3 R bo.rdc cr U80 Z88<|Je3 R U88 R Z2 ?_
 obtain⟨f9,eM,eF⟩:=Ow.gZS (bo.stp (T7 C I X ad L S M)) cr
 obtain⟨fr,gy,rfl,gd⟩:=Place.un eM
 have bD:=(Y.tr (D.tr (E.tr (N.tr (O.tr (P.tr (Z.tr (x.tr (t.tr (j.tr (e.tr (k.tr (F.tr (z.tr (A.tr (u.tr (m.tr (n.tr (G.tr (v.tr (f.tr (o.tr (p.tr (g.tr (d.tr (B.tr (q.tr (s.tr (i.tr (C.tr (I.tr (X.tr (ad.tr (L.tr (S.tr M)))))))))))))))))))))))))))))))))))
 refine Jg R (Jd2 I2 R R<|hvC (λa bp=>eF a bp 0 _ R) R)<|Ob h λhy eR h=>Js3 R call50 (rP (J:=Mk bx) (p0:=p0) (p1:=ai.1) (Jj3 (cb.stp bD).rdc) (Jj3 (ce.stp bD).rdc) eR) ?_
 rintro _ hb ⟨gq,fY,fD,rfl,dB,d8⟩
 obtain⟨cY,ac,e5⟩:=Ji dB 43 R
 refine⟨(ac.cl R),?_⟩
 have b7:=d8.mx (bZ _) e5 R (R:43+2=45)
 refine Ob h λfd cs h=>Jd3 R b7.rdc cs U37 Z2<|Jc4 (ac.cl R) R (Jd2 I2 R R<|hvE<|b7.rdc.gInt cs)<|Je4 cY 46 [fd] R Y37 bS R λfo fQ hc cZ ae d9=>⟨((ac.tr ae).cl R),Ob h λfe eS h=>Jz3 cZ E6 34 [] R Y37 bS R (bY.stp<|T12 q s i C I X ad L S M ac ae) (Du (cc _) d9.rdc) bV eS R λdj du hd c0 aD ea=>⟨((T3 ac ae aD).cl R),Jn 1 R<|Jt1<|Jo<|Jz<|Jp<|Jg3 R ?_⟩⟩
 have eN:Dr .i64 (ab+1)=ab+1:=wr1 eB (Jn2 ah) eA
 rw[eN]
 have ah:=Jn2 ah
 cases h
 exact Ja2 ⟨c0,ab+1,(aw.1,fc,fe),aU,aN,di,dr,dj,du,R,(T14 B q s i C I X ad L S M ac ae aD).wk R,(d3.stp<|T6 L S M ac ae aD),(d7.stp<|T4 M ac ae aD),ea,by omega,by omega,a3⟩ R
 rintro _ gU ⟨cT,y,aR,aZ,aS,aI,aV,aY,rfl,bc,dW,dX,dY,rfl⟩
 have h:=yI ey
 refine Jp<|Je [2,1,2,1,1,2,1] R<|Je3 R U33 R Z31 ?_
 have b8:=bP.stp (T7 v f o p g d bc)
 have bE:=(T7 v f o p g d bc)
 refine Jc3 R I31 (b8.ld 0 R R)<|Jn 1 R<|Jx3 cT (Dp E6 2) 37 [33] (parts:=[(0,.tmp 144)]) (cells:=[.slice aS y.2.1.length aI]) (xs:=([y.2.1]:VV)) R Y31 bW R (Jf4 ⟨_,_,R,dX⟩) λf6 fP he c1 af ec=>Tv<|Ob h λa5 eT h=>Jz3 c1 (Dp E6 2) 30 [37] R Y31 bW R (bN.stp<|bE.tr af) ec.src (c9 R) eT R λaL aH hf bz al ed=>Tv<|Je3 R U33 R Z31<|Jv3 bz 29 (off:=0) (vc:=[.slice aL a5.length aH]) (cs':=[.slice aL a5.length aH,.slice ap c.2.2.2.length aq]) R Z31 R (b8.stp<|af.tr al) R λhg am b9=>Tv<|Jd<|Ja [2,1,2,1,1,2,1] R<|Je3 R U33 R Z31<|Jc3 R I31 (b9.ld 1 R R)<|Jn 1 R<|Jx3 bz (Dp E6 2) 38 [34] (parts:=[(0,.tmp 150)]) (cells:=[.slice aV y.2.2.length aY]) (xs:=([y.2.2]:VV)) R Y31 bW R (Jf4 ⟨_,_,R,(dY.stp<|T3 af al am)⟩) λf0 f2 hh c2 an ee=>Tv<|Ob h λbs eV h=>Jz3 c2 (Dp E6 2) 31 [38] R Y31 bW R (bO.stp<|T5 bE af al am an) ee.src (c9 R) eV R λbe bh hi bA aE ef=>Tv<|Je3 R U33 R Z31<|Jv3 bA 29 (off:=1) (vc:=[.slice be bs.length bh]) (cs':=[.slice aL a5.length aH,.slice be bs.length bh]) R Z31 R (b9.stp<|an.tr aE) R λhj aF eg=>Tv<|Jo<|Jz<|Jp<|Jg3 R ?_
 cases h
 exact Ja2 ⟨bA,(y.1,((Dr .i64<|c.2.1+1):Int),a5,bs),aR,aZ,aL,aH,be,bh,R,(T14 G v f o p g d bc af al am an aE aF).wk R,(dW.stp<|T6 af al am an aE aF),(ed.stp<|T4 am an aE aF),(ef.stp aF),eg,cm⟩ R
 rintro _ gN ⟨ay,aa,bg,bf,aM,aP,aW,aO,rfl,aC,gb,dP,dQ,dR,rfl⟩
 have h:=yI ex
 refine Jp<|Jq<|Jh3 [2,2,2] 1 R<|Jo3 R U37 R R<|Jb 1 R ?_
 revert h
 cases gj:decide (48<(aa.1.length:Int))
 refine JF λh=>Jy R<|Js<|Jp<|Je [1,1,2] R<|Jc4 tv R (Jd4 (haE dR.cells) I33 Z33 R)<|Ji4 ay 3 R Z33 R (a1.stp<|W.tr<|H.tr<|K.tr<|Y.tr<|D.tr<|E.tr<|N.tr<|O.tr<|P.tr<|Z.tr<|x.tr<|t.tr<|j.tr<|e.tr<|k.tr<|F.tr<|z.tr<|A.tr<|u.tr<|m.tr<|n.tr aC) R λhl bd ei=>Tv<|Jb 1 R<|Ju<|Jb2 (l:=[.cell 4 33,.tmp 5]) results11 (cg R ei I33 Z33 R<|Jq2 R R) R ?_
 cases h
 exact⟨(λbi=>ren [(30,2),(31,3)]<|ay bi),aM,aP,aW,aO,R,((a2.stp<|ak.tr<|ag.tr<|W.tr<|H.tr<|K.tr<|Y.tr<|D.tr<|E.tr<|N.tr<|O.tr<|P.tr<|Z.tr<|x.tr<|t.tr<|j.tr<|e.tr<|k.tr<|F.tr<|z.tr<|A.tr<|u.tr<|m.tr<|n.tr<|aC.tr bd).map (ren [(30,2),(31,3)]) R R),((dP.stp bd).map (ren [(30,2),(31,3)]) R R),((dQ.stp bd).map (ren [(30,2),(31,3)]) R R)⟩
 refine JT λh=>Jx R<|Je [2,1,2] R<|Jf R (Jj4 [.slice none 0 0,.slice none 0 0] R)<|Ji4 ay 3 R Z33 R (a1.stp<|W.tr<|H.tr<|K.tr<|Y.tr<|D.tr<|E.tr<|N.tr<|O.tr<|P.tr<|Z.tr<|x.tr<|t.tr<|j.tr<|e.tr<|k.tr<|F.tr<|z.tr<|A.tr<|u.tr<|m.tr<|n.tr aC) R λhk df eh=>Tv<|Jb 1 R<|Ju<|Jw<|Jb2 (l:=[.cell 4 33,.tmp 5]) results11 (cg R eh I33 Z33 R<|Jq2 R R) R ?_
 cases h
 exact⟨ay,none,0,none,0,R,(a2.stp<|ak.tr<|ag.tr<|W.tr<|H.tr<|K.tr<|Y.tr<|D.tr<|E.tr<|N.tr<|O.tr<|P.tr<|Z.tr<|x.tr<|t.tr<|j.tr<|e.tr<|k.tr<|F.tr<|z.tr<|A.tr<|u.tr<|m.tr<|n.tr<|aC.tr df),Dt,Dt⟩
 refine JT λh=>Jx R<|Je [2,1,2] R<|Jf R (Jj4 [.slice none 0 0,.slice none 0 0] R)<|Ji4 a6 3 R Z33 R (a1.stp<|T15 W H K Y D E N O P Z x t j e k) R λgG dc dG=>Tv<|Jb 1 R<|Ju<|Jw<|Jb2 (l:=[.cell 4 33,.tmp 5]) results11 (cg R dG I33 Z33 R<|Jq2 R R) R ?_
 cases h
 exact⟨a6,none,0,none,0,R,(a2.stp<|ak.tr<|ag.tr<|W.tr<|H.tr<|K.tr<|Y.tr<|D.tr<|E.tr<|N.tr<|O.tr<|P.tr<|Z.tr<|x.tr<|t.tr<|j.tr<|e.tr<|k.tr dc),Dt,Dt⟩
 refine JT λh=>Jx R<|Je [2,1,2] R<|Jf R (Jj4 [.slice none 0 0,.slice none 0 0] R)<|Ji4 az 3 R Z33 R (a1.stp<|T3 W H K) R λg9 de eb=>Tv<|Jb 1 R<|Ju<|Jw<|Jb2 (l:=[.cell 4 33,.tmp 5]) results11 (cg R eb I33 Z33 R<|Jq2 R R) R ?_
 cases h
 exact⟨az,none,0,none,0,R,(a2.stp<|T6 ak ag W H K de),Dt,Dt⟩
theorem lS {p0:Sig}{F E C B}{p1:Det}{D G A H}{p2:Det}(aw:Rd Rs J w 0 F E p1.Next) (ax:Rd Pair.rp J w 0 C B p1.Pairs) (M:Rd Rs J w 0 D G p2.Next) (N:Rd Pair.rp J w 0 A H p2.Pairs){r:Det×Bool}(h:kw p0 p1 p2=some r):Ret prog 121 [.agg #[vi p0.In,vi p0.Out],.agg #[.slice F p1.Next.length E,.slice C p1.Pairs.length B],.agg #[.slice D p2.Next.length G,.slice A p2.Pairs.length H]] w (λaE s=>∃(t:Col) (T:Option Addr) (V:Nat) (U:Option Addr) (W:Nat),aE= .tuple #[.agg #[.slice T r.1.Next.length V,.slice U r.1.Pairs.length W],.bool r.2]/\Ent J w t s/\Oc (Dp E6 2) 37 t s 2 T V r.1.Next/\Oc Pair.ep127 127 t s 3 U W r.1.Pairs):=by
 unfold kw at h
 refine Jl3 J func121 R ntmps121 R λO=>Je [1,1,1,1,2] R<|Jt3 J 2 R λaJ aX Z j ao=>Tv<|Jt3 Z 3 R λaK a1 ab i au=>Tv<|Jt3 ab 4 R λaL a7 X e o=>Tv<|Ju3 X 5 R X71 R λaM aY Y b I=>Tv<|Jb 1 R<|Jq<|Je [1,1,1,2,2,1,1,1,2,2,2,2,1,2,2,1,2,2,2,2] R ?_
 have p:=ao.stp (T3 i e b)
 refine Jc4 tv R (Jd4 (haE p.cells) I28 Z28 R) ?_
 have q:=au.stp (e.tr b)
 refine Jc4 tv R (Jd4 (haE q.cells) I71 Z71 R)<|Ob h λaH aA h=>?_
 have K:=aw.stp (T4 j i e b)
 have L:=ax.stp (T4 j i e b)
 refine Js3 R call123 (lQ (J:=Mk Y) (p0:=p0) (p1:=p1) (Jj3 K) (Jj3 L) aA) ?_
 rintro _ aF ⟨aQ,rfl,ak⟩
 obtain⟨u,a,aU⟩:=Ji ak 6 R
 refine Tv<|Jn 2 R<|Ob h λQ h ay=>Jg4 [3,4,5,6] 17 Q u aF [(5,1),(6,1),(7,1),(8,2),(9,2)] [(10,2),(11,2),(12,1),(13,2),(14,2),(15,1),(16,2),(17,2),(18,2),(19,2)] tv ?_ ?_
 revert h
 cases aN:(!aH)
 have x:=(T5 j i e b a)
 refine JF λh=>Jc4 tv R (Jd4 (haE (p.stp a).cells) I28 Z28 R)<|Jc4 tv R (Jd4 (haE (o.stp<|b.tr a).cells) I71 Z71 R)<|Ob h λa8 aB h=>Js3 R call123 (lQ (J:=Mk u) (p0:=p0) (p1:=p2) (Jj3<|M.stp x) (Jj3<|N.stp x) aB) ?_
 rintro _ aZ ⟨aR,rfl,al⟩
 obtain⟨aI,ad,aV⟩:=Ji al 8 R
 refine Tv<|Jn 2 R ?_
 cases h
 exact Jv1 _ tv ⟨R,_,ad.wk R⟩<|KM R
 refine JT λh=>Ja4 R<|Ja4 R<|Ja4 R<|Jn 2 R ?_
 cases h
 exact Jh4 tv R
 rintro _ aG _ ⟨rfl,aa,c⟩
 have h:=ay
 refine Jn 1 R<|Ob h λS h az=>Jg4 [3,4,5,6] 27 S aa aG [(11,2),(12,1),(13,2),(14,2),(15,1),(16,2),(17,2),(18,2),(19,2)] [] tv ?_ ?_
 revert h
 cases aO:Q
 refine JF λh=>Je3 R U71 R Z69<|Jc3 R I69 ((q.stp<|a.tr c).ld 1 R R)<|Jo3 R U69 R R<|Je3 R U71 R Z69<|Jc3 R I69 ((o.stp<|T3 b a c).ld 1 R R)<|Jo3 R U69 R R<|Jn 3 R ?_
 cases h
 exact Jh4 tv R
 refine JT λh=>Jn 1 R<|Ja4 R<|Jn 2 R<|Ja4 R<|Jn 4 R ?_
 cases h
 exact Jh4 tv R
 rintro _ a0 _ ⟨rfl,k,d⟩
 have h:=az
 refine Jd ?_
 revert h
 cases aP:S
 refine JF λh=>Jy R<|Js<|Jp<|Jq<|Js1 (J:=k) [2,3,4] none [(0,0),(1,0),(2,0),(3,1),(4,1),(5,2),(6,2),(7,1),(8,2)] [] (by kernel_rfl) (by kernel_rfl) λa3 f=>Jg R (Jd4 (haC (q.stp<|T4 a c d f).cells R) I71 Z71 R)<|Jg R (Jd4 (haC (o.stp<|T5 b a c d f).cells R) I71 Z71 R)<|Jg R (Jd4 (haC (p.stp<|T4 a c d f).cells R) I28 Z28 R)<|Ob h λa9 aC h=>Js3 R call120 (g7 (J:=Mk k) (p0:=p0) aC) ?_
 rintro _ a4 ⟨aS,rfl,am⟩
 obtain⟨ac,g,aW⟩:=Ji am 8 R
 have y:=(T9 j i e b a c d f g)
 have z:=(T5 a c d f g)
 refine⟨(g.cl R),Ob h λba aD h=>Js3 R call186 (sK (J:=Mk ac) (p0:=p1) (p1:=p2) (Jj3<|K.stp z) (Jj3<|L.stp z) (Jj3<|M.stp y) (Jj3<|N.stp y) aD) ?_⟩
 rintro _ a5 ⟨aT,ai,af,ag,ah,rfl,an,aq,ar⟩
 obtain⟨v,m,P⟩:=Ji an 10 R
 refine⟨((g.tr m).cl R),Jn 2 R<|Ji4 v 5 R Z71 R (I.stp<|T6 a c d f g m) R λa6 n av=>⟨((T3 g m n).cl R),Jn 1 R<|Jt1<|Jd<|Ju<|Jb2 (l:=[.cell 6 71,.tmp 7]) results121 (cg R av I71 Z71 R<|Jq2 R R) R ?_⟩⟩
 cases h
 exact⟨(λaj=>ren [(12,2),(13,3)]<|v aj),ai,af,ag,ah,R,((O.stp<|T11 j i e b a c d f g m n).map (ren [(12,2),(13,3)]) R R),(((aq.mx (cQ (bZ _) _) P R (R:10+2=12)).stp n).map (ren [(12,2),(13,3)]) R R),(((ar.mx Pair.no127 P R (R:10+3=13)).stp n).map (ren [(12,2),(13,3)]) R R)⟩
 refine JT λh=>Jx R<|Je [2,1,2] R<|Jf R (Jj4 [.slice none 0 0,.slice none 0 0] R)<|Ji4 k 5 R Z71 R (I.stp<|T3 a c d) R λa2 ae ap=>Tv<|Jb 1 R<|Ju<|Jw<|Jb2 (l:=[.cell 6 71,.tmp 7]) results121 (cg R ap I71 Z71 R<|Jq2 R R) R ?_
 cases h
 exact⟨k,none,0,none,0,R,(O.stp<|T8 j i e b a c d ae),Dt,Dt⟩
theorem og {p0:Sig}{aE a3}{p1:VC}(b3:Rd Clause.rp J w 0 aE a3 p1){r:Det×Bool}(h:cO p0 p1=some r):Ret prog 51 [.agg #[vi p0.In,vi p0.Out],.slice aE p1.length a3] w (λcd a=>∃(b:Col) (aZ:Option Addr) (a1:Nat) (a0:Option Addr) (a2:Nat),cd= .tuple #[.agg #[.slice aZ r.1.Next.length a1,.slice a0 r.1.Pairs.length a2],.bool r.2]/\Ent J w b a/\Oc (Dp E6 2) 37 b a 2 aZ a1 r.1.Next/\Oc Pair.ep127 127 b a 3 a0 a2 r.1.Pairs):=by
 unfold cO at h
 refine Jl3 J func51 R ntmps51 R λau=>Je [1,1,2] R<|Jt3 J 2 R λcj cz a9 T bN=>Tv<|Ju3 a9 3 R X71 R λck cU bd E ar=>Tv<|Jb 1 R<|Jq<|Je [1,2,1,2] R ?_
 have aM:=bN.stp E
 refine Jc4 tv R (Jd4 (haE aM.cells) I28 Z28 R)<|Jn 1 R<|Ob h λcf b9 h=>?_
 have ai:=b3.stp (T.tr E)
 refine Js3 R call75 (sA (J:=Mk bd) (p0:=p0) (Jj3 ai) b9) ?_
 rintro _ cC ⟨cp,rfl,bo⟩
 obtain⟨am,k,cv⟩:=Ji bo 4 R
 refine Tv<|Jb 1 R ?_
 revert h
 cases cn:(!cf)
 refine JF λh=>Jy R<|Js<|Jp<|Je [1,1,1,1,2,1,1] R ?_
 have aI:=aM.stp k
 refine Jc4 tv R (Jd4 (haE aI.cells) I28 Z28 R)<|Ob h λc0 ca h=>Js3 R call120 (g7 (J:=Mk am) (p0:=p0) ca) ?_
 rintro _ cP ⟨cs,rfl,br⟩
 obtain⟨ba,t,cw⟩:=Ji br 6 R
 refine Tv<|Ob h λal cb h=>Jl1 (J:=ba) (E:=E6) (z:=(0:Int)) 8 R R R R R R R Y37 bS R R R R R (λ_ _ _=>R) (Jv2 cb) λbj bm cR bb u bL=>Tv<|Jx3 bb (Dp E6 2) 9 [8] (parts:=[(0,.tmp 17)]) (cells:=[.slice bj al.length bm]) (xs:=([al]:VV)) R Y31 bW R (Jf4 ⟨_,_,R,bL⟩) λaG aF cS bc v bM=>Tv<|Jf R (Jj4 [.slice aG ([al]:VV).length aF,.slice none 0 0] R)<|Ju3 bc 10 R X71 R λaH cT M o bO=>Tv<|Ji4 M 10 R Z71 R bO R λa4 p bP=>Tv<|Jd<|Jq<|Jf3 R<|Ob h λaY b6 aQ=>?_
 clear h
 refine Jp3 [4,6] (λq C a=>∃b,∃A:VV×VP,∃Z ae ab ad,C=q/\Stp [10,12,13,16,18,19,20] M a4 b a/\Oc (Dp E6 2) 37 b a 9 Z ae A.1/\Oc Pair.ep127 127 b a 11 ab ad A.2/\Bc b a 10 aH 71 [.slice Z A.1.length ae,.slice ab A.2.length ad]/\aY=Dv A) ?_ ?_
 refine Jv<|Jq3 [1,2,4,6] (λL q C a=>∃b m,∃c:VV×VP,∃W Y ah af,C=(7,vi m)::q/\Stp [10,12,13,16,18,19,20] M a4 b a/\Oc (Dp E6 2) 37 b a 9 W Y c.1/\Oc Pair.ep127 127 b a 11 ah af c.2/\Bc b a 10 aH 71 [.slice W c.1.length Y,.slice ah c.2.length af]/\0<=m/\Dq ((p1.length:Int)-m)=L/\cntM (fw p0 p1) L m c=some aY) ⟨_,_,⟨M,0,((([al]:VV):VV),([]:VP)),aG,aF,none,0,R,Jk3,(bM.stp<|o.tr p),Dt,bP,(by decide),(by simp),b6⟩,(KM R)⟩ ?_
 rintro L _ ce ⟨B,m,c,W,Y,ah,af,rfl,x,aj,ak,aq,b4,aP,h⟩
 rcases L with _|L
 have K:=h;obtain⟨cc,h⟩:=exq K
 have y:=dcf aP
 refine Jq<|Jh3 [2,2,2,2] 2 R<|Jo3 R U29 R R<|Jb 1 R<|Jx2 R y<|Jc1<|Jt<|Jt ?_
 cases h
 have h:=K
 refine Jb1 ?_
 cases h
 exact Jw1 _ ⟨B,(c.1,c.2),W,Y,ah,af,R,x.wk R,aj,ak,aq,R⟩<|KM R
 obtain⟨cc,h,K⟩:=BI h;unfold fw at h
 have y:=dct aP
 refine Jq<|Jh3 [2,2,2,2] 2 R<|Jo3 R U29 R R<|Jb 1 R<|Jw2 R y<|Js<|Jp<|Jq<|Jv<|Jq<|Ob h λa5 aR h=>Ob h λaw aS h=>Ob h λn av h=>Jp3 [1,2,4,6,7] (λq C a=>∃b g aa X ac ag,C=(8,.pointer (some ⟨g,0,none⟩))::(9,.bool n.2)::q/\Stp [12,16,18,19,20] B ce b a/\Oc (Dp E6 2) 37 b a 12 aa X n.1.Next/\Oc Pair.ep127 127 b a 13 ac ag n.1.Pairs/\Bc b a 14 g 71 [.slice aa n.1.Next.length X,.slice ac n.1.Pairs.length ag]) ?_ ?_
 refine WC.rxt (J:=B) [0,2,10] none (by kernel_rfl) λcX e=>Jq1 (fuel:=8) [(3,2),(4,2),(5,2),(0,0),(1,0),(2,0),(6,0)] (by kernel_rfl) (by kernel_rfl) R<|Jn 2 R<|Jd3 R ai aR U29 Z67 ?_
 have aJ:=aI.stp (T7 t u v o p x e)
 refine Jg R (Jd4 (haC aJ.cells R) I28 Z28 R)<|Jg R (Jd4 (haC (aq.stp e).cells R) I71 Z71 R)<|Jg R (Jd4 (haC aJ.cells R) I28 Z28 R) ?_
 obtain⟨cl,b7,b5⟩:=((ai.stp (T8 k t u v o p x e))).gSt aR
 obtain⟨ch,cx,ci,cy,rfl,aN,aO⟩:=Clause.un b7
 refine Jg R (Jd4 (haC b5 R) I67 Z67 R)<|Jp1<|WA.fork2 (fuel:=7) 7 12 (by kernel_rfl) R ?_ ?_
 refine Js3 R call122 (od (J:=Mk B) (p0:=p0) (p1:=a5) (Jj3 aN) (Jj3 aO) aS) ?_
 rintro _ cY ⟨ct,bk,bh,bl,bi,rfl,bs,bY,b0⟩
 obtain⟨aB,d,aW⟩:=Ji bs 12 R
 refine⟨(d.cl R),?_⟩
 have aK:=bY.mx (cQ (bZ _) _) aW R (R:12+2=14)
 have aL:=b0.mx Pair.no127 aW R (R:12+3=15)
 refine Jp1<|WA.fork2 (fuel:=6) 8 12 (by kernel_rfl) R ?_ ?_
 refine Js3 R call121 (lS (J:=Mk aB) (p0:=p0) (p1:=(⟨c.1,c.2⟩:Det)) (p2:=aw) (Jj3 (aj.stp<|e.tr d).rdc) (Jj3 (ak.stp<|e.tr d).rdc) (Jj3 aK.rdc) (Jj3 aL.rdc) av) ?_
 rintro _ cZ ⟨cu,F,G,H,I,rfl,bt,b1,b2⟩
 obtain⟨be,V,aX⟩:=Ji bt 16 R
 exact⟨((d.tr V).cl R),Jp1<|Jq1 (fuel:=0) [(9,2),(10,2),(11,2),(12,1),(13,1),(14,2)] (by kernel_rfl) (by kernel_rfl) R<|Jn 3 R<|Ju3 be 20 R X71 R λg cA ax D bu=>⟨((T3 d V D).cl R),Ji4 ax 20 R Z71 R bu R λcB O bv=>⟨((T4 d V D O).cl R),Jn 1 R<|Jp1<|Jr1 [] (by kernel_rfl) (by kernel_rfl) R<|Jo<|Jw1 _ ⟨(λf=>ren [(18,12),(19,13),(20,14)]<|ax f),g,F,G,H,I,R,(Jz2 ((T5 e d V D O).wk R) [(18,12),(19,13),(20,14)] R),(((b1.mx (cQ (bZ _) _) aX R (R:16+2=18)).stp (D.tr O)).map (ren [(18,12),(19,13),(20,14)]) R R),(((b2.mx Pair.no127 aX R (R:16+3=19)).stp (D.tr O)).map (ren [(18,12),(19,13),(20,14)]) R R),(bv.map (ren [(18,12),(19,13),(20,14)]) R R)⟩<|KM R⟩⟩⟩
 refine Ju3 aB 16 R X71 R λg cD a6 i bw=>⟨((d.tr i).cl R),Jp1<|Jq1 (fuel:=0) [(8,1),(9,2),(10,2),(11,2),(13,1),(14,2)] (by kernel_rfl) (by kernel_rfl) R<|Js3 R call121 (lS (J:=Mk a6) (p0:=p0) (p1:=(⟨c.1,c.2⟩:Det)) (p2:=aw) (Jj3 (aj.stp<|T3 e d i).rdc) (Jj3 (ak.stp<|T3 e d i).rdc) (Jj3 (aK.stp i).rdc) (Jj3 (aL.stp i).rdc) av) ?_⟩
 rintro _ cE ⟨co,F,G,H,I,rfl,bn,bx,bz⟩
 obtain⟨ay,P,aT⟩:=Ji bn 17 R
 exact⟨((T3 d i P).cl R),Jn 3 R<|Ji4 ay 16 R Z71 R (bw.stp P) R λcF Q bA=>⟨((T4 d i P Q).cl R),Jn 1 R<|Jp1<|Jr1 [] (by kernel_rfl) (by kernel_rfl) R<|Jo<|Jw1 _ ⟨(λf=>ren [(19,12),(20,13),(16,14)]<|ay f),g,F,G,H,I,R,(Jz2 ((T5 e d i P Q).wk R) [(19,12),(20,13),(16,14)] R),(((bx.mx (cQ (bZ _) _) aT R (R:17+2=19)).stp Q).map (ren [(19,12),(20,13),(16,14)]) R R),(((bz.mx Pair.no127 aT R (R:17+3=20)).stp Q).map (ren [(19,12),(20,13),(16,14)]) R R),(bA.map (ren [(19,12),(20,13),(16,14)]) R R)⟩<|KM R⟩⟩
 refine Ju3 B 12 R X71 R λg cG a7 j bB=>⟨(j.cl R),Jp1<|Jq1 (fuel:=0) [(7,1),(8,1),(9,2),(10,2),(11,2),(13,1),(14,2)] (by kernel_rfl) (by kernel_rfl) R<|Js3 R call122 (od (J:=Mk a7) (p0:=p0) (p1:=a5) (Jj3<|aN.stp j) (Jj3<|aO.stp j) aS) ?_⟩
 rintro _ cH ⟨cq,bk,bh,bl,bi,rfl,bp,bC,bD⟩
 obtain⟨a8,s,aU⟩:=Ji bp 13 R
 refine⟨((j.tr s).cl R),Js3 R call121 (lS (J:=Mk a8) (p0:=p0) (p1:=(⟨c.1,c.2⟩:Det)) (p2:=aw) (Jj3 (aj.stp<|T3 e j s).rdc) (Jj3 (ak.stp<|T3 e j s).rdc) (Jj3 (bC.mx (cQ (bZ _) _) aU R (R:13+2=15)).rdc) (Jj3 (bD.mx Pair.no127 aU R (R:13+3=16)).rdc) av) ?_⟩
 rintro _ cI ⟨cr,F,G,H,I,rfl,bq,bE,bF⟩
 obtain⟨az,an,aV⟩:=Ji bq 17 R
 have aC:=(T3 j s an)
 exact⟨(aC.cl R),Jn 3 R<|Ji4 az 12 R Z71 R (bB.stp<|s.tr an) R λcJ S bG=>⟨((aC.tr S).cl R),Jn 1 R<|Jp1<|Jr1 [] (by kernel_rfl) (by kernel_rfl) R<|Jo<|Jw1 _ ⟨(λf=>ren [(19,12),(20,13),(12,14)]<|az f),g,F,G,H,I,R,(Jz2 ((T5 e j s an S).wk R) [(19,12),(20,13),(12,14)] R),(((bE.mx (cQ (bZ _) _) aV R (R:17+2=19)).stp S).map (ren [(19,12),(20,13),(12,14)]) R R),(((bF.mx Pair.no127 aV R (R:17+3=20)).stp S).map (ren [(19,12),(20,13),(12,14)]) R R),(bG.map (ren [(19,12),(20,13),(12,14)]) R R)⟩<|KM R⟩⟩
 rintro _ cW ⟨N,g,aa,X,ac,ag,rfl,U,bU,bV,bX⟩
 refine Jp<|Jq<|Jf3 R ?_
 revert h
 cases cm:(!n.2)
 refine JF λh=>Jy R<|Js<|Jp<|Ja [1,1] R<|Jc4 tv R (Jd4 (haE bX.cells) I71 Z71 R)<|Ji4 N 10 R Z71 R (aq.stp U) R λcL ao bI=>Tv<|Jo<|Jz<|Jp<|Jg3 R ?_
 have b8:Dr .i64 (m+1)=m+1:=wr1 b4 (Jn2 y) ai.len_le
 rw[b8]
 have y:=Jn2 y
 cases h
 exact Ja2 ⟨(λf=>ren [(12,9),(13,11)]<|N f),m+1,(n.1.Next,n.1.Pairs),aa,X,ac,ag,R,(Jz2 ((T3 x U ao).wk R) [(12,9),(13,11)] R),((bU.stp ao).map (ren [(12,9),(13,11)]) R R),((bV.stp ao).map (ren [(12,9),(13,11)]) R R),(bI.map (ren [(12,9),(13,11)]) R R),by omega,by omega,K⟩ R
 refine JT λh=>Jx R<|Je [2,1,2] R<|Jf R (Jj4 [.slice none 0 0,.slice none 0 0] R)<|Ji4 N 3 R Z71 R (ar.stp<|T8 k t u v o p x U) R λcK bf bH=>Tv<|Jb 1 R<|Ju<|Jw<|Ja1<|Jw<|Jw ?_
 cases h
 obtain rfl:=Ds K
 have h:=yL aQ
 refine Ja1<|Jr2<|Jw<|Jb2 (l:=[.cell 4 71,.tmp 5]) results51 (cg R bH I71 Z71 R<|Jq2 R R) R ?_
 cases h
 exact⟨N,none,0,none,0,R,(au.stp<|T11 T E k t u v o p x U bf),Dt,Dt⟩
 rintro _ cV ⟨aA,A,Z,ae,ab,ad,rfl,aD,bQ,bR,bT,rfl⟩
 have h:=yI aQ
 refine Jp<|Je [1,1,2] R<|Jc4 tv R (Jd4 (haE bT.cells) I71 Z71 R)<|Ji4 aA 3 R Z71 R (ar.stp<|T7 k t u v o p aD) R λcM ap bJ=>Tv<|Jb 1 R<|Ju<|Jb2 (l:=[.cell 4 71,.tmp 5]) results51 (cg R bJ I71 Z71 R<|Jq2 R R) R ?_
 cases h
 exact⟨(λf=>ren [(9,2),(11,3)]<|aA f),Z,ae,ab,ad,R,((au.stp<|T10 T E k t u v o p aD ap).map (ren [(9,2),(11,3)]) R R),((bQ.stp ap).map (ren [(9,2),(11,3)]) R R),((bR.stp ap).map (ren [(9,2),(11,3)]) R R)⟩
 refine JT λh=>Jx R<|Je [2,1,2] R<|Jf R (Jj4 [.slice none 0 0,.slice none 0 0] R)<|Ji4 am 3 R Z71 R (ar.stp k) R λcN bg bK=>Tv<|Jb 1 R<|Ju<|Jw<|Jb2 (l:=[.cell 4 71,.tmp 5]) results51 (cg R bK I71 Z71 R<|Jq2 R R) R ?_
 cases h
 exact⟨am,none,0,none,0,R,(au.stp<|T4 T E k bg),Dt,Dt⟩
theorem sB {p0:Sig}{b3 b5 b4 b2}{p1:Det}(d9:Rd Rs J w 0 b3 b5 p1.Next) (ea:Rd Pair.rp J w 0 b4 b2 p1.Pairs){r:Arena×VP×Bool}(h:gY p0 p1=some r):Ret prog 65 [.agg #[vi p0.In,vi p0.Out],.agg #[.slice b3 p1.Next.length b5,.slice b4 p1.Pairs.length b2]] w (λeP a=>∃(b:Col) (cE:Option Addr) (cI:Nat) (cF:Option Addr) (cJ:Nat) (cH:Option Addr) (cK:Nat),eP= .tuple #[.agg #[.slice cE r.1.Owner.length cI,.slice cF r.1.Next.length cJ],.slice cH r.2.1.length cK,.bool r.2.2]/\Ent J w b a/\Oc E6 2 b a 2 cE cI r.1.Owner/\Oc (Dw Rs) 37 b a 3 cF cJ r.1.Next/\Oc Pair.ep127 127 b a 4 cH cK r.2.1):=by
 unfold gY at h
 refine Jl3 J func65 R ntmps65 R λcr=>Je [1,1,1,2,2] R<|Jt3 J 2 R λe0 fB c0 au dV=>Tv<|Jt3 c0 3 R λe1 f2 c5 Q d3=>Tv<|Ju3 c5 4 R X75 R λe2 f8 cS z b7=>Tv<|Jb 2 R<|Jq<|Je [1,1,1,2] R ?_
 have b8:=dV.stp (Q.tr z)
 refine Jc4 tv R (Jd4 (haE b8.cells) I28 Z28 R) ?_
 have cb:=d3.stp z
 refine Jc4 tv R (Jd4 (haE cb.cells) I71 Z71 R)<|Ob h λeS eA h=>?_
 have aZ:=d9.stp (T3 au Q z)
 have ac:=ea.stp (T3 au Q z)
 refine Js3 R call123 (lQ (J:=Mk cS) (p0:=p0) (p1:=p1) (Jj3 aZ) (Jj3 ac) eA) ?_
 rintro _ fL ⟨fl,rfl,dr⟩
 obtain⟨bJ,k,fv⟩:=Ji dr 5 R
 refine Tv<|Jb 1 R ?_
 revert h
 cases fj:(!eS)
 refine JF λh=>Jy R<|Js<|Jp<|Je [2,1,2,2] R<|Je3 R U71 R Z31 ?_
 have a0:=cb.stp k
 refine Jc3 R I31 (a0.ld 0 R R)<|Jo3 R U31 R R<|Jb 1 R<|Je [1,1,2] R ?_
 have cl:=b8.stp k
 refine Jc4 tv R (Jd4 (haE cl.cells) I28 Z28 R)<|Ob h λK eB h=>Js3 R call129 (sL (J:=Mk bJ) (p0:=p0) eB) ?_
 rintro _ f0 ⟨fr,rfl,du⟩
 obtain⟨c4,s,fw⟩:=Ji du 7 R
 refine Tv<|Jb 1 R<|Je [2,1,1] R<|Jf R (Jj4 [.slice none 0 0,.slice none 0 0] R)<|Ju3 c4 9 R X75 R λD f1 ag t dW=>Tv<|Ji4 ag 9 R Z75 R dW R λcO u dX=>Tv<|Jd<|Jq<|Jf3 R<|Ob h λcB ep ee=>?_
 clear h
 refine Jp3 [2,3,4,7,8,9] (λd e a=>∃b,∃n:VI×VV,∃ay aE az aD,e=d/\Stp [9,10,11,12,14] ag cO b a/\Oc E6 2 b a 10 ay aE n.1/\Oc (Dw<|Rs) 37 b a 11 az aD n.2/\Bc b a 9 D 75 [.slice ay n.1.length aE,.slice az n.2.length aD]/\cB=Dv n) ?_ ?_
 refine Jv<|Jq3 [2,3,4,7,8,9] (λc d e a=>∃b g,∃i:VI×VV,∃aP aV U X,e=(10,vi g)::d/\Stp [9,10,11,12,14] ag cO b a/\Oc E6 2 b a 10 aP aV i.1/\Oc (Dw<|Rs) 37 b a 11 U X i.2/\Bc b a 9 D 75 [.slice aP i.1.length aV,.slice U i.2.length X]/\0<=g/\Dq ((p1.Next.length:Int)-g)=c/\cntM (fo p1 K) c g i=some cB) ⟨_,_,⟨ag,0,(([]:VI),([]:VV)),none,0,none,0,R,Jk3,Dt,Dt,dX,(by decide),(by simp),ep⟩,(KM R)⟩ ?_
 rintro c _ f3 ⟨bM,g,i,aP,aV,U,X,rfl,bY,cm,cn,co,ej,ct,h⟩
 rcases c with _|c
 have a7:=h;obtain⟨eN,h⟩:=exq a7
 have F:=dcf ct
 refine Jq<|Jf3 R<|Jx2 R F<|Jc1<|Jt<|Jt ?_
 cases h
 have h:=a7
 refine Jb1 ?_
 cases h
 exact Jw1 _ ⟨bM,(i.1,i.2),aP,aV,U,X,R,bY.wk R,cm,cn,co,R⟩<|KM R
 obtain⟨eN,h,a7⟩:=BI h;unfold fo at h
 have F:=dct ct
 refine Jq<|Jf3 R<|Jw2 R F<|Js<|Jp<|Jq<|Jv<|Je [1,2] R<|Jy3 bM E6 12 R Y37 bS R λdj dh cQ bj av d1=>Tv<|Jb 1 R<|Jq<|Jf3 R<|Ob h λ_ es h=>?_
 have eh:=jG es
 refine Ob h λcC eq ef=>?_
 clear h
 refine Jp3 [2,3,4,7,8,9,10] (λd e a=>∃b,∃G:VI,∃aJ aU,e=(11,.slice aJ G.length aU)::d/\Stp [12] bj cQ b a/\Oc E6 2 b a 12 aJ aU G/\cC=Dv G) ?_ ?_
 refine Jv<|Jq3 [2,3,4,7,8,9,10] (λc d e a=>∃b x,∃ae:VI,∃aW aI,e=(11,.slice aW ae.length aI)::(12,vi x)::d/\Stp [12] bj cQ b a/\Oc E6 2 b a 12 aW aI ae/\0<=x/\Dq (K-x)=c/\cntM (fp p1 K g) c x ae=some cC) ⟨_,_,⟨bj,0,([]:VI),dj,dh,R,Jk3,d1,(by decide),(by simp),eq⟩,(KM R)⟩ ?_
 rintro c _ f5 ⟨bN,x,ae,aW,aI,rfl,b0,cp,cw,a3,h⟩
 rcases c with _|c
 have a8:=h;obtain⟨eO,h⟩:=exq a8
 have bC:=dcf a3
 refine Jq<|Jf3 R<|Jx2 R bC<|Jc1<|Jt<|Jt ?_
 cases h
 have h:=a8
 refine Jb1 ?_
 cases h
 exact Jw1 _ ⟨bN,ae,aW,aI,R,b0.wk R,cp,R⟩<|KM R
 obtain⟨eO,h,a8⟩:=BI h;unfold fp at h
 have bC:=dct a3
 refine Jq<|Jf3 R<|Jw2 R bC<|Js<|Jp<|Jq<|Jv<|Ji3 [2,2,2,2,2,2,2,2,1,1,2] 8 R<|Je4 bN 13 [(Dr .i64 ((Dr .i64 ((p1.Next.length:Int)+(Dr .i64<|g * K)))+x))] R Y37 bS R λfd e7 f6 c7 b1 d4=>Tv<|Ob h λeT eC h=>Jz3 c7 E6 12 [] R Y37 bS R (cp.stp b1) (Du (cc _) d4.rdc) bV eC R λdi de f7 c8 dc d5=>Tv<|Jc 1 R<|Jz<|Jp<|Jg3 R<|wr2 cw a3 eh ▸ ?_
 cases h
 exact Ja2 ⟨c8,x+1,eT,di,de,R,(T3 b0 b1 dc).wk R,d5,nxz cw,nxm a3,a8⟩ R
 rintro _ f4 ⟨c6,G,aJ,aU,rfl,aw,d2,rfl⟩
 have h:=yI ef
 refine Jp<|Je [2,1,1,1,2,1] R<|Je3 R U75 R Z37 ?_
 have cq:=co.stp (av.tr aw)
 refine Jc3 R I37 (cq.ld 0 R R)<|Je4 c6 13 [1] R Y37 bS R λe5 fb f9 da S d6=>Tv<|Ob h λbc eD h=>Jz3 da E6 10 [] R Y37 bS R (cm.stp<|T3 av aw S) (Du (cc _) d6.rdc) bV eD R λaT aF ga bO ah dv=>Tv<|Je3 R U75 R Z37<|Jv3 bO 9 (off:=0) (vc:=[.slice aT bc.length aF]) (cs':=[.slice aT bc.length aF,.slice U i.2.length X]) R Z37 R (cq.stp<|S.tr ah) R λeQ ai b6=>Tv<|Jd<|Ja [2,1,2,1,1,2,1] R<|Je3 R U75 R Z31<|Jc3 R I31 (b6.ld 1 R R)<|Jn 1 R ?_
 obtain⟨cT,aj,eU⟩:=gD bO eQ 12
 refine Jx3 cT (Dw<|Rs) 14 [] (parts:=[(0,.tmp 57)]) (cells:=[.slice aJ G.length aU]) (xs:=([G]:VV)) R Y31 bW R (Jf4 ⟨_,_,R,(Sl.z1<|Sl.st eU (d2.stp<|T3 S ah ai).rdc)⟩) λe8 fa fC cU ak dw=>Tv<|Ob h λbE eE h=>Jz3 cU (Dw<|Rs) 11 [14] R Y31 bW R (cn.stp<|T7 av aw S ah ai aj ak) dw.src (c9 R) eE R λbu bv fD bG bl dx=>Tv<|Je3 R U75 R Z31<|Jv3 bG 9 (off:=1) (vc:=[.slice bu bE.length bv]) (cs':=[.slice aT bc.length aF,.slice bu bE.length bv]) R Z31 R (b6.stp<|T3 aj ak bl) R λfE bm dy=>Tv<|Jo<|Jz<|Jp<|Jg3 R ?_
 have ew:Dr .i64 (g+1)=g+1:=wr1 ej (Jn2 F) aZ.len_le
 rw[ew]
 have F:=Jn2 F
 cases h
 exact Ja2 ⟨bG,g+1,(bc,bE),aT,aF,bu,bv,R,(T10 bY av aw S ah ai aj ak bl bm).wk R,(dv.stp<|T5 ai aj ak bl bm),(dx.stp bm),dy,by omega,by omega,a7⟩ R
 rintro _ cP ⟨bi,n,ay,aE,az,aD,rfl,v,dY,dZ,d0,rfl⟩
 have h:=yI ee
 refine Jp<|Jq<|Jf3 R<|Ob h λcD em eb=>?_
 clear h
 refine Jp3 [3,4,9] (λd e a=>∃b,∃H:VI×VV,∃aY aR aM aA,e=d/\Stp [9,10,11,16] bi cP b a/\Oc E6 2 b a 10 aY aR H.1/\Oc (Dw<|Rs) 37 b a 11 aM aA H.2/\Bc b a 9 D 75 [.slice aY H.1.length aR,.slice aM H.2.length aA]/\cD=Dv H) ?_ ?_
 refine Jv<|Jq3 [2,3,4,7,8,9] (λc d e a=>∃b y,∃f:VI×VV,∃aa Z V Y,e=(13,vi y)::d/\Stp [9,10,11,16] bi cP b a/\Oc E6 2 b a 10 aa Z f.1/\Oc (Dw<|Rs) 37 b a 11 V Y f.2/\Bc b a 9 D 75 [.slice aa f.1.length Z,.slice V f.2.length Y]/\0<=y/\Dq ((p1.Next.length:Int)-y)=c/\cntM (fq p0 p1 K) c y f=some cD) ⟨_,_,⟨bi,0,(n.1,n.2),ay,aE,az,aD,R,Jk3,dY,dZ,d0,(by decide),(by simp),em⟩,(KM R)⟩ ?_
 rintro c _ cL ⟨af,y,f,aa,Z,V,Y,rfl,al,b9,ca,cd,cu,a1,h⟩
 rcases c with _|c
 have a4:=h;obtain⟨eK,h⟩:=exq a4
 have bA:=dcf a1
 refine Jq<|Jf3 R<|Jx2 R bA<|Jc1<|Jt<|Jt ?_
 cases h
 have h:=a4
 refine Jb1 ?_
 cases h
 exact Jw1 _ ⟨af,(f.1,f.2),aa,Z,V,Y,R,al.wk R,b9,ca,cd,R⟩<|KM R
 obtain⟨eK,h,a4⟩:=BI h;unfold fq at h
 have bA:=dct a1
 refine Jq<|Jf3 R<|Jw2 R bA<|Js<|Jp<|Jq<|Jv<|Jf3 R<|Ob h λ_ er h=>?_
 have eg:=jG er
 refine Ob h λcz en ec=>?_
 clear h
 refine Jp3 [2,3,4,7,8,9,13] (λd e a=>∃b,∃m:VI×VV,∃aB aG aL aX,e=d/\Stp [9,10,11,16] af cL b a/\Oc E6 2 b a 10 aB aG m.1/\Oc (Dw<|Rs) 37 b a 11 aL aX m.2/\Bc b a 9 D 75 [.slice aB m.1.length aG,.slice aL m.2.length aX]/\cz=Dv m) ?_ ?_
 refine Jv<|Jq3 [2,3,4,7,8,9,13] (λc d e a=>∃b o,∃j:VI×VV,∃aC aO T W,e=(14,vi o)::d/\Stp [9,10,11,16] af cL b a/\Oc E6 2 b a 10 aC aO j.1/\Oc (Dw<|Rs) 37 b a 11 T W j.2/\Bc b a 9 D 75 [.slice aC j.1.length aO,.slice T j.2.length W]/\0<=o/\Dq (K-o)=c/\cntM (ft p0 p1 y) c o j=some cz) ⟨_,_,⟨af,0,(f.1,f.2),aa,Z,V,Y,R,Jk3,b9,ca,cd,(by decide),(by simp),en⟩,(KM R)⟩ ?_
 rintro c _ fH ⟨bH,o,j,aC,aO,T,W,rfl,am,ce,cf,bx,ei,cs,h⟩
 rcases c with _|c
 have a5:=h;obtain⟨eL,h⟩:=exq a5
 have E:=dcf cs
 refine Jq<|Jf3 R<|Jx2 R E<|Jc1<|Jt<|Jt ?_
 cases h
 have h:=a5
 refine Jb1 ?_
 cases h
 exact Jw1 _ ⟨bH,(j.1,j.2),aC,aO,T,W,R,am.wk R,ce,cf,bx,R⟩<|KM R
 obtain⟨eL,h,a5⟩:=BI h;unfold ft at h
 have E:=dct cs
 refine Jq<|Jf3 R<|Jw2 R E<|Js<|Jp<|Jq<|Jv<|Je [2,1,1,1,2,1] R<|Je3 R U75 R Z37<|Jc3 R I37 (bx.ld 0 R R)<|Je4 bH 12 [0] R Y37 bS R λe4 e3 fI cX A dF=>Tv<|Ob h λbd eF h=>Jz3 cX E6 10 [] R Y37 bS R (ce.stp A) (Du (cc _) dF.rdc) bV eF R λaQ aN fJ be M dG=>Tv<|Je3 R U75 R Z37<|Jv3 be 9 (off:=0) (vc:=[.slice aQ bd.length aN]) (cs':=[.slice aQ bd.length aN,.slice T j.2.length W]) R Z37 R (bx.stp<|A.tr M) R λfK N dH=>Tv<|Jd<|Js1 (J:=be) [2,3,9] (some 10) [(0,2),(4,2),(5,2),(1,0),(2,0),(3,0),(6,1),(7,1),(8,1),(9,2)] [(10,1)] (by kernel_rfl) (by kernel_rfl) λfM B=>Je3 R U75 R Z31<|Jn 2 R ?_
 have ch:=dH.stp B
 have bP:=(T11 k s t u v al am A M N B)
 have bQ:=(T10 s t u v al am A M N B)
 refine Jg R (Jd2 I31 R R<|hvC (ch.ld 1 R R) R)<|Jg R (Jd4 (haC (cl.stp bQ).cells R) I28 Z28 R)<|Jg R (Jd4 (haC (a0.stp bQ).cells R) I71 Z71 R)<|Ob h λcR eG h=>Js3 R call130 (tu (J:=λab=>mp [] 1<|be ab) (p0:=p0) (p1:=p1) (Jm2 (aZ.stp bP) (mp [] 1) R R) (Jm2 (ac.stp bP) (mp [] 1) R R) eG) ?_
 rintro _ fN ⟨fk,dn,dk,rfl,dq,dI⟩
 obtain⟨cY,p,fs,eV⟩:=Jj dq 13 R
 refine⟨(p.cl R),Jx3 cY (Dw<|Rs) 16 [] (parts:=[(0,.tmp 82)]) (cells:=[.slice dn cR.length dk]) (xs:=([cR]:VV)) R Y31 bW R (Jf4 ⟨_,_,R,(Sl.z1<|dI.mx eV)⟩) λfc e9 fO cZ C dJ=>⟨((p.tr C).cl R),Ob h λbF eH h=>Jz3 cZ (Dw<|Rs) 11 [16] R Y31 bW R (cf.stp<|T6 A M N B p C) dJ.src (c9 R) eH R λbq bs fP bI an dK=>⟨((T3 p C an).cl R),Je3 R U75 R Z31<|Jt1<|Jv3 bI 9 (off:=1) (vc:=[.slice bq bF.length bs]) (cs':=[.slice aQ bd.length aN,.slice bq bF.length bs]) R Z31 R (ch.stp<|T3 p C an) R λfQ bn dL=>Tv<|Jo<|Jz<|Jp<|Jg3 R ?_⟩⟩⟩
 have ev:Dr .i64 (o+1)=o+1:=wr1 ei (Jn2 E) eg
 rw[ev]
 have E:=Jn2 E
 cases h
 exact Ja2 ⟨bI,o+1,(bd,bF),aQ,aN,bq,bs,R,(T9 am A M N B p C an bn).wk R,(dG.stp<|T6 N B p C an bn),(dK.stp bn),dL,by omega,by omega,a5⟩ R
 rintro _ fG ⟨cW,m,aB,aG,aL,aX,rfl,db,dC,dD,dE,rfl⟩
 have h:=yI ec
 refine Jz<|Jp<|Jg3 R<|wr2 cu a1 aZ.len_le ▸ ?_
 cases h
 exact Ja2 ⟨cW,y+1,(m.1,m.2),aB,aG,aL,aX,R,(al.tr db).wk R,dC,dD,dE,nxz cu,nxm a1,a4⟩ R
 rintro _ fF ⟨cV,H,aY,aR,aM,aA,rfl,L,dz,dA,dB,rfl⟩
 have h:=yI eb
 refine Jp<|Je [1,2] R<|Jy3 cV Pair.ep127 12 R Y69 cG R λdl dm cM bf q dM=>Tv<|Jb 1 R<|Jq<|Jf3 R<|Ob h λcA eo ed=>?_
 clear h
 refine Jp3 [4,9] (λd e a=>∃b,∃a9:VP,∃aK aS,e=(15,.slice aK a9.length aS)::d/\Stp [12,15,18,19] bf cM b a/\Oc Pair.ep127 127 b a 12 aK aS a9/\cA=Dv a9) ?_ ?_
 refine Jv<|Jq3 [3,4,9] (λc d e a=>∃b I,∃ad:VP,∃ax aH,e=(15,.slice ax ad.length aH)::(16,vi I)::d/\Stp [12,15,18,19] bf cM b a/\Oc Pair.ep127 127 b a 12 ax aH ad/\0<=I/\Dq ((p1.Pairs.length:Int)-I)=c/\cntM (fu p1) c I ad=some cA) ⟨_,_,⟨bf,0,([]:VP),dl,dm,R,Jk3,dM,(by decide),(by simp),eo⟩,(KM R)⟩ ?_
 rintro c _ fS ⟨bg,I,ad,ax,aH,rfl,O,ci,cv,a2,h⟩
 rcases c with _|c
 have a6:=h;obtain⟨eM,h⟩:=exq a6
 have bB:=dcf a2
 refine Jq<|Jh3 [2,2,1,2,2] 1 R<|Je3 R U71 R Z69<|Jc3 R I69 ((a0.stp<|T7 s t u v L q O).ld 1 R R)<|Jo3 R U69 R R<|Jb 1 R<|Jx2 R bB<|Jc1<|Jt<|Jt ?_
 cases h
 have h:=a6
 refine Jb1 ?_
 cases h
 exact Jw1 _ ⟨bg,ad,ax,aH,R,O.wk R,ci,R⟩<|KM R
 obtain⟨eM,h,a6⟩:=BI h;unfold fu at h
 have bB:=dct a2
 refine Jq<|Jh3 [2,2,1,2,2] 1 R<|Je3 R U71 R Z69 ?_
 have cj:=a0.stp (T7 s t u v L q O)
 refine Jc3 R I69 (cj.ld 1 R R)<|Jo3 R U69 R R<|Jb 1 R<|Jw2 R bB<|Js<|Jp<|Jq<|Jv<|Js1 (J:=bg) [0,3] none [(0,2),(1,2),(3,2),(8,2),(10,2),(2,0),(4,2),(5,2),(6,0),(9,0),(11,2),(12,2),(13,0),(7,1),(14,1),(15,2),(16,1),(17,1),(18,2)] [] (by kernel_rfl) (by kernel_rfl) λfT ap=>Jn 1 R<|Je3 R U71 R Z69<|Jn 1 R<|Je3 R U71 R Z69<|Jn 1 R ?_
 have ck:=cj.stp ap
 refine Jg R (Jd2 I69 R R<|hvC (ck.ld 1 R R) R)<|Ob h λgc cy h=>Jd3 R ac cy U69 Z127<|Je3 R U127 R Z37 ?_
 have bz:=ac.stp (T9 k s t u v L q O ap)
 obtain⟨ff,et,ek⟩:=(bz).gSt cy
 obtain⟨eW,fx,eX,fy,rfl,d7,fh⟩:=Pair.un et
 refine Jg R (Jd2 I37 R R<|hvC (λa bD=>ek a bD 0 _ R) R)<|Jg R (Jd2 I69 R R<|hvC (ck.ld 1 R R) R)<|Ob h λgb cx h=>Jd3 R bz cx U69 Z127<|Je3 R U127 R Z37 ?_
 obtain⟨fg,eu,el⟩:=(bz).gSt cx
 obtain⟨eY,fz,eZ,fA,rfl,fi,d8⟩:=Pair.un eu
 refine Jg R (Jd2 I37 R R<|hvC (λa bD=>el a bD 1 _ R) R)<|Ob h λba ex h=>Js3 R call131 (om (J:=Mk bg) (Jj3 d7) ex) ?_
 rintro _ fU ⟨fm,bw,bt,rfl,ds,dO⟩
 obtain⟨c1,P,eI⟩:=Ji ds 13 R
 refine⟨(P.cl R),Ob h λbb ey h=>Js3 R call131 (om (J:=Mk c1) (Jj3<|d8.stp P) ey) ?_⟩
 rintro _ cN ⟨fn,bp,br,rfl,dt,dP⟩
 obtain⟨bh,aq,eJ⟩:=Ji dt 16 R
 have bk:=(P.tr aq)
 refine⟨(bk.cl R),Jf R (Jj4 [.slice bw ba.length bt,.slice bp bb.length br] R)<|Jx3 bh Pair.ep127 19 [15,18] (parts:=[(0,.tmp 109)]) (cells:=[.slice bw ba.length bt,.slice bp bb.length br]) (xs:=([(⟨ba,bb⟩:Pair)]:VP)) R Y69 cG R (Jf4 ⟨[.slice bw ba.length bt],[.slice bp bb.length br],Zl bh cN [15],Zl bh cN [18],R,Zl.sp (l1:=[15]) (l2:=[18]) R,Zl.sr (l1:=[15]) (l2:=[18]),⟨_,_,R,((dO.mx (bZ _) eI R (R:13+2=15)).stp aq)⟩,⟨_,_,R,(dP.mx (bZ _) eJ R (R:16+2=18))⟩⟩) λfe e6 fV c2 ar dQ=>⟨((bk.tr ar).cl R),Ob h λeR ez h=>Jz3 c2 Pair.ep127 12 [19] R Y69 cG R (ci.stp<|T4 ap P aq ar) dQ.src (c9 R) ez R λdg df fX c3 bT dR=>⟨((T3 bk ar bT).cl R),Jn 1 R<|Jt1<|Jo<|Jz<|Jp<|Jg3 R<|wr2 cv a2 ac.len_le ▸ ?_⟩⟩⟩
 cases h
 exact Ja2 ⟨c3,I+1,eR,dg,df,R,(T6 O ap P aq ar bT).wk R,dR,nxz cv,nxm a2,a6⟩ R
 rintro _ fR ⟨bK,a9,aK,aS,rfl,ao,dN,rfl⟩
 have h:=yI ed
 refine Jp<|Je [1,2,1,2,2] R<|Jc4 tv R (Jd4 (haE (dB.stp<|q.tr ao).cells) I75 Z75 R)<|Jn 1 R<|Ji4 bK 4 R Z75 R (b7.stp<|T8 k s t u v L q ao) R λfY bo dS=>Tv<|Jb 2 R<|Ju<|Jb2 (l:=[.cell 4 75,.tmp 5,.tmp 6]) results65 (cg R dS I75 Z75 R<|Jq2 R<|Jq2 R R) R ?_
 cases h
 have bR:=(T3 q ao bo)
 exact⟨(λab=>ren [(10,2),(11,3),(12,4)]<|bK ab),aY,aR,aM,aA,aK,aS,R,((cr.stp<|T12 au Q z k s t u v L q ao bo).map (ren [(10,2),(11,3),(12,4)]) R R),((dz.stp bR).map (ren [(10,2),(11,3),(12,4)]) R R),((dA.stp bR).map (ren [(10,2),(11,3),(12,4)]) R R),((dN.stp bo).map (ren [(10,2),(11,3),(12,4)]) R R)⟩
 refine JT λh=>Jx R<|Je [2,1,1,2,2] R<|Jf R (Jj4 [.slice none 0 0,.slice none 0 0] R)<|Jy3 bJ Pair.ep127 7 R Y69 cG R λdd dp fW bL bU dT=>Tv<|Ji4 bL 4 R Z75 R (b7.stp<|k.tr bU) R λfZ bX dU=>Tv<|Jb 2 R<|Ju<|Jw<|Jb2 (l:=[.cell 4 75,.tmp 5,.tmp 6]) results65 (cg R dU I75 Z75 R<|Jq2 R<|Jq2 R R) R ?_
 cases h
 exact⟨(λab=>ren [(7,4)]<|bL ab),none,0,none,0,dd,dp,R,((cr.stp<|T6 au Q z k bU bX).map (ren [(7,4)]) R R),Dt,Dt,((dT.stp bX).map (ren [(7,4)]) R R)⟩
theorem ws {p0:Sig}{A C B z}{p1:Det}{p2:Int}(ar:Rd Rs J w 0 A C p1.Next) (au:Rd Pair.rp J w 0 B z p1.Pairs){r:Int}(h:m0 p0 p1 p2=some r):Ret prog 124 [.agg #[vi p0.In,vi p0.Out],.agg #[.slice A p1.Next.length C,.slice B p1.Pairs.length z],vi p2] w (Pvi J w r):=by
 unfold m0 at h
 refine Jl3 J func124 R ntmps124 R λH=>Je [1,1,2] R<|Jt3 J 2 R λa3 bh M j ai=>Tv<|Jt3 M 3 R λa4 bn S f ao=>Tv<|Jb 1 R<|Je [1,1,1,2,2,2,2,1,1,2,2] R<|Jc4 tv R (Jd4 (haE (ai.stp f).cells) I28 Z28 R)<|Jc4 tv R (Jd4 (haE ao.cells) I71 Z71 R)<|Ob h λaD av h=>Js3 R call65 (sB (J:=λo=>mp [] 1<|S o) (p0:=p0) (p1:=p1) (Jm2 (ar.stp<|j.tr f) (mp [] 1) R R) (Jm2 (au.stp<|j.tr f) (mp [] 1) R R) av) ?_
 rintro _ bk ⟨bb,aJ,aO,aR,aN,aU,a1,rfl,Z,ad,ae,af⟩
 obtain⟨L,v,p,aE⟩:=Jj Z 4 R
 refine Tv<|Jn 4 R<|Ju3 L 9 R X75 R λa5 bl u b ag=>Tv<|Ji4 u 9 R Z75 R ag R λs c ah=>Tv<|Jb 2 R<|Je [1,2,2,1,2,2,2,2,1,1,2,2] R<|Jc4 tv R (Jd4 (haE ah.cells) I75 Z75 R)<|Jn 2 R ?_
 obtain⟨N,k,aF⟩:=gD u s 6
 obtain⟨O,m,aG⟩:=gD N s 7
 obtain⟨P,n,aH⟩:=gD O s 8
 refine Ob h λt aw h=>Js3 R call66 (tq (J:=λo=>mp [] 1<|P o) (p0:=aD.1) (Jm2 ((Sl.st aF ((ad.mx (bZ _) p R (R:4+2=6)).stp (b.tr c)).rdc).stp (m.tr n)) (mp [] 1) R R) (Jm2 ((Sl.st aG ((ae.mxz aE p R (R:4+3=7)).stp (T3 b c k)).rdc).stp n) (mp [] 1) R R) (Jm2 (Sl.st aH ((af.mx Pair.no127 p R (R:4+4=8)).stp (T4 b c k m)).rdc) (mp [] 1) R R) aw) ?_
 rintro _ bm ⟨bc,aP,aS,aY,aK,aL,aM,aT,aI,rfl,aa,aj,ak,al,a6⟩
 obtain⟨Q,x,q,bx⟩:=Jj aa 10 R
 refine Tv<|Jn 4 R<|Ju3 Q 16 R X79 R λa2 bo i d am=>Tv<|Ji4 i 16 R Z79 R am R λbp e an=>Tv<|Jb 2 R<|Jq<|Jf3 R ?_
 revert h
 cases a8:(!t.2.2)
 refine JF λh=>Jy R<|Js<|Jp<|Jq<|Js1 (J:=i) [16] none [(0,0),(1,0),(2,1),(3,1),(4,2),(5,2),(6,2),(7,2),(8,2)] [] (by kernel_rfl) (by kernel_rfl) λbq g=>?_
 have D:=an.stp g
 refine Jg R (Jd4 (haC D.cells R) I79 Z79 R)<|Jg R (Jd4 (haC D.cells R) I79 Z79 R)<|Ob h λbt ax h=>?_
 have E:=(aj.mx (bZ _) q R (R:10+2=12)).stp (T3 d e g)
 have F:=(ak.mx (cQ (bZ _) _) q R (R:10+3=13)).stp (T3 d e g)
 have G:=(al.mx (bZ _) q R (R:10+4=14)).stp (T3 d e g)
 refine Js3 R call191 (xw (J:=Mk i) (p0:=t.1) (Jj3 E.rdc) (Jj3 F.rdc) (Jj3 G.rdc) ax) ?_
 rintro _ br ⟨bd,aQ,aX,rfl,ab,ap⟩
 obtain⟨T,a,aB⟩:=Ji ab 17 R
 refine⟨(a.cl R),Ob h λbu ay h=>Js3 R call190 (xt (J:=Mk T) (p0:=t.1) (Jj3 (E.stp a).rdc) (Jj3 (F.stp a).rdc) (Jj3 (G.stp a).rdc) (Jj3 (ap.mx (bZ _) aB R (R:17+2=19)).rdc) ay) ?_⟩
 rintro _ bs ⟨be,a0,aW,aV,aZ,rfl,ac,aq,a7⟩
 obtain⟨U,y,aC⟩:=Ji ac 20 R
 refine⟨((a.tr y).cl R),Jn 5 R<|Jt1<|Jd<|Jh3 [2,1,1,2,2] 1 R<|Ob h λbv az h=>Js3 R call81 (i9 (J:=Mk U) (Jj3 (aq.mx (bZ _) aC R (R:20+2=22)).rdc) az) ?_⟩
 rintro _ bi ⟨a9,rfl,X⟩
 obtain⟨I,V,bf⟩:=Ji X 24 R
 refine Tv<|Ob h λbw aA h=>Js3 R call192 (oo (J:=Mk I) aA) ?_
 rintro _ bj ⟨ba,rfl,Y⟩
 obtain⟨K,W,bg⟩:=Ji Y 26 R
 refine Tv<|Jb 2 R<|Ju<|Jb2 (l:=[.tmp 6]) results124 (Jq2 R R) R ?_
 cases h
 exact⟨K,R,(H.stp<|T16 j f v b c k m n x d e g a y V W)⟩
 refine JT λh=>Jx R<|Jf3 R<|Ju<|Jw<|Jb2 (l:=[.tmp 6]) results124 (Jq2 R R) R ?_
 cases h
 exact⟨i,R,(H.stp<|T11 j f v b c k m n x d e)⟩
theorem ra {p0:Sig}{i g e f}{p1:Det}(y:Rd Rs J w 0 i g p1.Next) (z:Rd Pair.rp J w 0 e f p1.Pairs){r:Int}(h:kT p0 p1=some r):Ret prog 52 [.agg #[vi p0.In,vi p0.Out],.agg #[.slice i p1.Next.length g,.slice e p1.Pairs.length f]] w (Pvi J w r):=by
 unfold kT at h
 refine Jl3 J func52 R ntmps52 R λo=>Je [1,1,2] R<|Jt3 J 2 R λD L p c x=>Tv<|Jt3 p 3 R λE O s b m=>Tv<|Jb 1 R<|Jq<|Je [1,1,1,2] R ?_
 have n:=x.stp b
 refine Jc4 tv R (Jd4 (haE n.cells) I28 Z28 R)<|Jc4 tv R (Jd4 (haE m.cells) I71 Z71 R)<|Ob h λC B h=>?_
 have j:=y.stp (c.tr b)
 have k:=z.stp (c.tr b)
 refine Js3 R call123 (lQ (J:=Mk s) (p0:=p0) (p1:=p1) (Jj3 j) (Jj3 k) B) ?_
 rintro _ M ⟨G,rfl,u⟩
 obtain⟨d,a,I⟩:=Ji u 4 R
 refine Tv<|Jb 1 R ?_
 revert h
 cases F:(!C)
 refine JF λh=>Jy R<|Js<|Jp<|Je [1,1,1,2] R<|Jc4 tv R (Jd4 (haE (n.stp a).cells) I28 Z28 R)<|Jc4 tv R (Jd4 (haE (m.stp a).cells) I71 Z71 R)<|Ob h λP A h=>Js3 R call124 (ws (J:=Mk d) (p0:=p0) (p1:=p1) (Jj3<|j.stp a) (Jj3<|k.stp a) A) ?_
 rintro _ N ⟨H,rfl,v⟩
 obtain⟨q,t,K⟩:=Ji v 6 R
 refine Tv<|Jb 1 R<|Ju<|Jb2 (l:=[.tmp 4]) results52 (Jq2 R R) R ?_
 cases h
 exact⟨q,R,(o.stp<|T4 c b a t)⟩
 refine JT λh=>Jx R<|Jf3 R<|Ju<|Jw<|Jb2 (l:=[.tmp 4]) results52 (Jq2 R R) R ?_
 cases h
 exact⟨d,R,(o.stp<|T3 c b a)⟩
theorem mV {p0:Sig}{f j}{p1:VC}(z:Rd Clause.rp J w 0 f j p1){r:Bool}(h:d8 p0 p1=some r):Ret prog 12 [.agg #[vi p0.In,vi p0.Out],.slice f p1.length j] w (Pvb J w r):=by
 unfold d8 at h
 refine Jl3 J func12 R ntmps12 R λA=>Je [1,2] R<|Jt3 J 2 R λM T n e g=>Tv<|Jb 1 R<|Je [1,2,1,2,2,2,1,1,2] R<|Jc4 tv R (Jd4 (haE g.cells) I28 Z28 R)<|Jn 1 R<|Ob h λk C h=>Js3 R call51 (og (J:=Mk n) (p0:=p0) (Jj3<|z.stp e) C) ?_
 rintro _ X ⟨Q,K,H,I,L,rfl,t,y,u⟩
 obtain⟨m,d,i⟩:=Ji t 3 R
 refine Tv<|Jn 3 R<|Ju3 m 7 R X71 R λN U c a v=>Tv<|Ji4 c 7 R Z71 R v R λF b x=>Tv<|Jb 1 R<|Jh3 [2,2,1,1,1,2,2,2] 2 R<|Ob h λE h B=>Jg4 [4] 19 E c F [(2,1),(3,1),(4,1),(5,2),(6,2)] [(7,2)] tv ?_ ?_
 revert h
 cases O:k.2
 refine JF λh=>Ja4 R<|Ja4 R<|Ja4 R<|Jn 2 R ?_
 cases h
 exact Jh4 tv R
 refine JT λh=>Jc4 tv R (Jd4 (haE (g.stp<|T3 d a b).cells) I28 Z28 R)<|Jc4 tv R (Jd4 (haE x.cells) I71 Z71 R)<|Ob h λY D h=>Js3 R call52 (ra (J:=Mk c) (p0:=p0) (p1:=k.1) (Jj3 ((y.mx (cQ (bZ _) _) i R (R:3+2=5)).stp (a.tr b)).rdc) (Jj3 ((u.mx Pair.no127 i R (R:3+3=6)).stp (a.tr b)).rdc) D) ?_
 rintro _ V ⟨P,rfl,s⟩
 obtain⟨G,p,S⟩:=Ji s 8 R
 refine Tv<|Jn 2 R ?_
 cases h
 exact Jv1 _ tv ⟨R,_,p.wk R⟩<|KM R
 rintro _ W _ ⟨rfl,o,q⟩
 have h:=B
 refine Jb 1 R<|Ju<|Jb2 (l:=[.tmp 4]) results12 (Jq2 R R) R ?_
 cases h
 exact⟨o,R,(A.stp<|T5 e d a b q)⟩
theorem uP {p0:Sig}{ao ar ap ak}{p1:Machine}{aq an am al}{p2:Det}(bN:Rd Rs J w 0 ao ar p1.Next) (bO:Rd Rs J w 0 ap ak p1.Out) (aI:Rd Rs J w 0 aq an p2.Next) (aJ:Rd Pair.rp J w 0 am al p2.Pairs){r:VV×VP×Bool}(h:oT p0 p1 p2=some r):Ret prog 146 [.agg #[vi p0.In,vi p0.Out],.agg #[.slice ao p1.Next.length ar,.slice ap p1.Out.length ak],.agg #[.slice aq p2.Next.length an,.slice am p2.Pairs.length al]] w (λb7 b=>∃(n:Col) (aP:Option Addr) (aR:Nat) (aQ:Option Addr) (aS:Nat),b7= .tuple #[.slice aP r.1.length aR,.slice aQ r.2.1.length aS,.bool r.2.2]/\Ent J w n b/\Oc (Dp E6 2) 37 n b 2 aP aR r.1/\Oc Pair.ep127 127 n b 3 aQ aS r.2.1):=by
 unfold oT at h
 refine Jl3 J func146 R ntmps146 R λab=>Je [1,1,1,2,2,2] R<|Jt3 J 2 R λco cL aZ o bz=>Tv<|Jt3 aZ 3 R λcp cW a2 m bH=>Tv<|Jt3 a2 4 R λcq c2 aV e aC=>Tv<|Jb 3 R<|Jq<|Je [1,1,1,2,2,1,1,1,2,2] R ?_
 have Z:=bz.stp (m.tr e)
 refine Jc4 tv R (Jd4 (haE Z.cells) I28 Z28 R) ?_
 have aD:=bH.stp e
 refine Jc4 tv R (Jd4 (haE aD.cells) I33 Z33 R)<|Ob h λb9 bX h=>?_
 have aE:=bN.stp (T3 o m e)
 have aF:=bO.stp (T3 o m e)
 refine Js3 R call17 (sF (J:=Mk aV) (p0:=p0) (p1:=p1) (Jj3 aE) (Jj3 aF) bX) ?_
 rintro _ b8 ⟨cB,rfl,bq⟩
 obtain⟨ae,a,cE⟩:=Ji bq 5 R
 refine Tv<|Jn 2 R<|Ob h λaN h bP=>Jg4 [3,4,5] 22 aN ae b8 [(5,1),(6,1),(7,1),(8,2),(9,2)] [] tv ?_ ?_
 revert h
 cases cw:(!b9)
 have ag:=(T4 o m e a)
 refine JF λh=>Jc4 tv R (Jd4 (haE (Z.stp a).cells) I28 Z28 R)<|Jc4 tv R (Jd4 (haE (aC.stp a).cells) I71 Z71 R)<|Ob h λc4 bY h=>Js3 R call123 (lQ (J:=Mk ae) (p0:=p0) (p1:=p2) (Jj3<|aI.stp ag) (Jj3<|aJ.stp ag) bY) ?_
 rintro _ cS ⟨cC,rfl,br⟩
 obtain⟨cb,a7,cF⟩:=Ji br 7 R
 refine Tv<|Jn 2 R ?_
 cases h
 exact Jv1 _ tv ⟨R,_,a7.wk R⟩<|KM R
 refine JT λh=>Ja4 R<|Ja4 R<|Ja4 R<|Jn 2 R ?_
 cases h
 exact Jh4 tv R
 rintro _ cT _ ⟨rfl,af,f⟩
 have h:=bP
 refine Jd ?_
 revert h
 cases cx:aN
 refine JF λh=>Jy R<|Js<|Jp<|Je [1,1,1,1,2,2,2,1,1,2] R<|Jc4 tv R (Jd4 (haE (Z.stp<|a.tr f).cells) I28 Z28 R)<|Jc4 tv R (Jd4 (haE (aD.stp<|a.tr f).cells) I33 Z33 R) ?_
 have aa:=aC.stp (a.tr f)
 refine Jc4 tv R (Jd4 (haE aa.cells) I71 Z71 R)<|Ob h λH b0 h=>?_
 have C:=aJ.stp (T5 o m e a f)
 refine Js3 R call205 (tw (J:=Mk af) (p0:=p0) (p1:=p1) (p2:=p2) (Jj3<|aE.stp<|a.tr f) (Jj3<|aF.stp<|a.tr f) (Jj3<|aI.stp<|T5 o m e a f) (Jj3 C) b0) ?_
 rintro _ cX ⟨cD,cc,cj,ch,cf,bl,bg,ce,cg,rfl,bs,bC,bD,bE,bF⟩
 obtain⟨a3,q,F⟩:=Ji bs 7 R
 refine Tv<|?_
 have aG:=bE.mx (cQ (bZ _) _) F R (R:7+4=11)
 refine Jn 3 R<|Ju3 a3 13 R zeroValue216 R λcr cY O g bG=>Tv<|Ji4 O 13 R Z216 R bG R λcZ i aH=>Tv<|Jb 1 R<|Jq<|Jf3 R ?_
 revert h
 cases cy:(!H.2)
 refine JF λh=>Jy R<|Js<|Jp<|Je [1,2] R<|Jy3 O Pair.ep127 14 R Y69 cG R λbc bn aU P c bK=>Tv<|Jb 1 R<|Jq<|Jf3 R<|Ob h λaO bT bQ=>?_
 clear h
 refine Jp3 [9] (λL Q b=>∃n,∃G:VP,∃A B,Q=(11,.slice A G.length B)::L/\Stp [14,17,20,21] P aU n b/\Oc Pair.ep127 127 n b 14 A B G/\aO=Dv G) ?_ ?_
 refine Jv<|Jq3 [5,9] (λt L Q b=>∃n p,∃u:VP,∃y z,Q=(11,.slice y u.length z)::(12,vi p)::L/\Stp [14,17,20,21] P aU n b/\Oc Pair.ep127 127 n b 14 y z u/\0<=p/\Dq ((p2.Pairs.length:Int)-p)=t/\cntM (fP p2 H) t p u=some aO) ⟨_,_,⟨P,0,([]:VP),bc,bn,R,Jk3,bK,(by decide),(by simp),bT⟩,(KM R)⟩ ?_
 rintro t _ cM ⟨M,p,u,y,z,rfl,d,au,aK,D,h⟩
 rcases t with _|t
 have E:=h;obtain⟨b6,h⟩:=exq E
 have ac:=dcf D
 refine Jq<|Jh3 [2,2,1,2,2] 1 R<|Je3 R U71 R Z69<|Jc3 R I69 ((aa.stp<|T5 q g i c d).ld 1 R R)<|Jo3 R U69 R R<|Jb 1 R<|Jx2 R ac<|Jc1<|Jt<|Jt ?_
 cases h
 have h:=E
 refine Jb1 ?_
 cases h
 exact Jw1 _ ⟨M,u,y,z,R,d.wk R,au,R⟩<|KM R
 obtain⟨b6,h,E⟩:=BI h;unfold fP at h
 have ac:=dct D
 refine Jq<|Jh3 [2,2,1,2,2] 1 R<|Je3 R U71 R Z69 ?_
 have av:=aa.stp (T5 q g i c d)
 refine Jc3 R I69 (av.ld 1 R R)<|Jo3 R U69 R R<|Jb 1 R<|Jw2 R ac<|Js<|Jp<|Jq<|Jv<|Js1 (J:=M) [0,4,13] none [(0,2),(2,2),(4,2),(10,2),(12,2),(1,0),(3,0),(5,2),(6,2),(7,0),(9,0),(11,0),(13,2),(14,2),(15,0),(8,1),(16,1),(17,2),(18,1),(19,1),(20,2)] [] (by kernel_rfl) (by kernel_rfl) λcN j=>Jn 1 R<|Je3 R U71 R Z69<|Jn 1 R<|Je3 R U71 R Z69<|Jn 1 R ?_
 have aw:=aH.stp (T3 c d j)
 refine Jg R (Jd4 (haC aw.cells R) isAgg216 Z216 R) ?_
 have ax:=av.stp j
 refine Jg R (Jd2 I69 R R<|hvC (ax.ld 1 R R) R)<|Ob h λc5 aL h=>Jd3 R C aL U69 Z127<|Je3 R U127 R Z37 ?_
 have Y:=C.stp (T6 q g i c d j)
 obtain⟨cs,bU,bR⟩:=(Y).gSt aL
 obtain⟨ck,cH,cl,cI,rfl,bL,cu⟩:=Pair.un bU
 refine Jg R (Jd2 I37 R R<|hvC (λb ad=>bR b ad 0 _ R) R)<|Jg R (Jd4 (haC aw.cells R) isAgg216 Z216 R)<|Jg R (Jd2 I69 R R<|hvC (ax.ld 1 R R) R)<|Ob h λc6 aM h=>Jd3 R Y aM U69 Z127<|Je3 R U127 R Z37 ?_
 obtain⟨ct,bV,bS⟩:=(Y).gSt aM
 obtain⟨cm,cJ,cn,cK,rfl,cv,bM⟩:=Pair.un bV
 refine Jg R (Jd2 I37 R R<|hvC (λb ad=>bS b ad 1 _ R) R)<|Ob h λI b1 h=>?_
 have ay:=(bC.mx (bZ _) F R (R:7+2=9)).stp (T5 g i c d j)
 have az:=(bD.mx (bZ _) F R (R:7+3=10)).stp (T5 g i c d j)
 have aA:=aG.stp (T5 g i c d j)
 have aB:=(bF.mx (cQ (bZ _) _) F R (R:7+5=12)).stp (T5 g i c d j)
 refine Js3 R call206 (qh (J:=Mk M) (p0:=H.1) (Jj3 ay.rdc) (Jj3 az.rdc) (Jj3 aA.rdc) (Jj3 aB.rdc) (Jj3 bL) b1) ?_
 rintro _ cO ⟨cz,V,W,rfl,bo,bu⟩
 obtain⟨aW,k,b4⟩:=Ji bo 15 R
 refine⟨(k.cl R),Ob h λK b2 h=>Js3 R call206 (qh (J:=Mk aW) (p0:=H.1) (Jj3 (ay.stp k).rdc) (Jj3 (az.stp k).rdc) (Jj3 (aA.stp k).rdc) (Jj3 (aB.stp k).rdc) (Jj3<|bM.stp k) b2) ?_⟩
 rintro _ aT ⟨cA,U,X,rfl,bp,bv⟩
 obtain⟨N,v,b5⟩:=Ji bp 18 R
 have S:=(k.tr v)
 refine⟨(S.cl R),Jf R (Jj4 [.slice V I.length W,.slice U K.length X] R)<|Jx3 N Pair.ep127 21 [17,20] (parts:=[(0,.tmp 61)]) (cells:=[.slice V I.length W,.slice U K.length X]) (xs:=([(⟨I,K⟩:Pair)]:VP)) R Y69 cG R (Jf4 ⟨[.slice V I.length W],[.slice U K.length X],Zl N aT [17],Zl N aT [20],R,Zl.sp (l1:=[17]) (l2:=[20]) R,Zl.sr (l1:=[17]) (l2:=[20]),⟨_,_,R,((bu.mx (bZ _) b4 R (R:15+2=17)).stp v)⟩,⟨_,_,R,(bv.mx (bZ _) b5 R (R:18+2=20))⟩⟩) λci cd cP aX x bw=>⟨((S.tr x).cl R),Ob h λca b3 h=>Jz3 aX Pair.ep127 14 [21] R Y69 cG R (au.stp<|T4 j k v x) bw.src (c9 R) b3 R λbb bm cR aY ah bx=>⟨((T3 S x ah).cl R),Jn 1 R<|Jt1<|Jo<|Jz<|Jp<|Jg3 R<|wr2 aK D C.len_le ▸ ?_⟩⟩⟩
 cases h
 exact Ja2 ⟨aY,p+1,ca,bb,bm,R,(T6 d j k v x ah).wk R,bx,nxz aK,nxm D,E⟩ R
 rintro _ c3 ⟨a6,G,A,B,rfl,T,bt,rfl⟩
 have h:=yI bQ
 refine Jp<|Je [2,1,2,2,2,2] R<|Je3 R U216 R Z31<|Jc3 R I31 ((aH.stp<|c.tr T).ld 2 R R)<|Jb 4 R<|Ju<|Jb2 (l:=[.tmp 6,.tmp 7,.tmp 8]) results146 (Jq2 R<|Jq2 R<|Jq2 R R) R ?_
 cases h
 exact⟨(λs=>ren [(11,2),(14,3)]<|a6 s),bl,bg,A,B,R,((ab.stp<|T10 o m e a f q g i c T).map (ren [(11,2),(14,3)]) R R),((aG.stp<|T4 g i c T).map (ren [(11,2),(14,3)]) R R),(bt.map (ren [(11,2),(14,3)]) R R)⟩
 refine JT λh=>Jx R<|Je [1,1,2,2,2] R<|Jy3 O (Dp E6 2) 14 R Y31 bW R λbd ba c0 a4 a9 bI=>Tv<|Jy3 a4 Pair.ep127 15 R Y69 cG R λbe bj c1 a5 aj bJ=>Tv<|Jb 3 R<|Ju<|Jw<|Jb2 (l:=[.tmp 6,.tmp 7,.tmp 8]) results146 (Jq2 R<|Jq2 R<|Jq2 R R) R ?_
 cases h
 exact⟨(λs=>ren [(14,2),(15,3)]<|a5 s),bd,ba,be,bj,R,((ab.stp<|T10 o m e a f q g i a9 aj).map (ren [(14,2),(15,3)]) R R),((bI.stp aj).map (ren [(14,2),(15,3)]) R R),(bJ.map (ren [(14,2),(15,3)]) R R)⟩
 refine JT λh=>Jx R<|Je [1,1,2,2,2] R<|Jy3 af (Dp E6 2) 7 R Y31 bW R λbk bh cU a0 a8 bA=>Tv<|Jy3 a0 Pair.ep127 8 R Y69 cG R λbf bi cV a1 ai bB=>Tv<|Jb 3 R<|Ju<|Jw<|Jb2 (l:=[.tmp 6,.tmp 7,.tmp 8]) results146 (Jq2 R<|Jq2 R<|Jq2 R R) R ?_
 cases h
 exact⟨(λs=>ren [(7,2),(8,3)]<|a1 s),bk,bh,bf,bi,R,((ab.stp<|T7 o m e a f a8 ai).map (ren [(7,2),(8,3)]) R R),((bA.stp ai).map (ren [(7,2),(8,3)]) R R),(bB.map (ren [(7,2),(8,3)]) R R)⟩
theorem qN {p0:Sig}{s q p o}{p1:Machine}{n C}{p2:VC}(ai:Rd Rs J w 0 s q p1.Next) (aj:Rd Rs J w 0 p o p1.Out) (ak:Rd Clause.rp J w 0 n C p2){r:VV×VP×Bool}(h:jM p0 p1 p2=some r):Ret prog 71 [.agg #[vi p0.In,vi p0.Out],.agg #[.slice s p1.Next.length q,.slice p p1.Out.length o],.slice n p2.length C] w (λan i=>∃(j:Col) (y:Option Addr) (A:Nat) (z:Option Addr) (B:Nat),an= .tuple #[.slice y r.1.length A,.slice z r.2.1.length B,.bool r.2.2]/\Ent J w j i/\Oc (Dp E6 2) 37 j i 2 y A r.1/\Oc Pair.ep127 127 j i 3 z B r.2.1):=by
 unfold jM at h
 refine Jl3 J func71 R ntmps71 R λu=>Je [1,1,2,2,2] R<|Jt3 J 2 R λau aA F e ae=>Tv<|Jt3 F 3 R λav aH K d ah=>Tv<|Jb 3 R<|Je [1,2,1,2,2,2,1,1,2] R ?_
 have t:=ae.stp d
 refine Jc4 tv R (Jd4 (haE t.cells) I28 Z28 R)<|Jn 1 R<|Ob h λD al h=>Js3 R call51 (og (J:=Mk K) (p0:=p0) (Jj3<|ak.stp<|e.tr d) al) ?_
 rintro _ aB ⟨ay,ao,aq,ap,ar,rfl,W,Y,Z⟩
 obtain⟨E,c,v⟩:=Ji W 4 R
 refine Tv<|Jn 3 R<|Ju3 E 8 R X71 R λaw aC f a aa=>Tv<|Ji4 f 8 R Z71 R aa R λaD b ab=>Tv<|Jb 1 R<|Jq<|Jf3 R ?_
 revert h
 cases ax:(!D.2)
 have k:=(T5 e d c a b)
 refine JF λh=>Jy R<|Js<|Jp<|Je [1,1,1,1,2,2,2,2,2,2] R<|Jc4 tv R (Jd4 (haE (t.stp<|T3 c a b).cells) I28 Z28 R)<|Jc4 tv R (Jd4 (haE (ah.stp<|T3 c a b).cells) I33 Z33 R)<|Jc4 tv R (Jd4 (haE ab.cells) I71 Z71 R)<|Ob h λaI am h=>Js3 R call146 (uP (J:=Mk f) (p0:=p0) (p1:=p1) (p2:=D.1) (Jj3<|ai.stp k) (Jj3<|aj.stp k) (Jj3 ((Y.mx (cQ (bZ _) _) v R (R:4+2=6)).stp (a.tr b)).rdc) (Jj3 ((Z.mx Pair.no127 v R (R:4+3=7)).stp (a.tr b)).rdc) am) ?_
 rintro _ aG ⟨az,V,T,N,U,rfl,X,af,ag⟩
 obtain⟨I,M,x⟩:=Ji X 9 R
 refine Tv<|Jb 6 R<|Ju<|Jb2 (l:=[.tmp 6,.tmp 7,.tmp 8]) results71 (Jq2 R<|Jq2 R<|Jq2 R R) R ?_
 cases h
 exact⟨(λg=>ren [(11,2),(12,3)]<|I g),V,T,N,U,R,((u.stp<|T6 e d c a b M).map (ren [(11,2),(12,3)]) R R),((af.mx (cQ (bZ _) _) x R (R:9+2=11)).map (ren [(11,2),(12,3)]) R R),((ag.mx Pair.no127 x R (R:9+3=12)).map (ren [(11,2),(12,3)]) R R)⟩
 refine JT λh=>Jx R<|Je [1,1,2,2,2] R<|Jy3 f (Dp E6 2) 9 R Y31 bW R λP S aE G L ac=>Tv<|Jy3 G Pair.ep127 10 R Y69 cG R λO Q aF H m ad=>Tv<|Jb 3 R<|Ju<|Jw<|Jb2 (l:=[.tmp 6,.tmp 7,.tmp 8]) results71 (Jq2 R<|Jq2 R<|Jq2 R R) R ?_
 cases h
 exact⟨(λg=>ren [(9,2),(10,3)]<|H g),P,S,O,Q,R,((u.stp<|T7 e d c a b L m).map (ren [(9,2),(10,3)]) R R),((ac.stp m).map (ren [(9,2),(10,3)]) R R),(ad.map (ren [(9,2),(10,3)]) R R)⟩
theorem tl {p0:Sig}{G I H F}{p1:Machine}{E Q}{p2:VC}(az:Rd Rs J w 0 G I p1.Next) (aA:Rd Rs J w 0 H F p1.Out) (aB:Rd Clause.rp J w 0 E Q p2){r:VI}(h:lO p0 p1 p2=some r):Ret prog 72 [.agg #[vi p0.In,vi p0.Out],.agg #[.slice G p1.Next.length I,.slice H p1.Out.length F],.slice E p2.length Q] w (Pvs E6 2 J w r):=by
 unfold lO at h
 refine Jl3 J func72 R ntmps72 R λaC=>Je [1,1,2] R<|Jt3 J 2 R λaY ba V k aq=>Tv<|Jt3 V 3 R λaZ bd Y g aw=>Tv<|Jb 1 R<|Je [1,2] R<|Jy3 Y E6 4 R Y37 bS R λaf ah bh U e am=>Tv<|Jb 1 R<|Je [1,1,2,1,2,2,2,2,2,2,2] R<|Jc4 tv R (Jd4 (haE (aq.stp<|g.tr e).cells) I28 Z28 R)<|Jc4 tv R (Jd4 (haE (aw.stp e).cells) I33 Z33 R)<|Jn 1 R<|Ob h λT aJ h=>Js3 R call71 (qN (J:=Mk U) (p0:=p0) (p1:=p1) (Jj3<|az.stp<|T3 k g e) (Jj3<|aA.stp<|T3 k g e) (Jj3<|aB.stp<|T3 k g e) aJ) ?_
 rintro _ S ⟨a4,aX,aV,aS,aU,rfl,ak,an,ao⟩
 obtain⟨v,C,N⟩:=Ji ak 5 R
 refine Tv<|?_
 have K:=ao.mx Pair.no127 N R (R:5+3=8)
 refine Jb 7 R<|Jq<|Jf3 R<|Ob h λP aH aD=>?_
 clear h
 refine Jx1 (λf b=>∃c,∃t:VI×Int,∃n p,f=[(7,.slice n t.1.length p)]/\Stp [4] v S c b/\Oc E6 2 c b 4 n p t.1/\P=Dv t) ?_ ?_
 refine Jv<|Jq3 [8,9,10] (λs u f b=>∃c,∃a:VI×Int,∃i j,f=(7,.slice i a.1.length j)::(11,vi a.2)::u/\Stp [4] v S c b/\Oc E6 2 c b 4 i j a.1/\cd (gu T) s a=some P) ⟨_,_,⟨v,(([]:VI),(0:Int)),af,ah,R,Jk3,(am.stp C),aH⟩,(KM R)⟩ ?_
 rintro s _ aM ⟨X,a,i,j,rfl,m,z,h⟩
 rcases s with _|s
 cases h
 obtain⟨a7,h,L⟩:=BI h;unfold gu at h
 refine Jq<|Jh3 [2,2,2,2,2,2,2] 2 R<|Ob h λO h aE=>Jg4 [7,8,9,10,11] 27 O X aM [(2,2),(3,2),(4,2),(5,2),(6,2)] [] tv ?_ ?_
 revert h
 cases a1:T.2.2
 refine JF λh=>Jn 5 R ?_
 cases h
 exact Jh4 tv R
 refine JT λh=>Jn 2 R<|Jo3 R U69 R R<|Jn 2 R ?_
 cases h
 exact Jh4 tv R
 rintro _ bc _ ⟨rfl,B,d⟩
 have h:=aE
 refine Jd ?_
 revert h
 cases a2:O
 refine JF λh=>Jy R<|Jc1<|Jt<|Jt ?_
 cases h
 have h:=L
 refine Jb1 ?_
 cases h
 exact Jw1 _ ⟨B,(a.1,a.2),i,j,R,(m.tr d).wk R,(z.stp d),R⟩<|KM R
 refine JT λh=>Jx R<|Js<|Jp<|Jq<|Jv<|Jh3 [2,2,2,2,1,1,2] 3 R<|Ob h λaO M h=>Jd3 R K.rdc M U69 Z127 ?_
 obtain⟨a0,aI,aG⟩:=((K.stp (m.tr d)).rdc).gSt M
 obtain⟨aQ,a8,aR,a9,rfl,ax,ay⟩:=Pair.un aI
 refine Jc4 tv R (Jd4 (haE aG) I127 Z127 R)<|Ob h λaP aK h=>Js3 R call147 (sN (J:=Mk B) (p1:=aO) (Jj3 ((an.mx (cQ (bZ _) _) N R (R:5+2=7)).stp (m.tr d)).rdc) (Jj3 ax) (Jj3 ay) aK) ?_
 rintro _ aN ⟨a5,rfl,al⟩
 obtain⟨x,y,a6⟩:=Ji al 9 R
 refine Tv<|Jb 1 R<|Ob h λA h aF=>Jp3 [8,9,10,11] (λu f b=>∃c q o,f=(7,.slice q A.length o)::u/\Stp [4] x aN c b/\Oc E6 2 c b 4 q o A) ?_ ?_
 revert h
 cases a3:decide (0<=aP)
 refine JF λh=>Jy R<|Js ?_
 cases h
 exact Jw1 _ ⟨x,i,j,R,Jk3,(z.stp<|d.tr y)⟩<|KM R
 refine JT λh=>Jx R<|Ji3 [2,2,1,1,2] 2 R<|Je4 x 11 [a.2] R Y37 bS R λaT aW bf aa D au=>Tv<|Ob h λbi aL h=>Jz3 aa E6 4 [] R Y37 bS R (z.stp<|T3 d y D) (Du (cc _) au.rdc) bV aL R λag ai bg ab ae av=>Tv<|Jc 1 R ?_
 cases h
 exact Jw1 _ ⟨ab,ag,ai,R,(D.tr ae).wk R,av⟩<|KM R
 rintro _ be ⟨Z,q,o,rfl,ad,ar⟩
 have h:=aF
 refine Jz<|Jp<|Jg3 R ?_
 cases h
 exact Ja2 ⟨Z,(A,((Dr .i64<|a.2+1):Int)),q,o,R,(T4 m d y ad).wk R,ar,L⟩ R
 rintro _ bb ⟨W,t,n,p,rfl,ac,ap,rfl⟩
 have h:=yI aD
 refine Jp<|Jf3 R<|Ju<|Jb2 (l:=[.tmp 6]) results72 (Jq2 R R) R ?_
 cases h
 exact⟨(λaj=>ren [(4,2)]<|W aj),n,p,R,((aC.stp<|T5 k g e C ac).map (ren [(4,2)]) R R),(ap.map (ren [(4,2)]) R R)⟩
theorem tm {p0:Sig}{j i g f}{p1:Machine}{e q}{p2:VC}(B:Rd Rs J w 0 j i p1.Next) (C:Rd Rs J w 0 g f p1.Out) (D:Rd Clause.rp J w 0 e q p2){r:Bool}(h:lT p0 p1 p2=some r):Ret prog 22 [.agg #[vi p0.In,vi p0.Out],.agg #[.slice j p1.Next.length i,.slice g p1.Out.length f],.slice e p2.length q] w (Pvb J w r):=by
 unfold lT at h
 refine Jl3 J func22 R ntmps22 R λE=>Je [1,1,2] R<|Jt3 J 2 R λU ae s c A=>Tv<|Jt3 s 3 R λV ah u b o=>Tv<|Jb 1 R<|Je [1,1,2,1,2,2,2,2,2,2,2] R ?_
 have p:=A.stp b
 refine Jc4 tv R (Jd4 (haE p.cells) I28 Z28 R)<|Jc4 tv R (Jd4 (haE o.cells) I33 Z33 R)<|Jn 1 R<|Ob h λL G h=>?_
 have k:=B.stp (c.tr b)
 have m:=C.stp (c.tr b)
 have n:=D.stp (c.tr b)
 refine Js3 R call71 (qN (J:=Mk u) (p0:=p0) (p1:=p1) (Jj3 k) (Jj3 m) (Jj3 n) G) ?_
 rintro _ K ⟨aa,N,P,O,Q,rfl,y,W,X⟩
 obtain⟨d,a,ac⟩:=Ji y 4 R
 refine Tv<|Jb 7 R<|Jh3 [2,2,1,1,2,1,2,2,2,2] 2 R<|Ob h λI h F=>Jg4 [6] 26 I d K [(2,1),(3,1),(4,2),(5,1),(6,2),(7,2),(8,2)] [(9,2)] tv ?_ ?_
 revert h
 cases Z:L.2.2
 refine JF λh=>Ja4 R<|Ja4 R<|Jn 1 R<|Ja4 R<|Jn 3 R ?_
 cases h
 exact Jh4 tv R
 refine JT λh=>Jc4 tv R (Jd4 (haE (p.stp a).cells) I28 Z28 R)<|Jc4 tv R (Jd4 (haE (o.stp a).cells) I33 Z33 R)<|Jn 1 R<|Ob h λai H h=>Js3 R call72 (tl (J:=Mk d) (p0:=p0) (p1:=p1) (Jj3<|k.stp a) (Jj3<|m.stp a) (Jj3<|n.stp a) H) ?_
 rintro _ af ⟨ab,S,T,rfl,z,Y⟩
 obtain⟨M,v,ad⟩:=Ji z 8 R
 refine Tv<|Jo3 R U37 R R<|Jn 2 R ?_
 cases h
 exact Jv1 _ tv ⟨R,_,v.wk R⟩<|KM R
 rintro _ ag _ ⟨rfl,t,x⟩
 have h:=F
 refine Jb 1 R<|Ju<|Jb2 (l:=[.tmp 6]) results22 (Jq2 R R) R ?_
 cases h
 exact⟨t,R,(E.stp<|T4 c b a x)⟩
theorem tg {p0:Sig}{z y x v}{p1:Machine}{u O}{p2:VC}(C:Rd Rs J w 0 z y p1.Next) (D:Rd Rs J w 0 x v p1.Out) (au:Rd Clause.rp J w 0 u O p2){r:(Option watch)×Bool}(h:iY p0 p1 p2=some r):Ret prog 73 [.agg #[vi p0.In,vi p0.Out],.agg #[.slice z p1.Next.length y,.slice x p1.Out.length v],.slice u p2.length O] w (λaA i=>∃(j:Col) (G:Option Addr) (L:Nat) (H:Option Addr) (M:Nat) (I:Option Addr) (N:Nat) (K:Nat),aA= .tuple #[.pointer (bif r.1.isSome then some ⟨K,0,none⟩ else none),.bool r.2]/\Ent J w j i/\Oc (Dp E6 2) 37 j i 2 G L ((r.1.getD (⟨([]:VV),([]:VV),([]:VP)⟩:watch)).next)/\Oc (Dp E6 2) 37 j i 3 H M ((r.1.getD (⟨([]:VV),([]:VV),([]:VP)⟩:watch)).letters)/\Oc Pair.ep127 127 j i 4 I N ((r.1.getD (⟨([]:VV),([]:VV),([]:VP)⟩:watch)).pairs)/\(r.1.isSome=true->Bc j i 5 K 172 [.slice G ((r.1.getD (⟨([]:VV),([]:VV),([]:VP)⟩:watch)).next).length L,.slice H ((r.1.getD (⟨([]:VV),([]:VV),([]:VP)⟩:watch)).letters).length M,.slice I ((r.1.getD (⟨([]:VV),([]:VV),([]:VP)⟩:watch)).pairs).length N])):=by
 unfold iY at h
 refine Jl3 J func73 R ntmps73 R λo=>Je [1,1,2,2] R<|Jt3 J 2 R λaI aU Q c aj=>Tv<|Jt3 Q 3 R λaJ aZ T b B=>Tv<|Jb 2 R<|Jq<|Je [1,1,2,2,1,1,1,2,2] R ?_
 have n:=aj.stp b
 refine Jc4 tv R (Jd4 (haE n.cells) I28 Z28 R)<|Ob h λaC aw h=>Js3 R call82 (nq (J:=Mk T) (p0:=p0) aw) ?_
 rintro _ aB ⟨aO,rfl,af⟩
 obtain⟨q,a,aS⟩:=Ji af 4 R
 refine Tv<|Jn 2 R<|Ob h λF h av=>Jg4 [2,3,4] 18 F q aB [(4,1),(5,1),(6,1),(7,2),(8,2)] [] tv ?_ ?_
 revert h
 cases aL:(!aC)
 refine JF λh=>Jc4 tv R (Jd4 (haE (n.stp a).cells) I28 Z28 R)<|Jc4 tv R (Jd4 (haE (B.stp a).cells) I33 Z33 R)<|Ob h λa2 ax h=>Js3 R call83 (nV (J:=Mk q) (p0:=p0) (p1:=p1) (Jj3<|C.stp<|T3 c b a) (Jj3<|D.stp<|T3 c b a) ax) ?_
 rintro _ aV ⟨aP,rfl,ag⟩
 obtain⟨aD,V,aT⟩:=Ji ag 6 R
 refine Tv<|Jn 2 R ?_
 cases h
 exact Jv1 _ tv ⟨R,_,V.wk R⟩<|KM R
 refine JT λh=>Ja4 R<|Ja4 R<|Ja4 R<|Jn 2 R ?_
 cases h
 exact Jh4 tv R
 rintro _ aW _ ⟨rfl,s,d⟩
 have h:=av
 refine Jd ?_
 revert h
 cases aM:F
 refine JF λh=>Jy R<|Js<|Jp<|Je [1,2,1,2,2,2,1,1,2] R ?_
 have A:=n.stp (a.tr d)
 refine Jc4 tv R (Jd4 (haE A.cells) I28 Z28 R)<|Jn 1 R<|Ob h λP ay h=>Js3 R call41 (nS (J:=Mk s) (p0:=p0) (Jj3<|au.stp<|T4 c b a d) ay) ?_
 rintro _ aX ⟨aQ,aH,aG,aF,aE,rfl,ah,ak,al⟩
 obtain⟨S,g,E⟩:=Ji ah 6 R
 refine Tv<|Jn 3 R<|Ju3 S 10 R X71 R λaK aY m e am=>Tv<|Ji4 m 10 R Z71 R am R λa0 f an=>Tv<|Jb 1 R<|Jq<|Jf3 R ?_
 revert h
 cases aN:(!P.2)
 have t:=(T7 c b a d g e f)
 refine JF λh=>Jy R<|Js<|Jp<|Je [1,1,1,1,2,2,2,2] R<|Jc4 tv R (Jd4 (haE (A.stp<|T3 g e f).cells) I28 Z28 R)<|Jc4 tv R (Jd4 (haE (B.stp<|T5 a d g e f).cells) I33 Z33 R)<|Jc4 tv R (Jd4 (haE an.cells) I71 Z71 R)<|Ob h λa3 az h=>Js3 R call148 (ur (J:=Mk m) (p0:=p0) (p1:=p1) (p2:=P.1) (Jj3<|C.stp t) (Jj3<|D.stp t) (Jj3 ((ak.mx (cQ (bZ _) _) E R (R:6+2=8)).stp (e.tr f)).rdc) (Jj3 ((al.mx Pair.no127 E R (R:6+3=9)).stp (e.tr f)).rdc) az) ?_
 rintro _ a1 ⟨aR,Y,X,ac,Z,ab,aa,ae,rfl,ai,ao,ap,aq,ar⟩
 obtain⟨U,W,k⟩:=Ji ai 11 R
 refine Tv<|Jb 4 R<|Ju<|Jb2 (l:=[.tmp 6,.tmp 7]) results73 (Jq2 R<|Jq2 R R) R ?_
 cases h
 exact⟨(λad=>ren [(13,2),(14,3),(15,4),(16,5)]<|U ad),Y,X,ac,Z,ab,aa,ae,R,((o.stp<|T8 c b a d g e f W).map (ren [(13,2),(14,3),(15,4),(16,5)]) R R),((ao.mx (cQ (bZ _) _) k R (R:11+2=13)).map (ren [(13,2),(14,3),(15,4),(16,5)]) R R),((ap.mx (cQ (bZ _) _) k R (R:11+3=14)).map (ren [(13,2),(14,3),(15,4),(16,5)]) R R),((aq.mx Pair.no127 k R (R:11+4=15)).map (ren [(13,2),(14,3),(15,4),(16,5)]) R R),(λp=>(((λp=>(ar p).mx k R (R:11+5=16)) p).map (ren [(13,2),(14,3),(15,4),(16,5)]) R R))⟩
 refine JT λh=>Jx R<|Jf3 R<|Ju<|Jw<|Jb2 (l:=[.tmp 6,.tmp 7]) results73 (Jq2 R<|Jq2 R R) R ?_
 cases h
 exact⟨m,none,0,none,0,none,0,0,R,(o.stp<|T7 c b a d g e f),Dt,Dt,Dt,(λh=>absurd h Bool.false_ne_true)⟩
 refine JT λh=>Jx R<|Jf3 R<|Ju<|Jw<|Jb2 (l:=[.tmp 6,.tmp 7]) results73 (Jq2 R<|Jq2 R R) R ?_
 cases h
 exact⟨s,none,0,none,0,none,0,0,R,(o.stp<|T4 c b a d),Dt,Dt,Dt,(λh=>absurd h Bool.false_ne_true)⟩
theorem sV {p0:Sig}{j i g f}{p1:Machine}{e m}{p2:VC}(E:Rd Rs J w 0 j i p1.Next) (F:Rd Rs J w 0 g f p1.Out) (G:Rd Clause.rp J w 0 e m p2){r:Bool}(h:lu p0 p1 p2=some r):Ret prog 29 [.agg #[vi p0.In,vi p0.Out],.agg #[.slice j p1.Next.length i,.slice g p1.Out.length f],.slice e p2.length m] w (Pvb J w r):=by
 unfold lu at h
 refine Jl3 J func29 R ntmps29 R λH=>Je [1,1,2] R<|Jt3 J 2 R λab ai o b C=>Tv<|Jt3 o 3 R λac al q a D=>Tv<|Jb 1 R<|Je [1,1,2,1,2,2,2,2,2] R<|Jc4 tv R (Jd4 (haE (C.stp a).cells) I28 Z28 R)<|Jc4 tv R (Jd4 (haE D.cells) I33 Z33 R)<|Jn 1 R<|Ob h λn M h=>Js3 R call73 (tg (J:=Mk q) (p0:=p0) (p1:=p1) (Jj3<|E.stp<|b.tr a) (Jj3<|F.stp<|b.tr a) (Jj3<|G.stp<|b.tr a) M) ?_
 rintro _ P ⟨af,Z,V,T,S,Y,X,aa,rfl,v,y,z,A,B⟩
 obtain⟨d,s,c⟩:=Ji v 4 R
 refine Tv<|Jb 5 R<|Jh3 [2,2,2,1,2,2,2,2] 2 R<|Ob h λO h I=>Jg4 [6] 22 O d P [(2,2),(3,1),(4,2),(5,2),(6,2)] [(7,2)] tv ?_ ?_
 revert h
 cases ae:n.2
 refine JF λh=>Jn 1 R<|Ja4 R<|Jn 3 R ?_
 cases h
 exact Jh4 tv R
 refine JT λh=>Jn 1 R<|Ob h λ_g504 K h=>?_
 have k:=yq K
 simp only[k,cond_true]
 refine Ob h λam N h=>Js3 R call74 (pU (J:=Mk d) (p0:=(n.1.getD (⟨([]:VV),([]:VV),([]:VP)⟩:watch))) (Jj3 (y.mx (cQ (bZ _) _) c R (R:4+2=6)).rdc) (Jj3 (z.mx (cQ (bZ _) _) c R (R:4+3=7)).rdc) (Jj3 (A.mx Pair.no127 c R (R:4+4=8)).rdc) (((λL=>(B L).mx c R (R:4+5=9)) k).map (mp [] 0) R R) N) ?_
 rintro _ aj ⟨ag,U,W,rfl,x,ad⟩
 obtain⟨Q,t,ah⟩:=Ji x 10 R
 refine Tv<|Jo3 R U37 R R<|Jn 2 R ?_
 cases h
 exact Jv1 _ tv ⟨R,_,t.wk R⟩<|KM R
 rintro _ ak _ ⟨rfl,p,u⟩
 have h:=I
 refine Jb 1 R<|Ju<|Jb2 (l:=[.tmp 6]) results29 (Jq2 R R) R ?_
 cases h
 exact⟨p,R,(H.stp<|T4 b a s u)⟩
end
end Go.Proofs.YtleekpaohfpooaaGreat
