/- The walks, part 11. By program. -/
import Derived.Test.YtleekpaohfpooaaGreatFns10VF
set_option linter.unusedVariables false
set_option linter.unusedSimpArgs false
open Go.IntKind renaming wrap → bM
open Sum renaming inr → cb
namespace Go.Proofs.YtleekpaohfpooaaGreat
open Go Go.Wk Go.Proofs
set_option maxRecDepth 100000
set_option maxHeartbeats 1000000
variable {w:World}{κ:Col}
theorem qu {p0:Sig}{a1 a0}{p1:(List Clause)}(b1:Rd Clause.rp κ w 0 a1 a0 p1){r:Det×Bool}(h:da p0 p1=some r):Ret Tryz.prog 51 [.agg #[vi p0.In,vi p0.Out],.slice a1 p1.length a0] w (λv w'=>∃(κ':Col) (aW:Option Addr) (aY:Nat) (aX:Option Addr) (aZ:Nat),v= .tuple #[.agg #[.slice aW r.1.Next.length aY,.slice aX r.1.Pairs.length aZ],.bool r.2]/\Ent κ w κ' w'/\Oc (Ep.own E6 2) 37 κ' w' 2 aW aY r.1.Next/\Oc Pair.ep127 127 κ' w' 3 aX aZ r.1.Pairs):=by
 unfold da at h
 refine Jk3 κ F51 R N51 R λau=>Je [1,1,2] R<|Js3 (κ:=κ) 2 R λcj w1 a7 Q bL=>Tv<|Jt3 (κ:=a7) 3 R X71 R λck cT bb D aq=>Tv<|Jb 1 R<|Jq<|Je [1,2,1,2] R ?_
 have aK:=bL.stp D
 refine Jb4 tv R (Jc4 (haE aK.cells) I28 Z28 R)<|Jn 1 R<|Ob h λcg b8 h=>?_
 have ag:=b1.stp (Q.tr D)
 refine Jr3 R C75 (mZ (κ:=Mk bb) (p0:=p0) (Ji3 ag) b8) ?_
 rintro _ cD ⟨cq,rfl,bm⟩
 obtain⟨al,m,cx⟩:=Ji bm 4 R
 refine Tv<|Jb 1 R ?_
 revert h
 cases co:(!cg)
 refine JF λh=>Jy R<|Js<|Jp<|Je [1,1,1,1,2,1,1] R ?_
 have aG:=aK.stp m
 refine Jb4 tv R (Jc4 (haE aG.cells) I28 Z28 R)<|Ob h λcZ b9 h=>Jr3 R C120 (fh (κ:=Mk al) (p0:=p0) b9) ?_
 rintro _ cP ⟨ct,rfl,bp⟩
 obtain⟨a8,s,cy⟩:=Ji bp 6 R
 refine Tv<|Ob h λak ca h=>Jl1 (κ:=a8) (E:=E6) (z:=(0:Int)) 8 R R R R R R R Y37 bS R R R R R (λ_ _ _=>R) (Ju2 ca) λbg bi cQ a9 t bJ=>Tv<|Jw3 (κ:=a9) (E:=(Ep.own E6 2)) 9 [8] (parts:=[(0,.tmp 17)]) (cells:=[.slice bg ak.length bi]) (xs:=([ak]:List (List Int))) R Y31 bZ R (Je4 ⟨_,_,R,bJ⟩) λaE ar cR ba u bK=>Tv<|Jf R (Ji4 [.slice aE ([ak]:List (List Int)).length ar,.slice none 0 0] R)<|Jt3 (κ:=ba) 10 R X71 R λaF cS J o bN=>Tv<|Jh4 (κ:=J) 10 R Z71 R bN R λa2 p bO=>Tv<|Jd<|Jq<|Je3 R ?_
 have b2:(p1.length:Int)<=9223372036854775807:=ag.len_le
 refine Ob h λaV b5 aN=>?_
 clear h
 refine Jo3 [4,6] (λE L w'=>∃κ',∃A:(List<|List Int)×(List Pair),∃aa ab Y U,L=E/\Stp [10,12,13,16,18,19,20] J a2 κ' w'/\Oc (Ep.own E6 2) 37 κ' w' 9 aa ab A.1/\Oc Pair.ep127 127 κ' w' 11 Y U A.2/\Bc κ' w' 10 aF 71 [.slice aa A.1.length ab,.slice Y A.2.length U]/\aV=cb A) ?_ ?_
 refine Jv<|Jp3 [1,2,4,6] (λk E L w'=>∃κ' f,∃c:(List<|List Int)×(List Pair),∃af W V ac,L=(7,vi f)::E/\Stp [10,12,13,16,18,19,20] J a2 κ' w'/\Oc (Ep.own E6 2) 37 κ' w' 9 af W c.1/\Oc Pair.ep127 127 κ' w' 11 V ac c.2/\Bc κ' w' 10 aF 71 [.slice af c.1.length W,.slice V c.2.length ac]/\0<=f/\Int.toNat ((p1.length:Int)-f)=k/\cntM (fi p0 p1) k f c=some aV) ⟨_,_,⟨J,0,((([ak]:List (List Int)):(List<|List Int)),(([]:List Pair):(List Pair))),aE,ar,none,0,R,Jj3,(bK.stp<|o.tr p),Ow.nil,bO,(by decide),(by simp),b5⟩,(KM R)⟩ ?_
 rintro k _ cf ⟨B,f,c,af,W,V,ac,rfl,x,ah,ai,ap,b3,cm,h⟩
 rcases k with _ | k
 have aj:=h;obtain⟨ce,h⟩:=cw (cb (Sum.inl c):(Det×Bool)⊕(((List (List Int))×(List Pair))⊕((List (List Int))×(List Pair))))
 have y:decide (f<(p1.length:Int))=false:=Jo2 (by omega)
 refine Jq<|Jg3 [2,2,2,2] 2 R<|Jn3 R U29 R R<|Jb 1 R<|Jw2 R y<|Jc1<|Jt<|Jt ?_
 cases h
 have h:=aj
 refine Jb1 ?_
 cases h
 exact Jw1 _ ⟨B,(c.1,c.2),af,W,V,ac,R,x.wk R,ah,ai,ap,R⟩<|KM R
 obtain⟨ce,h,aj⟩:=BI h;unfold fi at h
 have y:decide (f<(p1.length:Int))=true:=Jn2 (by omega)
 refine Jq<|Jg3 [2,2,2,2] 2 R<|Jn3 R U29 R R<|Jb 1 R<|Jv2 R y<|Js<|Jp<|Jq<|Jv<|Jq<|Ob h λa3 aO h=>Ob h λaw aP h=>Ob h λn av h=>Jo3 [1,2,4,6,7] (λE L w'=>∃κ' g X Z ad ae,L=(8,.pointer (some ⟨g,0,none⟩))::(9,.bool n.2)::E/\Stp [12,16,18,19,20] B cf κ' w'/\Oc (Ep.own E6 2) 37 κ' w' 12 X Z n.1.Next/\Oc Pair.ep127 127 κ' w' 13 ad ae n.1.Pairs/\Bc κ' w' 14 g 71 [.slice X n.1.Next.length Z,.slice ad n.1.Pairs.length ae]) ?_ ?_
 refine WC.rxt (κ:=B) [0,2,10] none (by kernel_rfl) λcW e=>Jq1 (fuel:=8) [(3,2),(4,2),(5,2),(0,0),(1,0),(2,0),(6,0)] (by kernel_rfl) (by kernel_rfl) R<|Jn 2 R<|Jc3 R ag aO U29 Z67 ?_
 have aH:=aG.stp (T7 s t u o p x e)
 refine Jg R (Jc4 (haC aH.cells R) I28 Z28 R)<|Jg R (Jc4 (haC (ap.stp e).cells R) I71 Z71 R)<|Jg R (Jc4 (haC aH.cells R) I28 Z28 R) ?_
 obtain⟨cl,b6,b4⟩:=((ag.stp (T8 m s t u o p x e))).gSt aO
 obtain⟨ch,cz,ci,cA,rfl,aL,aM⟩:=Clause.un b6
 refine Jg R (Jc4 (haC b4 R) I67 Z67 R)<|Jp1<|WA.fork2 (fuel:=7) 7 12 (by kernel_rfl) R ?_ ?_
 refine Jr3 R C122 (m7 (κ:=Mk B) (p0:=p0) (p1:=a3) (Ji3 aL) (Ji3 aM) aP) ?_
 rintro _ cX ⟨cu,bh,bj,bf,bk,rfl,bq,bW,bX⟩
 obtain⟨aB,d,aT⟩:=Ji bq 12 R
 refine⟨(d.cl R),?_⟩
 have aI:=bW.mx (df (cc _) _) aT R (R:12+2=14)
 have aJ:=bX.mx Pair.no127 aT R (R:12+3=15)
 refine Jp1<|WA.fork2 (fuel:=6) 8 12 (by kernel_rfl) R ?_ ?_
 refine Jr3 R C121 (kQ (κ:=Mk aB) (p0:=p0) (p1:=(⟨c.1,c.2⟩:Det)) (p2:=aw) (Ji3 (ah.stp<|e.tr d).rdc) (Ji3 (ai.stp<|e.tr d).rdc) (Ji3 aI.rdc) (Ji3 aJ.rdc) av) ?_
 rintro _ cY ⟨cv,I,G,F,H,rfl,br,bY,b0⟩
 obtain⟨bc,T,aU⟩:=Ji br 16 R
 exact⟨((d.tr T).cl R),Jp1<|Jq1 (fuel:=0) [(9,2),(10,2),(11,2),(12,1),(13,1),(14,2)] (by kernel_rfl) (by kernel_rfl) R<|Jn 3 R<|Jt3 (κ:=bc) 20 R X71 R λg cB ax C bs=>⟨((T3 d T C).cl R),Jh4 (κ:=ax) 20 R Z71 R bs R λcC M bt=>⟨((T4 d T C M).cl R),Jn 1 R<|Jp1<|Jr1 [] (by kernel_rfl) (by kernel_rfl) R<|Jo<|Jw1 _ ⟨(λb=>ren [(18,12),(19,13),(20,14)]<|ax b),g,I,G,F,H,R,(Jy2 ((T5 e d T C M).wk R) [(18,12),(19,13),(20,14)] R),(((bY.mx (df (cc _) _) aU R (R:16+2=18)).stp (C.tr M)).map (ren [(18,12),(19,13),(20,14)]) R R),(((b0.mx Pair.no127 aU R (R:16+3=19)).stp (C.tr M)).map (ren [(18,12),(19,13),(20,14)]) R R),(bt.map (ren [(18,12),(19,13),(20,14)]) R R)⟩<|KM R⟩⟩⟩
 refine Jt3 (κ:=aB) 16 R X71 R λg cE a4 i bu=>⟨((d.tr i).cl R),Jp1<|Jq1 (fuel:=0) [(8,1),(9,2),(10,2),(11,2),(13,1),(14,2)] (by kernel_rfl) (by kernel_rfl) R<|Jr3 R C121 (kQ (κ:=Mk a4) (p0:=p0) (p1:=(⟨c.1,c.2⟩:Det)) (p2:=aw) (Ji3 (ah.stp<|T3 e d i).rdc) (Ji3 (ai.stp<|T3 e d i).rdc) (Ji3 (aI.stp i).rdc) (Ji3 (aJ.stp i).rdc) av) ?_⟩
 rintro _ cF ⟨cp,I,G,F,H,rfl,bl,bv,bw⟩
 obtain⟨ay,N,aQ⟩:=Ji bl 17 R
 exact⟨((T3 d i N).cl R),Jn 3 R<|Jh4 (κ:=ay) 16 R Z71 R (bu.stp N) R λcG O bx=>⟨((T4 d i N O).cl R),Jn 1 R<|Jp1<|Jr1 [] (by kernel_rfl) (by kernel_rfl) R<|Jo<|Jw1 _ ⟨(λb=>ren [(19,12),(20,13),(16,14)]<|ay b),g,I,G,F,H,R,(Jy2 ((T5 e d i N O).wk R) [(19,12),(20,13),(16,14)] R),(((bv.mx (df (cc _) _) aQ R (R:17+2=19)).stp O).map (ren [(19,12),(20,13),(16,14)]) R R),(((bw.mx Pair.no127 aQ R (R:17+3=20)).stp O).map (ren [(19,12),(20,13),(16,14)]) R R),(bx.map (ren [(19,12),(20,13),(16,14)]) R R)⟩<|KM R⟩⟩
 refine Jt3 (κ:=B) 12 R X71 R λg cH a5 j bz=>⟨(j.cl R),Jp1<|Jq1 (fuel:=0) [(7,1),(8,1),(9,2),(10,2),(11,2),(13,1),(14,2)] (by kernel_rfl) (by kernel_rfl) R<|Jr3 R C122 (m7 (κ:=Mk a5) (p0:=p0) (p1:=a3) (Ji3<|aL.stp j) (Ji3<|aM.stp j) aP) ?_⟩
 rintro _ cI ⟨cr,bh,bj,bf,bk,rfl,bn,bA,bB⟩
 obtain⟨a6,q,aR⟩:=Ji bn 13 R
 refine⟨((j.tr q).cl R),Jr3 R C121 (kQ (κ:=Mk a6) (p0:=p0) (p1:=(⟨c.1,c.2⟩:Det)) (p2:=aw) (Ji3 (ah.stp<|T3 e j q).rdc) (Ji3 (ai.stp<|T3 e j q).rdc) (Ji3 (bA.mx (df (cc _) _) aR R (R:13+2=15)).rdc) (Ji3 (bB.mx Pair.no127 aR R (R:13+3=16)).rdc) av) ?_⟩
 rintro _ cJ ⟨cs,I,G,F,H,rfl,bo,bC,bD⟩
 obtain⟨az,am,aS⟩:=Ji bo 17 R
 have aC:=(T3 j q am)
 exact⟨(aC.cl R),Jn 3 R<|Jh4 (κ:=az) 12 R Z71 R (bz.stp<|q.tr am) R λcK P bE=>⟨((aC.tr P).cl R),Jn 1 R<|Jp1<|Jr1 [] (by kernel_rfl) (by kernel_rfl) R<|Jo<|Jw1 _ ⟨(λb=>ren [(19,12),(20,13),(12,14)]<|az b),g,I,G,F,H,R,(Jy2 ((T5 e j q am P).wk R) [(19,12),(20,13),(12,14)] R),(((bC.mx (df (cc _) _) aS R (R:17+2=19)).stp P).map (ren [(19,12),(20,13),(12,14)]) R R),(((bD.mx Pair.no127 aS R (R:17+3=20)).stp P).map (ren [(19,12),(20,13),(12,14)]) R R),(bE.map (ren [(19,12),(20,13),(12,14)]) R R)⟩<|KM R⟩⟩
 rintro _ cV ⟨K,g,X,Z,ad,ae,rfl,S,bT,bU,bV⟩
 refine Jp<|Jq<|Je3 R ?_
 revert h
 cases cn:(!n.2)
 refine JF λh=>Jy R<|Js<|Jp<|Ja [1,1] R<|Jb4 tv R (Jc4 (haE bV.cells) I71 Z71 R)<|Jh4 (κ:=K) 10 R Z71 R (ap.stp S) R λcM an bG=>Tv<|Jo<|Jz<|Jp<|Jf3 R ?_
 have b7:bM .i64 (f+1)=f+1:=wr1 b3 (Jm2 y) b2
 rw[b7]
 have y:=Jm2 y
 cases h
 exact Jz1 λa ha=>⟨k,_,Ja3 _,⟨(λb=>ren [(12,9),(13,11)]<|K b),f+1,(n.1.Next,n.1.Pairs),X,Z,ad,ae,R,(Jy2 ((T3 x S an).wk R) [(12,9),(13,11)] R),((bT.stp an).map (ren [(12,9),(13,11)]) R R),((bU.stp an).map (ren [(12,9),(13,11)]) R R),(bG.map (ren [(12,9),(13,11)]) R R),by omega,by omega,aj⟩,(ha.mm R)⟩
 refine JT λh=>Jx R<|Je [2,1,2] R<|Jf R (Ji4 [.slice none 0 0,.slice none 0 0] R)<|Jh4 (κ:=K) 3 R Z71 R (aq.stp<|T8 m s t u o p x S) R λcL bd bF=>Tv<|Jb 1 R<|Ju<|Jw<|Ja1<|Jw<|Jw ?_
 cases h
 obtain rfl:=Option.some.inj aj
 have h:=yL aN
 refine Ja1<|Jq2<|Jw<|Ja2 (l:=[.cell 4 71,.tmp 5]) V51 (cd R bF I71 Z71 R<|Jp2 R R) R ?_
 cases h
 exact⟨K,none,0,none,0,R,(au.stp<|T11 Q D m s t u o p x S bd),Ow.nil,Ow.nil⟩
 rintro _ cU ⟨aA,A,aa,ab,Y,U,rfl,aD,bP,bQ,bR,rfl⟩
 have h:=yI aN
 refine Jp<|Je [1,1,2] R<|Jb4 tv R (Jc4 (haE bR.cells) I71 Z71 R)<|Jh4 (κ:=aA) 3 R Z71 R (aq.stp<|T7 m s t u o p aD) R λcN ao bH=>Tv<|Jb 1 R<|Ju<|Ja2 (l:=[.cell 4 71,.tmp 5]) V51 (cd R bH I71 Z71 R<|Jp2 R R) R ?_
 cases h
 exact⟨(λb=>ren [(9,2),(11,3)]<|aA b),aa,ab,Y,U,R,((au.stp<|T10 Q D m s t u o p aD ao).map (ren [(9,2),(11,3)]) R R),((bP.stp ao).map (ren [(9,2),(11,3)]) R R),((bQ.stp ao).map (ren [(9,2),(11,3)]) R R)⟩
 refine JT λh=>Jx R<|Je [2,1,2] R<|Jf R (Ji4 [.slice none 0 0,.slice none 0 0] R)<|Jh4 (κ:=al) 3 R Z71 R (aq.stp m) R λcO be bI=>Tv<|Jb 1 R<|Ju<|Jw<|Ja2 (l:=[.cell 4 71,.tmp 5]) V51 (cd R bI I71 Z71 R<|Jp2 R R) R ?_
 cases h
 exact⟨al,none,0,none,0,R,(au.stp<|T4 Q D m be),Ow.nil,Ow.nil⟩
theorem lL {aI aN aH aO aL aK}{p0:Parity}{a1 bq}{p1:(List Int)}(cf:Rd (Rp.int .i64) κ w 0 aI aN p0.Arena.Owner) (cg:Rd (Rp.sl (Rp.int .i64)) κ w 0 aH aO p0.Arena.Next) (ch:Rd (Rp.int .i64) κ w 0 aL aK p0.Prio) (ci:Rd (Rp.int .i64) κ w 0 a1 bq p1){r:Answer×Bool}(h:kT p0 p1=some r):Ret Tryz.prog 139 [.agg #[.slice aI p0.Arena.Owner.length aN,.slice aH p0.Arena.Next.length aO,.slice aL p0.Prio.length aK],.slice a1 p1.length bq] w (λv w'=>∃(κ':Col) (bm:Option Addr) (bo:Nat) (bn:Option Addr) (bp:Nat),v= .tuple #[.agg #[.slice bm r.1.Won.length bo,.slice bn r.1.Plan.length bp],.bool r.2]/\Ent κ w κ' w'/\Oc E6 2 κ' w' 2 bm bo r.1.Won/\Oc E6 2 κ' w' 3 bn bp r.1.Plan):=by
 unfold kT at h
 refine Jk3 κ F139 R N139 R λay=>Je [1,1,2] R<|Js3 (κ:=κ) 2 R λc3 w1 bA A b3=>Tv<|Jt3 (κ:=bA) 3 R X85 R λc4 dB bE y aw=>Tv<|Jb 1 R<|Jq<|Je [1,2,1,2] R ?_
 have a0:=b3.stp y
 refine Jb4 tv R (Jc4 (haE a0.cells) I79 Z79 R)<|Jn 1 R<|Ob h λcO cx h=>?_
 have aP:=cf.stp (A.tr y)
 have aQ:=cg.stp (A.tr y)
 have aS:=ch.stp (A.tr y)
 have Z:=ci.stp (A.tr y)
 refine Jr3 R C199 (qN (κ:=Mk bE) (p0:=p0) (Ji3 aP) (Ji3 aQ) (Ji3 aS) (Ji3 Z) cx) ?_
 rintro _ dq ⟨dh,rfl,bP⟩
 obtain⟨ag,i,dl⟩:=Ji bP 4 R
 refine Tv<|Jb 1 R ?_
 revert h
 cases db:(!cO)
 refine JF λh=>Jy R<|Js<|Jp<|Je [1,1,2] R ?_
 have aW:=a0.stp i
 refine Jb4 tv R (Jc4 (haE aW.cells) I79 Z79 R)<|Ob h λG cy h=>?_
 have aX:=aP.stp i
 have aY:=aQ.stp i
 have aZ:=aS.stp i
 refine Jr3 R C200 (od (κ:=Mk ag) (p0:=p0) (Ji3 aX) (Ji3 aY) (Ji3 aZ) cy) ?_
 rintro _ dz ⟨dj,aJ,aM,rfl,bR,b2⟩
 obtain⟨bC,s,cI⟩:=Ji bR 6 R
 refine Tv<|?_
 have ap:=b2.mx (cc _) cI R (R:6+2=8)
 refine Jb 1 R<|Je [1,1,1,1] R ?_
 have aq:=aW.stp s
 refine Jb4 tv R (Jc4 (haE aq.cells) I79 Z79 R)<|Ob h λd cz h=>?_
 have P:=aX.stp s
 refine Jr3 R C201 (rH (κ:=λb=>mp [] 1<|bC b) (p0:=p0) (Jl2 P (mp [] 1) R R) (Jl2 (aY.stp s) (mp [] 1) R R) (Jl2 (aZ.stp s) (mp [] 1) R R) cz) ?_
 rintro _ dA ⟨dk,c2,cX,ar,c0,cZ,c1,cY,cW,J,I,rfl,bS,b4,b5,b6,b7,b8⟩
 obtain⟨bD,x,bg,aB⟩:=Jj bS 9 R
 refine Tv<|Jt3 (κ:=bD) 16 R X210 R λc5 dC T n b9=>Tv<|Jh4 (κ:=T) 16 R Z210 R b9 R λbr o au=>Tv<|Jd<|Jq<|Je3 R ?_
 have cn:(p1.length:Int)<=9223372036854775807:=Z.len_le
 refine Ob h λbj cu a2=>?_
 clear h
 refine Jo3 [2,4,6,7] (λE L w'=>∃κ',∃Q:(List Int),L=E/\Stp [15] T br κ' w'/\Oc E6 2 κ' w' 15 J I Q/\d.pick.length=Q.length/\bj=cb Q) ?_ ?_
 refine Jv<|Jp3 [1,2,4,6,7] (λk E L w'=>∃κ' p,∃N:(List Int),L=(8,vi p)::E/\Stp [15] T br κ' w'/\Oc E6 2 κ' w' 15 J I N/\d.pick.length=N.length/\0<=p/\Int.toNat ((p1.length:Int)-p)=k/\cntM (iu p0 p1 G) k p N=some bj) ⟨_,_,⟨T,0,d.pick,R,Jj3,((b8.mx (cc _) bg R (R:9+6=15)).stp (n.tr o)),R,(by decide),(by simp),cu⟩,(KM R)⟩ ?_
 rintro k _ dE ⟨ah,p,N,rfl,C,av,az,co,c7,h⟩
 rcases k with _ | k
 have ab:=h;obtain⟨cK,h⟩:=cw (cb (Sum.inl N):(Answer×Bool)⊕(((List Int))⊕((List Int))))
 have K:decide (p<(p1.length:Int))=false:=Jo2 (by omega)
 refine Jq<|Jg3 [2,2,2,2] 2 R<|Jn3 R U37 R R<|Jb 1 R<|Jw2 R K<|Jc1<|Jt<|Jt ?_
 cases h
 have h:=ab
 refine Jb1 ?_
 cases h
 exact Jw1 _ ⟨ah,N,R,C.wk R,av,az,R⟩<|KM R
 obtain⟨cK,h,ab⟩:=BI h;unfold iu at h
 have K:decide (p<(p1.length:Int))=true:=Jn2 (by omega)
 refine Jq<|Jg3 [2,2,2,2] 2 R<|Jn3 R U37 R R<|Jb 1 R<|Jv2 R K<|Js<|Jp<|Jq<|Jv<|Jq<|Jq<|Js1 (κ:=ah) [0,2,8] none [(0,2),(1,2),(2,2),(3,0),(4,2),(5,2),(6,2),(7,2),(8,2),(10,2),(11,2),(13,2),(9,0),(12,0),(14,2),(15,0),(16,2),(17,2)] [] (by kernel_rfl) (by kernel_rfl) λcN D=>Jn 2 R<|Ob h λcP a6 h=>Jc3 R Z a6 U37 Z2 ?_
 have ax:=Z.stp (T7 i s x n o C D)
 refine Jg R (Jc2 I2 R R<|hvC (ax.gInt a6) R)<|Jn 2 R<|Ob h λbh h cm=>Jf4 [1,2,4,6,7,8] 45 bh ah cN [(6,2),(7,2),(8,2),(10,2),(11,2),(13,2),(9,0),(12,0),(14,2),(15,0),(16,2),(17,2)] [] (Cl.refl _ _ _) ?_ ?_
 revert h
 cases dc:(cP !=(-1))
 refine JF λh=>Jn 6 R<|Ja4 R<|Ja4 R<|Jn 1 R<|Ja4 R<|Jn 2 R ?_
 cases h
 exact Jv1 _ (Cl.refl _ _ _) ⟨R,_,Jj3⟩<|KM R
 have ai:=(T5 x n o C D)
 refine JT λh=>Jn 2 R<|Ob h λdH a7 h=>Jc3 R ap.rdc a7 U37 Z2<|Jd3 R U79 R Z75<|Jd3 R U75 R Z37<|Jn 1 R<|Jg R (Jc2 I2 R R<|hvC ((ap.stp ai).rdc.gInt a7) R)<|Jg R (Jc2 I37 R R<|hvC ((aq.stp ai).ld 0 R R) R)<|Ob h λdI a8 h=>Jc3 R P a8 U37 Z2<|Jg R (Jc2 I2 R R<|hvC ((P.stp ai).gInt a8) R)<|Jn 2 R ?_
 cases h
 exact Jv1 _ (Cl.refl _ _ _) ⟨R,_,Jj3⟩<|KM R
 rintro _ dF _ ⟨rfl,U,H⟩
 have h:=cm
 refine Jt1<|Jd ?_
 revert h
 cases dd:bh
 refine JF λh=>Jy R<|Js<|Jp<|Js1 (κ:=U) [0,16] none [(0,2),(2,2),(3,2),(4,2),(5,2),(1,0),(6,0),(7,2),(8,1)] [] (by kernel_rfl) (by kernel_rfl) λdm W=>Jd3 R U210 R Z37<|Jn 3 R<|Ob h λdJ a9 h=>Jc3 R ax a9 U37 Z2<|Jg R (Jc2 I37 R R<|hvC ((au.stp<|T4 C D H W).ld 4 R R) R)<|Jg R (Jc2 I2 R R<|hvC ((ax.stp<|H.tr W).gInt a9) R)<|Ob h λdK cA h=>Jf R (Jf2 av.rdc cA U37 Z2 R R az R)<|Ob h λbs be h=>Jk1 (κ:=U) (E:=E6) 15 [] R R R R R R R R Z2 R R R R (av.stp<|T3 D H W) be λdn bu aF bT=>⟨(aF.cl R),?_⟩
 have cp:d.pick.length=bs.length:=az.trans (Jt2 be).2.2.2.symm
 refine Jt1<|Jo<|Jz<|Jp<|Jf3 R ?_
 have cv:bM .i64 (p+1)=p+1:=wr1 co (Jm2 K) cn
 rw[cv]
 have K:=Jm2 K
 cases h
 exact Jz1 λa ha=>⟨k,_,Ja3 _,⟨bu,p+1,bs,R,(T5 C D H W aF).wk R,bT,cp,by omega,by omega,ab⟩,(ha.mm R)⟩
 refine JT λh=>Jx R<|Je [2,1,2] R<|Jf R (Ji4 [.slice none 0 0,.slice none 0 0] R)<|Jh4 (κ:=U) 3 R Z85 R (aw.stp<|T8 i s x n o C D H) R λdG bH ce=>Tv<|Jb 1 R<|Ju<|Jw<|Ja1<|Jw<|Jw ?_
 cases h
 obtain rfl:=Option.some.inj ab
 have h:=yL a2
 refine Ja1<|Jq2<|Jw<|Ja2 (l:=[.cell 4 85,.tmp 5]) V139 (cd R ce I85 Z85 R<|Jp2 R R) R ?_
 cases h
 exact⟨U,none,0,none,0,R,(ay.stp<|T11 A y i s x n o C D H bH),Ow.nil,Ow.nil⟩
 rintro _ dD ⟨bF,Q,rfl,B,ca,cs,rfl⟩
 have h:=yI a2
 refine Jp<|Jg3 [2,1,2] 1 R<|Ob h λcQ cB h=>?_
 have aR:=ap.stp (T4 x n o B)
 refine Jr3 R C202 (nU (κ:=Mk bF) (Ji3 aR.rdc) cB) ?_
 rintro _ dp ⟨de,bI,bK,rfl,bN,bU⟩
 obtain⟨bv,u,cF⟩:=Ji bN 17 R
 refine Tv<|Jb 1 R<|Jg3 [2,1,2] 1 R<|Ob h λcR cC h=>?_
 have F:=aR.stp u
 refine Jr3 R C202 (nU (κ:=Mk bv) (Ji3 F.rdc) cC) ?_
 rintro _ ad ⟨dg,bL,bJ,rfl,bO,bV⟩
 obtain⟨bw,e,cG⟩:=Ji bO 20 R
 refine Tv<|Jb 1 R<|Jq<|Je3 R ?_
 obtain⟨bx,f,cU⟩:=lr bw ad 19
 obtain⟨ae,g,cV⟩:=lr bx ad 22
 have a3:(G.length:Int)<=9223372036854775807:=F.len_le
 refine Ob h λbk ct cj=>?_
 clear h
 refine Jo3 [4,6,7] (λE L w'=>∃κ',∃ac:(List Int),L=E/\Stp [15,25] ae ad κ' w'/\Oc E6 2 κ' w' 15 J I ac/\d.pick.length=ac.length/\bk=cb ac) ?_ ?_
 refine Jv<|Jp3 [2,4,6,7,9,10] (λk E L w'=>∃κ' c,∃z:(List Int),L=(11,vi c)::E/\Stp [15,25] ae ad κ' w'/\Oc E6 2 κ' w' 15 J I z/\d.pick.length=z.length/\0<=c/\Int.toNat ((G.length:Int)-c)=k/\cntM (iv p0 G d cQ cR) k c z=some bk) ⟨_,_,⟨ae,0,Q,R,Jj3,(ca.stp<|T4 u e f g),cs,(by decide),(by simp),ct⟩,(KM R)⟩ ?_
 rintro k _ ds ⟨af,c,z,rfl,j,an,M,a4,c6,h⟩
 rcases k with _ | k
 have aa:=h;obtain⟨cJ,h⟩:=cw (cb (Sum.inl z):(Answer×Bool)⊕(((List Int))⊕((List Int))))
 have t:decide (c<(G.length:Int))=false:=Jo2 (by omega)
 refine Jq<|Jg3 [2,2,2,2] 2 R<|Jn3 R U37 R R<|Jb 1 R<|Jw2 R t<|Jc1<|Jt<|Jt ?_
 cases h
 have h:=aa
 refine Jb1 ?_
 cases h
 exact Jw1 _ ⟨af,z,R,j.wk R,an,M,R⟩<|KM R
 obtain⟨cJ,h,aa⟩:=BI h;unfold iv at h
 have t:decide (c<(G.length:Int))=true:=Jn2 (by omega)
 refine Jq<|Jg3 [2,2,2,2] 2 R<|Jn3 R U37 R R<|Jb 1 R<|Jv2 R t<|Js<|Jp<|Jq<|Jv<|Jq<|Jq<|Js1 (κ:=af) [0,2,8,15,16] none [(0,2),(2,2),(1,0),(3,2),(4,0),(5,2),(6,2),(7,2),(8,2),(9,2),(11,2),(12,2),(14,2),(10,0),(13,0),(15,2),(16,0),(17,2),(18,2)] [] (by kernel_rfl) (by kernel_rfl) λcL m=>Jd3 R U210 R Z37<|Jn 1 R ?_
 have aT:=au.stp (T7 B u e f g j m)
 refine Jg R (Jc2 I37 R R<|hvC (aT.ld 4 R R) R)<|Ob h λcS ba h=>Jf R (Jf2 an.rdc ba U37 Z2 R R M R) ?_
 have ao:=an.stp m
 refine Jg R (Jc2 I2 R R<|hvC (ao.rdc.gInt ba) R)<|Jn 2 R<|Ob h λbi h ck=>Jf4 [2,4,6,7,9,10,11] 83 bi af cL [(7,2),(8,2),(9,2),(11,2),(12,2),(14,2),(10,0),(13,0),(15,2),(16,0),(17,2),(18,2)] [] (Cl.refl _ _ _) ?_ ?_
 revert h
 cases c8:decide (0<=cS)
 have aE:=(T10 x n o B u e f g j m)
 refine JF λh=>Jn 2 R<|Ob h λdL bb h=>Jc3 R F.rdc bb U37 Z2<|Jd3 R U79 R Z75<|Jd3 R U75 R Z37<|Jn 1 R<|Jg R (Jc2 I2 R R<|hvC ((F.stp<|T5 e f g j m).rdc.gInt bb) R)<|Jg R (Jc2 I37 R R<|hvC ((aq.stp aE).ld 0 R R) R)<|Ob h λdM bc h=>Jc3 R P bc U37 Z2<|Jg R (Jc2 I2 R R<|hvC ((P.stp aE).gInt bc) R)<|Jn 2 R ?_
 cases h
 exact Jv1 _ (Cl.refl _ _ _) ⟨R,_,Jj3⟩<|KM R
 refine JT λh=>Jn 6 R<|Ja4 R<|Ja4 R<|Jn 1 R<|Ja4 R<|Jn 2 R ?_
 cases h
 exact Jv1 _ (Cl.refl _ _ _) ⟨R,_,Jj3⟩<|KM R
 rintro _ cM _ ⟨rfl,S,q⟩
 have h:=ck
 refine Jt1<|Jd ?_
 revert h
 cases c9:bi
 refine JF λh=>Jy R<|Js<|Jp<|Je3 R<|Jq<|Jg3 [2,2,2,1,2] 2 R<|Ob h λcT bd h=>Jc3 R F.rdc bd U37 Z2<|Jb3 R I2 ((F.stp<|T6 e f g j m q).rdc.gInt bd)<|Jb 1 R<|Ob h λbl h cl=>Jo3 [2,4,6,7,9,10,11] (λE L w'=>∃κ' am al,L=(12,.slice am bl.length al)::E/\Stp [] S cM κ' w'/\Rd Rp.bool κ' w' 0 am al bl) ?_ ?_
 revert h
 cases da:(cT==1)
 refine JF λh=>Jy R<|Js ?_
 cases h
 exact Jw1 _ ⟨S,bI,bK,R,Jj3,((Sl.st cU ((bU.mx eS cF R (R:17+2=19)).stp e).rdc).stp (T4 g j m q))⟩<|KM R
 refine JT λh=>Jx R<|Jf3 R ?_
 cases h
 exact Jw1 _ ⟨S,bL,bJ,R,Jj3,((Sl.st cV ((bV.mx eS cG R (R:20+2=22)).stp f).rdc).stp (T3 j m q))⟩<|KM R
 rintro _ dt ⟨aD,am,al,rfl,Y,bX⟩
 have h:=cl
 refine Jp<|Js1 (κ:=aD) [16] none [(0,2),(2,2),(4,2),(5,2),(1,0),(3,0),(6,1),(7,2),(8,1)] [] (by kernel_rfl) (by kernel_rfl) λdu O=>Jd3 R U210 R Z37<|Jn 3 R ?_
 have aU:=aT.stp (T3 q Y O)
 have V:=(T12 n o B u e f g j m q Y O)
 refine Jg R (Jc2 I37 R R<|hvC (aU.ld 4 R R) R)<|Jg R (Jc4 (haC aU.cells R) I210 Z210 R)<|Ob h λdN cD h=>Jr3 R C203 (Ret.cast (by simp only[M,List.cons_append,List.nil_append])<|tS (κ:=λb=>mp [(15,2)] 0<|aD b) (p0:=(⟨d.owner,d.prio,d.next,d.prev,z⟩:l7Game)) (Jl2 ((b4.mx aB).stp V) (mp [(15,2)] 0) R R) (Jl2 ((b5.mx aB).stp V) (mp [(15,2)] 0) R R) (Jl2 ((b6.mx aB).stp V) (mp [(15,2)] 0) R R) (Jl2 ((b7.mx (df (cc _) _) bg R (R:9+5=14)).stp V).rdc (mp [(15,2)] 0) R R) ((ao.stp<|T3 q Y O).map (mp [(15,2)] 0) R R) (Jl2 (bX.stp O) (mp [(15,2)] 0) R R) cD) ?_
 rintro _ dv ⟨di,rfl,bQ,bY,a5⟩
 obtain⟨bz,aj,cH⟩:=Ji bQ 23 R
 refine⟨(aj.cl R),?_⟩
 have aV:=bY.mx (cc _) cH R (R:23+2=25)
 refine Ob h λdO cE h=>Jf R (Jf2 aV.rdc cE U37 Z2 R R (M.trans a5) R)<|Ob h λbt bf h=>Jk1 (κ:=bz) (E:=E6) 25 [] R R R R R R R R Z2 R R R R aV bf λdw bB aG bZ=>⟨((aj.tr aG).cl R),?_⟩
 have cr:d.pick.length=bt.length:=(M.trans a5).trans (Jt2 bf).2.2.2.symm
 refine Jt1<|Jo<|Jz<|Jp<|Jf3 R ?_
 have aA:bM .i64 (c+1)=c+1:=wr1 a4 (Jm2 t) a3
 rw[aA]
 have t:=Jm2 t
 cases h
 exact Jz1 λa ha=>⟨k,_,Ja3 _,⟨(λb=>ren [(25,15)]<|bB b),c+1,bt,R,(Jy2 ((T7 j m q Y O aj aG).wk R) [(25,15)] R),(bZ.map (ren [(25,15)]) R R),cr,by omega,by omega,aa⟩,(ha.mm R)⟩
 refine JT λh=>Jx R<|Jc1<|Jt<|Jb1<|Jp<|Jf3 R ?_
 have aA:bM .i64 (c+1)=c+1:=wr1 a4 (Jm2 t) a3
 rw[aA]
 have t:=Jm2 t
 cases h
 exact Jz1 λa ha=>⟨k,_,Ja3 _,⟨S,c+1,z,R,(T3 j m q).wk R,(ao.stp q),M,by omega,by omega,aa⟩,(ha.mm R)⟩
 rintro _ dr ⟨aC,ac,rfl,X,bW,cq,rfl⟩
 have h:=yI cj
 refine Jp<|Jg3 [2,2,1,2,1,2] 1 R<|Jd3 R U210 R Z37<|Jb3 R I37 ((au.stp<|T6 B u e f g X).ld 4 R R)<|Jf R (Ji4 [.slice aJ G.length aM,.slice J d.pick.length I] R)<|Jh4 (κ:=aC) 3 R Z85 R (aw.stp<|T11 i s x n o B u e f g X) R λdx ak b0=>Tv<|Jb 1 R<|Ju<|Ja2 (l:=[.cell 4 85,.tmp 5]) V139 (cd R b0 I85 Z85 R<|Jp2 R R) R ?_
 cases h
 exact⟨(λb=>ren [(8,2),(15,3)]<|aC b),aJ,aM,J,I,(by simp only[cq]),((ay.stp<|T14 A y i s x n o B u e f g X ak).map (ren [(8,2),(15,3)]) R R),((F.stp<|T5 e f g X ak).map (ren [(8,2),(15,3)]) R R),((bW.stp ak).map (ren [(8,2),(15,3)]) R R)⟩
 refine JT λh=>Jx R<|Je [2,1,2] R<|Jf R (Ji4 [.slice none 0 0,.slice none 0 0] R)<|Jh4 (κ:=ag) 3 R Z85 R (aw.stp i) R λdy bG b1=>Tv<|Jb 1 R<|Ju<|Jw<|Ja2 (l:=[.cell 4 85,.tmp 5]) V139 (cd R b1 I85 Z85 R<|Jp2 R R) R ?_
 cases h
 exact⟨ag,none,0,none,0,R,(ay.stp<|T4 A y i bG),Ow.nil,Ow.nil⟩
theorem tO {Z ab X ac Y aa}{p0:Parity}(a1:Rd (Rp.int .i64) κ w 0 Z ab p0.Arena.Owner) (a2:Rd (Rp.sl (Rp.int .i64)) κ w 0 X ac p0.Arena.Next) (a3:Rd (Rp.int .i64) κ w 0 Y aa p0.Prio){r:Answer}(h:lV p0=some r):Ret Tryz.prog 67 [.agg #[.slice Z p0.Arena.Owner.length ab,.slice X p0.Arena.Next.length ac,.slice Y p0.Prio.length aa]] w (λv w'=>∃(κ':Col) (am:Option Addr) (ao:Nat) (an:Option Addr) (ap:Nat),v= .agg #[.slice am r.Won.length ao,.slice an r.Plan.length ap]/\Ent κ w κ' w'/\Oc E6 2 κ' w' 2 am ao r.Won/\Oc E6 2 κ' w' 3 an ap r.Plan):=by
 unfold lV at h
 refine Jk3 κ F67 R N67 R λah=>Je [1,1] R<|Js3 (κ:=κ) 2 R λa9 w1 ar m aR=>Tv<|Jt3 (κ:=ar) 3 R X85 R λba br av j af=>Tv<|Jd<|Jq<|Je [1,1,2] R ?_
 have ag:=aR.stp j
 refine Jb4 tv R (Jc4 (haE ag.cells) I79 Z79 R)<|Ob h λa8 a4 h=>?_
 have G:=a1.stp (m.tr j)
 have H:=a2.stp (m.tr j)
 have I:=a3.stp (m.tr j)
 refine Jr3 R C138 (nS (κ:=Mk av) (p0:=p0) (Ji3 G) (Ji3 H) (Ji3 I) a4) ?_
 rintro _ a7 ⟨bd,rfl,aC⟩
 obtain⟨g,d,bi⟩:=Ji aC 4 R
 refine Tv<|Jb 1 R ?_
 revert h
 cases bb:(!a8)
 refine JF λh=>Jy R<|Js<|Jp<|Jq<|Ob h λbA ai h=>Ob h λJ P h=>Jo3 [2] (λE L w'=>∃κ' c F D B C,L=(3,.pointer (some ⟨c,0,none⟩))::E/\Stp [6,9,11,12,13] g a7 κ' w'/\Oc E6 2 κ' w' 6 F D J.1.Won/\Oc E6 2 κ' w' 7 B C J.1.Plan/\Bc κ' w' 8 c 85 [.slice F J.1.Won.length D,.slice B J.1.Plan.length C]) ?_ ?_
 refine WC.rxt (κ:=g) [2] none (by kernel_rfl) λbo f=>Jq1 (fuel:=8) [(1,2),(0,0),(2,0),(3,2)] (by kernel_rfl) (by kernel_rfl) R<|Jd3 R U79 R Z37 ?_
 have ad:=ag.stp (d.tr f)
 refine Jg R (Jc4 (haC ad.cells R) I79 Z79 R)<|Jg R (Jc2 I37 R R<|hvC (ad.ld 2 R R) R)<|Jn3 R U37 R R<|Jp1<|WA.fork2 (fuel:=7) 4 9 (by kernel_rfl) R ?_ ?_
 refine Jr3 R C140 (pt (κ:=Mk g) ai) ?_
 rintro _ bp ⟨be,az,aA,rfl,aD,aQ⟩
 obtain⟨T,a,a6⟩:=Ji aD 6 R
 refine⟨(a.cl R),?_⟩
 have ae:=aQ.mx (cc _) a6 R (R:6+2=8)
 refine Jp1<|WA.fork2 (fuel:=6) 5 9 (by kernel_rfl) R ?_ ?_
 have K:=(T3 d f a)
 refine Jr3 R C139 (lL (κ:=Mk T) (p0:=p0) (Ji3<|G.stp K) (Ji3<|H.stp K) (Ji3<|I.stp K) (Ji3 ae.rdc) P) ?_
 rintro _ bq ⟨bf,s,p,o,q,rfl,aE,aS,aT⟩
 obtain⟨au,x,ak⟩:=Ji aE 9 R
 exact⟨((a.tr x).cl R),Jp1<|Jq1 (fuel:=0) [(6,2),(7,2),(8,2),(9,1),(10,1),(11,2)] (by kernel_rfl) (by kernel_rfl) R<|Jn 3 R<|Jt3 (κ:=au) 13 R X85 R λc bs U n aU=>⟨((T3 a x n).cl R),Jh4 (κ:=U) 13 R Z85 R aU R λbt y aV=>⟨((T4 a x n y).cl R),Jn 1 R<|Jp1<|Jr1 [] (by kernel_rfl) (by kernel_rfl) R<|Jo<|Jw1 _ ⟨(λb=>ren [(11,6),(12,7),(13,8)]<|U b),c,s,p,o,q,R,(Jy2 ((T5 f a x n y).wk R) [(11,6),(12,7),(13,8)] R),(((aS.mx (cc _) ak R (R:9+2=11)).stp (n.tr y)).map (ren [(11,6),(12,7),(13,8)]) R R),(((aT.mx (cc _) ak R (R:9+3=12)).stp (n.tr y)).map (ren [(11,6),(12,7),(13,8)]) R R),(aV.map (ren [(11,6),(12,7),(13,8)]) R R)⟩<|KM R⟩⟩⟩
 have M:=(T3 d f a)
 refine Jt3 (κ:=T) 9 R X85 R λc bu aw e aW=>⟨((a.tr e).cl R),Jp1<|Jq1 (fuel:=0) [(5,1),(6,2),(7,2),(8,2),(10,1),(11,2)] (by kernel_rfl) (by kernel_rfl) R<|Jr3 R C139 (lL (κ:=Mk aw) (p0:=p0) (Ji3<|G.stp<|M.tr e) (Ji3<|H.stp<|M.tr e) (Ji3<|I.stp<|M.tr e) (Ji3 (ae.stp e).rdc) P) ?_⟩
 rintro _ bv ⟨bg,s,p,o,q,rfl,aF,aX,aY⟩
 obtain⟨V,z,al⟩:=Ji aF 10 R
 exact⟨((T3 a e z).cl R),Jn 3 R<|Jh4 (κ:=V) 9 R Z85 R (aW.stp z) R λbw A aZ=>⟨((T4 a e z A).cl R),Jn 1 R<|Jp1<|Jr1 [] (by kernel_rfl) (by kernel_rfl) R<|Jo<|Jw1 _ ⟨(λb=>ren [(12,6),(13,7),(9,8)]<|V b),c,s,p,o,q,R,(Jy2 ((T5 f a e z A).wk R) [(12,6),(13,7),(9,8)] R),(((aX.mx (cc _) al R (R:10+2=12)).stp A).map (ren [(12,6),(13,7),(9,8)]) R R),(((aY.mx (cc _) al R (R:10+3=13)).stp A).map (ren [(12,6),(13,7),(9,8)]) R R),(aZ.map (ren [(12,6),(13,7),(9,8)]) R R)⟩<|KM R⟩⟩
 refine Jt3 (κ:=g) 6 R X85 R λc bx ax k a0=>⟨(k.cl R),Jp1<|Jq1 (fuel:=0) [(4,1),(5,1),(6,2),(7,2),(8,2),(10,1),(11,2)] (by kernel_rfl) (by kernel_rfl) R<|Jr3 R C140 (pt (κ:=Mk ax) ai) ?_⟩
 rintro _ bz ⟨bh,az,aA,rfl,aG,aH⟩
 obtain⟨aq,i,a5⟩:=Ji aG 7 R
 have N:=(T4 d f k i)
 refine⟨((k.tr i).cl R),Jr3 R C139 (lL (κ:=Mk aq) (p0:=p0) (Ji3<|G.stp N) (Ji3<|H.stp N) (Ji3<|I.stp N) (Ji3 (aH.mx (cc _) a5 R (R:7+2=9)).rdc) P) ?_⟩
 rintro _ bj ⟨bc,s,p,o,q,rfl,aB,aI,aJ⟩
 obtain⟨Q,t,aj⟩:=Ji aB 10 R
 exact⟨((T3 k i t).cl R),Jn 3 R<|Jh4 (κ:=Q) 6 R Z85 R (a0.stp<|i.tr t) R λbk u aK=>⟨((T4 k i t u).cl R),Jn 1 R<|Jp1<|Jr1 [] (by kernel_rfl) (by kernel_rfl) R<|Jo<|Jw1 _ ⟨(λb=>ren [(12,6),(13,7),(6,8)]<|Q b),c,s,p,o,q,R,(Jy2 ((T5 f k i t u).wk R) [(12,6),(13,7),(6,8)] R),(((aI.mx (cc _) aj R (R:10+2=12)).stp u).map (ren [(12,6),(13,7),(6,8)]) R R),(((aJ.mx (cc _) aj R (R:10+3=13)).stp u).map (ren [(12,6),(13,7),(6,8)]) R R),(aK.map (ren [(12,6),(13,7),(6,8)]) R R)⟩<|KM R⟩⟩
 rintro _ bn ⟨S,c,F,D,B,C,rfl,W,aN,aO,aP⟩
 refine Jp<|Je [1,1] R<|Jb4 tv R (Jc4 (haE aP.cells) I85 Z85 R)<|Jh4 (κ:=S) 3 R Z85 R (af.stp<|d.tr W) R λbl O aL=>Tv<|Jd<|Ju<|Ja2 (l:=[.cell 2 85]) V67 (cd R aL I85 Z85 R R) R ?_
 cases h
 exact⟨(λb=>ren [(6,2),(7,3)]<|S b),F,D,B,C,R,((ah.stp<|T5 m j d W O).map (ren [(6,2),(7,3)]) R R),((aN.stp O).map (ren [(6,2),(7,3)]) R R),((aO.stp O).map (ren [(6,2),(7,3)]) R R)⟩
 refine JT λh=>Jx R<|Je [2,1] R<|Jf R (Ji4 [.slice none 0 0,.slice none 0 0] R)<|Jh4 (κ:=g) 3 R Z85 R (af.stp d) R λbm ay aM=>Tv<|Jd<|Ju<|Jw<|Ja2 (l:=[.cell 2 85]) V67 (cd R aM I85 Z85 R R) R ?_
 cases h
 exact⟨g,none,0,none,0,R,(ah.stp<|T4 m j d ay),Ow.nil,Ow.nil⟩
theorem sI {p0:Sig}{a2 a1 a6 ba}{p1:Det}{a7 a5 a8 a0 bb a9}{p2:Parity}{aY bN}{p3:(List Place)}{aZ bO}{X:(List Int)}(c4:Rd (Rp.sl (Rp.int .i64)) κ w 0 a2 a1 p1.Next) (c5:Rd Pair.rp κ w 0 a6 ba p1.Pairs) (c6:Rd (Rp.int .i64) κ w 0 a7 a5 p2.Arena.Owner) (c7:Rd (Rp.sl (Rp.int .i64)) κ w 0 a8 a0 p2.Arena.Next) (c8:Rd (Rp.int .i64) κ w 0 bb a9 p2.Prio) (bv:Rd Place.rp κ w 0 aY bN p3) (bw:Rd (Rp.int .i64) κ w 0 aZ bO X){r:Machine×Bool}(h:nJ p0 p1 p2 p3 X=some r):Ret Tryz.prog 68 [.agg #[vi p0.In,vi p0.Out],.agg #[.slice a2 p1.Next.length a1,.slice a6 p1.Pairs.length ba],.agg #[.slice a7 p2.Arena.Owner.length a5,.slice a8 p2.Arena.Next.length a0,.slice bb p2.Prio.length a9],.slice aY p3.length bN,.slice aZ X.length bO] w (λv w'=>∃(κ':Col) (bJ:Option Addr) (bL:Nat) (bK:Option Addr) (bM:Nat),v= .tuple #[.agg #[.slice bJ r.1.Next.length bL,.slice bK r.1.Out.length bM],.bool r.2]/\Ent κ w κ' w'/\Oc (Ep.own E6 2) 37 κ' w' 2 bJ bL r.1.Next/\Oc (Ep.own E6 2) 37 κ' w' 3 bK bM r.1.Out):=by
 unfold nJ at h
 refine Jk3 κ F68 R N68 R λbx=>Je [1,1,1,1,2] R<|Js3 (κ:=κ) 2 R λdH w1 b8 G cX=>Tv<|Js3 (κ:=b8) 3 R λdI eH ce C c3=>Tv<|Js3 (κ:=ce) 4 R λdJ eN bR u cC=>Tv<|Jt3 (κ:=bR) 5 R X33 R λdF em b1 q be=>Tv<|Jb 1 R<|Je [1,2] R<|Jd4 (κ:=b1) 6 [0] R Y37 bS R λcn cl eu b6 n cN=>Tv<|Jb 1 R<|Je [2,1,1] R<|Jf R (Ji4 [.slice none 0 0,.slice none 0 0] R)<|Jt3 (κ:=b6) 7 R X33 R λbc eC Y j cS=>Tv<|Jh4 (κ:=Y) 7 R Z33 R cS R λbP m cT=>Tv<|Jd<|Jq<|Je3 R<|Ob h λbH dd bz=>?_
 clear h
 refine Jo3 [10,13] (λE L w'=>∃κ',∃H:(List Int)×Int×(List<|List Int)×(List<|List Int),∃a3 a4 aj af an ae,L=E/\Stp [6,7,8,9,10,11,12,13] Y bP κ' w'/\Oc E6 2 κ' w' 6 a3 a4 H.1/\Oc (Ep.own E6 2) 37 κ' w' 8 aj af H.2.2.1/\Oc (Ep.own E6 2) 37 κ' w' 9 an ae H.2.2.2/\Bc κ' w' 7 bc 33 [.slice aj H.2.2.1.length af,.slice an H.2.2.2.length ae]/\bH=cb H) ?_ ?_
 refine Jv<|Jp3 [3,4,5,6,7,10,13] (λk E L w'=>∃κ',∃c:(List Int)×Int×(List<|List Int)×(List<|List Int),∃W Q ag aq V U,L=(12,.slice W c.1.length Q)::(14,vi c.2.1)::E/\Stp [6,7,8,9,10,11,12,13] Y bP κ' w'/\Oc E6 2 κ' w' 6 W Q c.1/\Oc (Ep.own E6 2) 37 κ' w' 8 ag aq c.2.2.1/\Oc (Ep.own E6 2) 37 κ' w' 9 V U c.2.2.2/\Bc κ' w' 7 bc 33 [.slice ag c.2.2.1.length aq,.slice V c.2.2.2.length U]/\cu (jy p0 p1 p2 p3 X) k c=some bH) ⟨_,_,⟨Y,((([0]:List Int):(List Int)),(0:Int),(([]:List (List Int)):(List<|List Int)),(([]:List (List Int)):(List<|List Int))),cn,cl,none,0,none,0,R,Jj3,(cN.stp<|j.tr m),Ow.nil,Ow.nil,cT,dd⟩,(KM R)⟩ ?_
 rintro k _ eG ⟨aT,c,W,Q,ag,aq,V,U,rfl,o,ay,bi,bj,bl,h⟩
 rcases k with _ | k
 cases h
 obtain⟨ef,h,aL⟩:=BI h;unfold jy at h
 refine Jq<|Jg3 [2,2,2,2] 2 R<|Jn3 R U37 R R<|Jb 1 R ?_
 revert h
 cases d2:decide (c.2.1<(c.1.length:Int))
 refine JF λh=>Jy R<|Jc1<|Jt<|Jt ?_
 cases h
 have h:=aL
 refine Jb1 ?_
 cases h
 exact Jw1 _ ⟨aT,(c.1,c.2.1,c.2.2.1,c.2.2.2),W,Q,ag,aq,V,U,R,o.wk R,ay,bi,bj,bl,R⟩<|KM R
 refine JT λh=>Jx R<|Js<|Jp<|Jq<|Jv<|Jg3 [2,2,2,2,1,2,2,1,2] 3 R<|Ob h λeP bB h=>Jc3 R ay.rdc bB U37 Z2<|Jb3 R I2 (ay.rdc.gInt bB)<|Ob h λdv bC h=>Jc3 R bv bC U80 Z88<|Jd3 R U88 R Z2 ?_
 have bm:=bv.stp (T8 G C u q n j m o)
 obtain⟨dW,dg,dc⟩:=(bm).gSt bC
 obtain⟨dE,ei,rfl,dZ⟩:=Place.un dg
 refine Jb3 R I2 (λw' aM=>dc w' aM 0 _ R)<|Jb 1 R<|Je [1,2] R<|Jx3 (κ:=aT) (E:=E6) 10 R Y37 bS R λcp cq eI ca f cY=>Tv<|Jb 1 R<|Je [1,2] R<|Jx3 (κ:=ca) (E:=E6) 11 R Y37 bS R λcm ck bQ aB d cZ=>Tv<|Jb 1 R<|Jq<|Je3 R<|Ob h λbI de da=>?_
 clear h
 refine Jo3 [3,4,5,6,7,10,13,14] (λE L w'=>∃κ',∃i:(List Int)×(List Int)×(List Int)×Int,∃av ao al ai ap ah,L=(12,.slice av i.1.length ao)::(16,.slice al i.2.1.length ai)::(17,.slice ap i.2.2.1.length ah)::E/\Stp [6,10,11] aB bQ κ' w'/\Oc E6 2 κ' w' 6 av ao i.1/\Oc E6 2 κ' w' 10 al ai i.2.1/\Oc E6 2 κ' w' 11 ap ah i.2.2.1/\bI=cb i) ?_ ?_
 refine Jv<|Jp3 [3,4,5,6,7,10,13,14,15] (λk E L w'=>∃κ',∃g:(List Int)×(List Int)×(List Int)×Int,∃T S ar au ak am,L=(12,.slice T g.1.length S)::(16,.slice ar g.2.1.length au)::(17,.slice ak g.2.2.1.length am)::(18,vi g.2.2.2)::E/\Stp [6,10,11] aB bQ κ' w'/\Oc E6 2 κ' w' 6 T S g.1/\Oc E6 2 κ' w' 10 ar au g.2.1/\Oc E6 2 κ' w' 11 ak am g.2.2.1/\cu (ie p0 p1 p2 p3 X c dv) k g=some bI) ⟨_,_,⟨aB,(c.1,(([]:List Int):(List Int)),(([]:List Int):(List Int)),(0:Int)),W,Q,cp,cq,cm,ck,R,Jj3,(ay.stp<|f.tr d),(cY.stp d),cZ,de⟩,(KM R)⟩ ?_
 rintro k _ eK ⟨cf,g,T,S,ar,au,ak,am,rfl,s,aK,bn,bo,h⟩
 rcases k with _ | k
 cases h
 obtain⟨eg,h,bA⟩:=BI h;unfold ie at h
 refine Jq<|Jg3 [2,1,1,2] 1 R ?_
 have bp:=cX.stp (T10 C u q n j m o f d s)
 refine Jb4 tv R (Jc4 (haE bp.cells) I28 Z28 R)<|Ob h λdw di h=>Jr3 R C60 (lE (κ:=Mk cf) (p0:=p0) di) ?_
 rintro _ eL ⟨d8,rfl,cA⟩
 obtain⟨aD,e,ed⟩:=Ji cA 12 R
 refine Tv<|Jb 1 R ?_
 revert h
 cases d3:decide (g.2.2.2<dw)
 refine JF λh=>Jy R<|Jc1<|Jt<|Jt ?_
 cases h
 have h:=bA
 refine Jb1 ?_
 cases h
 exact Jw1 _ ⟨aD,(g.1,g.2.1,g.2.2.1,g.2.2.2),T,S,ar,au,ak,am,R,(s.tr e).wk R,(aK.stp e),(bn.stp e),(bo.stp e),R⟩<|KM R
 refine JT λh=>Jx R<|Js<|Jp<|Jq<|Jv<|Jq<|Js1 (κ:=aD) [0,2,3,4,6] none [(0,2),(2,2),(3,2),(4,2),(5,2),(9,2),(10,2),(1,0),(6,0),(7,0),(8,0),(11,1),(12,1),(13,2),(14,0),(15,2)] [] (by kernel_rfl) (by kernel_rfl) λeM p=>Jn 4 R<|Ob h λeQ bD h=>Jc3 R aK.rdc bD U37 Z2<|Jn 2 R<|Jg R (Jc4 (haC (cC.stp<|T10 q n j m o f d s e p).cells R) I79 Z79 R) ?_
 have bq:=aK.stp (e.tr p)
 refine Jg R (Jc2 I2 R R<|hvC (bq.rdc.gInt bD) R) ?_
 have br:=bp.stp (e.tr p)
 refine Jg R (Jc4 (haC br.cells R) I28 Z28 R) ?_
 have bs:=c3.stp (T11 u q n j m o f d s e p)
 refine Jg R (Jc4 (haC bs.cells R) I71 Z71 R)<|Ob h λeR dj h=>?_
 have bt:=c4.stp (T13 G C u q n j m o f d s e p)
 have bu:=c5.stp (T13 G C u q n j m o f d s e p)
 refine Jr3 R C142 (qP (κ:=Mk aD) (p0:=p0) (p1:=p1) (Ji3 bt) (Ji3 bu) dj) ?_
 rintro _ eO ⟨d9,rfl,cB⟩
 obtain⟨cg,t,ee⟩:=Ji cB 14 R
 refine⟨(t.cl R),Ob h λeS dk h=>?_⟩
 have aI:=bm.stp (T6 f d s e p t)
 have aE:=(T14 G C u q n j m o f d s e p t)
 refine Jr3 R C141 (uK (κ:=Mk cg) (p0:=p2) (Ji3<|c6.stp aE) (Ji3<|c7.stp aE) (Ji3<|c8.stp aE) (Ji3 aI) dk) ?_
 rintro _ ej ⟨d4,rfl,cw⟩
 obtain⟨bT,x,ea⟩:=Ji cw 16 R
 refine⟨((t.tr x).cl R),Ob h λdx bE h=>Jc3 R bw bE U37 Z2<|Jg R (Jc2 I2 R R<|hvC ((bw.stp<|T13 G C u q n j m o f d s e p).gInt bE) R)<|Jn 1 R<|Jt1<|Jd<|Jq<|Jg3 [2,2,1,2] 2 R<|Ob h λdy dl h=>?_⟩
 have aJ:=bq.stp (t.tr x)
 refine Jr3 R C56 (kq (κ:=Mk bT) (Ji3 aJ.rdc) dl) ?_
 rintro _ du ⟨d5,rfl,cx⟩
 obtain⟨aA,y,eb⟩:=Ji cx 18 R
 refine Tv<|Jb 1 R<|Ob h λaN h c9=>Jo3 [3,4,5,6,7,10,13,14,15,16,17,18,19] (λE L w'=>∃κ' ac ax,L=(12,.slice ac aN.length ax)::E/\Stp [6] aA du κ' w'/\Oc E6 2 κ' w' 6 ac ax aN) ?_ ?_
 revert h
 cases d0:decide (dy<0)
 refine JF λh=>Jy R<|Js ?_
 cases h
 exact Jw1 _ ⟨aA,T,S,R,Jj3,(aJ.stp y)⟩<|KM R
 refine JT λh=>Jx R<|Jh3 [2,2,1,1,2] 2 R<|Jd4 (κ:=aA) 20 [dx] R Y37 bS R λdM dP el bW aW cD=>Tv<|Ob h λeT dm h=>Jy3 (κ:=bW) (E:=E6) 6 [] R Y37 bS R (aJ.stp<|y.tr aW) (Sl.srcP (bY _) cD.rdc) bU dm R λcj ct en bX ch cE=>Tv<|Jc 1 R ?_
 cases h
 exact Jw1 _ ⟨bX,cj,ct,R,(aW.tr ch).wk R,cE⟩<|KM R
 rintro _ ek ⟨bV,ac,ax,rfl,I,bd⟩
 have h:=c9
 refine Jp<|Jg3 [2,2,2,1,1,1,2] 3 R<|Ob h λdz dn h=>Jr3 R C56 (kq (κ:=Mk bV) (Ji3 bd.rdc) dn) ?_
 rintro _ eo ⟨d6,rfl,cy⟩
 obtain⟨b0,D,ec⟩:=Ji cy 20 R
 have aU:=(T5 t x y I D)
 refine Tv<|Jd4 (κ:=b0) 22 [dz] R Y37 bS R λdS dT ep b2 z cF=>Tv<|Ob h λdA dp h=>Jy3 (κ:=b2) (E:=E6) 10 [] R Y37 bS R (bn.stp<|T8 e p t x y I D z) (Sl.srcP (bY _) cF.rdc) bU dp R λcr co eq aP F cG=>Tv<|Jb 1 R<|Js1 (κ:=aP) [0,2,3] none [(0,2),(3,2),(4,2),(5,2),(6,2),(7,2),(8,2),(1,0),(2,0),(9,0),(10,1),(11,2),(12,1),(13,1),(14,1),(15,2)] [] (by kernel_rfl) (by kernel_rfl) λer A=>Jn 5 R<|Ob h λeU bF h=>Jc3 R aI bF U80 Z88<|Jd3 R U88 R Z2<|Jg R (Jc4 (haC (br.stp<|T4 aU z F A).cells R) I28 Z28 R)<|Jg R (Jc4 (haC (bs.stp<|T4 aU z F A).cells R) I71 Z71 R) ?_
 obtain⟨dV,df,db⟩:=((aI.stp (T7 x y I D z F A))).gSt bF
 obtain⟨dD,eh,rfl,dY⟩:=Place.un df
 have aV:=(T8 t x y I D z F A)
 refine Jg R (Jc2 I2 R R<|hvC (λw' aM=>db w' aM 0 _ R) R)<|Ob h λeV dq h=>Jr3 R C143 (qt (κ:=Mk aP) (p0:=p0) (p1:=p1) (Ji3<|bt.stp aV) (Ji3<|bu.stp aV) dq) ?_
 rintro _ es ⟨d7,dQ,dR,rfl,cz,cH⟩
 obtain⟨b3,B,dt⟩:=Ji cz 23 R
 refine⟨(B.cl R),?_⟩
 have bf:=cH.mx (cc _) dt R (R:23+2=25)
 refine Ob h λdB bG h=>Jc3 R bf.rdc bG U37 Z2<|Jb4 (B.cl R) R (Jc2 I2 R R<|hvE<|bf.rdc.gInt bG)<|Jd4 (κ:=b3) 26 [dB] R Y37 bS R λdN dL et b4 J cI=>⟨((B.tr J).cl R),Ob h λdC dr h=>Jy3 (κ:=b4) (E:=E6) 11 [] R Y37 bS R (bo.stp<|T12 e p t x y I D z F A B J) (Sl.srcP (bY _) cI.rdc) bU dr R λcs cv ev b5 Z cJ=>⟨((T3 B J Z).cl R),Jn 1 R<|Jt1<|Jo<|Jz<|Jp<|Jf3 R ?_⟩⟩
 cases h
 exact Jz1 λa ha=>⟨k,_,Ja3 _,⟨b5,(aN,dA,dC,((IntKind.i64.wrap<|g.2.2.2+1):Int)),ac,ax,cr,co,cs,cv,R,(T14 s e p t x y I D z F A B J Z).wk R,(bd.stp<|T7 D z F A B J Z),(cG.stp<|T4 A B J Z),cJ,bA⟩,(ha.mm R)⟩
 rintro _ eJ ⟨aC,i,av,ao,al,ai,ap,ah,rfl,M,c0,c1,c2,rfl⟩
 have h:=yI da
 refine Jp<|Jq<|Jg3 [2,2,2] 1 R<|Jn3 R U37 R R<|Jb 1 R ?_
 revert h
 cases d1:decide (48<(i.1.length:Int))
 refine JF λh=>Jy R<|Js<|Jp<|Je [2,1,2,1,1,2,1] R<|Jd3 R U33 R Z31 ?_
 have bg:=bl.stp (T3 f d M)
 refine Jb3 R I31 (bg.ld 0 R R)<|Jn 1 R<|Jw3 (κ:=aC) (E:=(Ep.own E6 2)) 12 [10] (parts:=[(0,.tmp 94)]) (cells:=[.slice al i.2.1.length ai]) (xs:=([i.2.1]:List (List Int))) R Y31 bZ R (Je4 ⟨_,_,R,c1⟩) λdK dU ex b7 K cL=>Tv<|Ob h λaz ds h=>Jy3 (κ:=b7) (E:=(Ep.own E6 2)) 8 [12] R Y31 bZ R (bi.stp<|T4 f d M K) cL.src (dG R) ds R λaw ad ey aQ N cM=>Tv<|Jd3 R U33 R Z31<|Ju3 (κ:=aQ) 7 (off:=0) (vc:=[.slice aw az.length ad]) (cs':=[.slice aw az.length ad,.slice V c.2.2.2.length U]) R Z31 R (bg.stp<|K.tr N) R λez O bh=>Tv<|Jd<|Ja [2,1,2,1,1,2,1] R<|Jd3 R U33 R Z31<|Jb3 R I31 (bh.ld 1 R R)<|Jn 1 R<|Jw3 (κ:=aQ) (E:=(Ep.own E6 2)) 13 [11] (parts:=[(0,.tmp 100)]) (cells:=[.slice ap i.2.2.1.length ah]) (xs:=([i.2.2.1]:List (List Int))) R Y31 bZ R (Je4 ⟨_,_,R,(c2.stp<|T3 K N O)⟩) λbk dO eA b9 P cO=>Tv<|Ob h λaO dh h=>Jy3 (κ:=b9) (E:=(Ep.own E6 2)) 9 [13] R Y31 bZ R (bj.stp<|T7 f d M K N O P) cO.src (dG R) dh R λaG aH eB aR aa cP=>Tv<|Jd3 R U33 R Z31<|Ju3 (κ:=aR) 7 (off:=1) (vc:=[.slice aG aO.length aH]) (cs':=[.slice aw az.length ad,.slice aG aO.length aH]) R Z31 R (bh.stp<|P.tr aa) R λeD ab cQ=>Tv<|Jo<|Jz<|Jp<|Jf3 R ?_
 cases h
 exact Jz1 λa ha=>⟨k,_,Ja3 _,⟨aR,(i.1,((IntKind.i64.wrap<|c.2.1+1):Int),az,aO),av,ao,aw,ad,aG,aH,R,(T10 o f d M K N O P aa ab).wk R,(c0.stp<|T6 K N O P aa ab),(cM.stp<|T4 O P aa ab),(cP.stp ab),cQ,aL⟩,(ha.mm R)⟩
 refine JT λh=>Jx R<|Je [2,1,2] R<|Jf R (Ji4 [.slice none 0 0,.slice none 0 0] R)<|Jh4 (κ:=aC) 5 R Z33 R (be.stp<|T7 n j m o f d M) R λew ci cK=>Tv<|Jb 1 R<|Ju<|Jw<|Ja1<|Jw<|Jw ?_
 cases h
 obtain rfl:=Option.some.inj aL
 have h:=yL bz
 refine Ja1<|Jq2<|Jw<|Ja2 (l:=[.cell 10 33,.tmp 11]) V68 (cd R cK I33 Z33 R<|Jp2 R R) R ?_
 cases h
 exact⟨aC,none,0,none,0,R,(bx.stp<|T12 G C u q n j m o f d M ci),Ow.nil,Ow.nil⟩
 rintro _ eF ⟨aS,H,a3,a4,aj,af,an,ae,rfl,aX,dX,cU,cV,cW,rfl⟩
 have h:=yI bz
 refine Jp<|Je [1,1,2] R<|Jb4 tv R (Jc4 (haE cW.cells) I33 Z33 R)<|Jh4 (κ:=aS) 5 R Z33 R (be.stp<|T4 n j m aX) R λeE aF cR=>Tv<|Jb 1 R<|Ju<|Ja2 (l:=[.cell 10 33,.tmp 11]) V68 (cd R cR I33 Z33 R<|Jp2 R R) R ?_
 cases h
 exact⟨(λb=>ren [(8,2),(9,3)]<|aS b),aj,af,an,ae,R,((bx.stp<|T9 G C u q n j m aX aF).map (ren [(8,2),(9,3)]) R R),((cU.stp aF).map (ren [(8,2),(9,3)]) R R),((cV.stp aF).map (ren [(8,2),(9,3)]) R R)⟩
theorem qq {p0:Sig}{a1 ak}{p1:(List Clause)}(bd:Rd Clause.rp κ w 0 a1 ak p1){r:Machine×Bool}(h:gD p0 p1=some r):Ret Tryz.prog 20 [.agg #[vi p0.In,vi p0.Out],.slice a1 p1.length ak] w (λv w'=>∃(κ':Col) (ag:Option Addr) (ai:Nat) (ah:Option Addr) (aj:Nat),v= .tuple #[.agg #[.slice ag r.1.Next.length ai,.slice ah r.1.Out.length aj],.bool r.2]/\Ent κ w κ' w'/\Oc (Ep.own E6 2) 37 κ' w' 2 ag ai r.1.Next/\Oc (Ep.own E6 2) 37 κ' w' 3 ah aj r.1.Out):=by
 unfold gD at h
 refine Jk3 κ F20 R N20 R λA=>Je [1,1,2] R<|Js3 (κ:=κ) 2 R λbP w1 ap y a2=>Tv<|Jt3 (κ:=ap) 3 R X33 R λbQ ch aw x z=>Tv<|Jb 1 R<|Je [1,2,1,2,2,2,1,1,2] R ?_
 have ab:=a2.stp x
 refine Jb4 tv R (Jc4 (haE ab.cells) I28 Z28 R)<|Jn 1 R<|Ob h λK be h=>Jr3 R C51 (qu (κ:=Mk aw) (p0:=p0) (Ji3<|bd.stp<|y.tr x) be) ?_
 rintro _ b4 ⟨bX,bu,bD,bs,bB,rfl,aK,aT,aV⟩
 obtain⟨ao,i,af⟩:=Ji aK 4 R
 refine Tv<|Jn 3 R<|Jt3 (κ:=ao) 8 R X71 R λbR ce D a aZ=>Tv<|Jh4 (κ:=D) 8 R Z71 R aZ R λal c X=>Tv<|Jb 1 R<|Jq<|Je3 R ?_
 revert h
 cases bV:(!K.2)
 refine JF λh=>Jy R<|Js<|Jp<|Je [1,1,1,2,2,2,2,1,1,2,2] R ?_
 have Y:=ab.stp (T3 i a c)
 refine Jb4 tv R (Jc4 (haE Y.cells) I28 Z28 R)<|Jb4 tv R (Jc4 (haE X.cells) I71 Z71 R) ?_
 obtain⟨aq,m,bl⟩:=lr D al 6
 obtain⟨au,n,bm⟩:=lr aq al 7
 have Z:=Sl.st bm ((aV.mx Pair.no127 af R (R:4+3=7)).stp (T3 a c m)).rdc
 refine Ob h λam bf h=>?_
 have aa:=(Sl.st bl ((aT.mx (df (cc _) _) af R (R:4+2=6)).stp (a.tr c)).rdc).stp n
 refine Jr3 R C65 (qp (κ:=λb=>mp [] 1<|au b) (p0:=p0) (p1:=K.1) (Jl2 aa (mp [] 1) R R) (Jl2 Z (mp [] 1) R R) bf) ?_
 rintro _ cg ⟨b0,bv,bA,bx,bL,bH,bI,rfl,aM,a3,a4,a5⟩
 obtain⟨av,o,I,bn⟩:=Jj aM 9 R
 refine Tv<|Jn 4 R<|Jt3 (κ:=av) 14 R X75 R λbS ci E d a6=>Tv<|Jh4 (κ:=E) 14 R Z75 R a6 R λJ e a7=>Tv<|Jb 2 R<|Jq<|Je3 R ?_
 revert h
 cases bW:(!am.2.2)
 refine JF λh=>Jy R<|Js<|Jp<|Je [1,2,1,2,2,2,2,1,1,2,2] R<|Jb4 tv R (Jc4 (haE a7.cells) I75 Z75 R)<|Jn 1 R ?_
 obtain⟨ax,p,bo⟩:=lr E J 11
 obtain⟨ay,q,bp⟩:=lr ax J 12
 obtain⟨az,s,bq⟩:=lr ay J 13
 refine Ob h λL bg h=>Jr3 R C66 (qO (κ:=λb=>mp [] 1<|az b) (p0:=am.1) (Jl2 ((Sl.st bo ((a3.mx (cc _) I R (R:9+2=11)).stp (d.tr e)).rdc).stp (q.tr s)) (mp [] 1) R R) (Jl2 ((Sl.st bp ((a4.mxz bn I R (R:9+3=12)).stp (T3 d e p)).rdc).stp s) (mp [] 1) R R) (Jl2 (Sl.st bq ((a5.mx Pair.no127 I R (R:9+4=13)).stp (T4 d e p q)).rdc) (mp [] 1) R R) bg) ?_
 rintro _ ck ⟨b1,bJ,ar,bK,br,bE,bM,bC,bw,rfl,aN,a9,ba,bb,bc⟩
 obtain⟨aA,u,G,bk⟩:=Jj aN 15 R
 refine Tv<|Jn 4 R<|Jt3 (κ:=aA) 21 R X79 R λbN b2 B f aO=>Tv<|Jh4 (κ:=B) 21 R Z79 R aO R λb3 g Q=>Tv<|Jb 2 R<|Jq<|Je3 R ?_
 revert h
 cases bT:(!L.2.2)
 refine JF λh=>Jy R<|Js<|Jp<|Je [1,1,1,1] R<|Jb4 tv R (Jc4 (haE Q.cells) I79 Z79 R)<|Ob h λcl bh h=>?_
 have S:=(a9.mx (cc _) G R (R:15+2=17)).stp (f.tr g)
 have T:=(ba.mx (df (cc _) _) G R (R:15+3=18)).stp (f.tr g)
 have U:=(bb.mx (cc _) G R (R:15+4=19)).stp (f.tr g)
 refine Jr3 R C67 (tO (κ:=Mk B) (p0:=L.1) (Ji3 S.rdc) (Ji3 T.rdc) (Ji3 U.rdc) bh) ?_
 rintro _ b6 ⟨bY,bF,bt,bG,bz,rfl,aJ,aQ,aR⟩
 obtain⟨an,t,ad⟩:=Ji aJ 22 R
 refine Tv<|?_
 have V:=aQ.mx (cc _) ad R (R:22+2=24)
 refine Jt3 (κ:=an) 26 R X85 R λbO b7 C j aS=>Tv<|Jh4 (κ:=C) 26 R Z85 R aS R λb8 k W=>Tv<|Jd<|Jq<|Je [2,1,2,1,2] R<|Jd3 R U85 R Z37<|Jb3 R I37 (W.ld 0 R R)<|Ob h λbj ac h=>Jc3 R V.rdc ac U37 Z2<|Jb3 R I2 ((V.stp<|j.tr k).rdc.gInt ac)<|Jb 1 R ?_
 revert h
 cases bU:(bj !=0)
 have N:=(T14 m n o d e p q s u f g t j k)
 have O:=(T12 o d e p q s u f g t j k)
 have F:=(T3 t j k)
 refine JF λh=>Jy R<|Js<|Jp<|Je [1,1,1,2,2,1,1,2,2,1,2] R<|Jb4 tv R (Jc4 (haE (Y.stp N).cells) I28 Z28 R)<|Jb4 tv R (Jc4 (haE (X.stp N).cells) I71 Z71 R)<|Jb4 tv R (Jc4 (haE (Q.stp F).cells) I79 Z79 R)<|Jn 1 R<|Jd3 R U85 R Z37<|Jb3 R I37 (W.ld 1 R R)<|Ob h λcm bi h=>Jr3 R C68 (sI (κ:=Mk C) (p0:=p0) (p1:=K.1) (p2:=L.1) (Ji3<|aa.stp O) (Ji3<|Z.stp O) (Ji3 (S.stp F).rdc) (Ji3 (T.stp F).rdc) (Ji3 (U.stp F).rdc) (Ji3 ((bc.mxz bk G R (R:15+5=20)).stp (T5 f g t j k)).rdc) (Ji3 ((aR.mx (cc _) ad R (R:22+3=25)).stp (j.tr k)).rdc) bi) ?_
 rintro _ ca ⟨bZ,aI,aG,aF,aH,rfl,aL,aW,aX⟩
 obtain⟨M,P,ae⟩:=Ji aL 27 R
 refine Tv<|Jn 2 R<|Jh4 (κ:=M) 3 R Z33 R (z.stp<|i.tr<|a.tr<|c.tr<|m.tr<|n.tr<|o.tr<|d.tr<|e.tr<|p.tr<|q.tr<|s.tr<|u.tr<|f.tr<|g.tr<|t.tr<|j.tr<|k.tr P) R λcb H aY=>Tv<|Jb 1 R<|Ju<|Ja2 (l:=[.cell 4 33,.tmp 5]) V20 (cd R aY I33 Z33 R<|Jp2 R R) R ?_
 cases h
 exact⟨(λb=>ren [(29,2),(30,3)]<|M b),aI,aG,aF,aH,R,((A.stp<|y.tr<|x.tr<|i.tr<|a.tr<|c.tr<|m.tr<|n.tr<|o.tr<|d.tr<|e.tr<|p.tr<|q.tr<|s.tr<|u.tr<|f.tr<|g.tr<|t.tr<|j.tr<|k.tr<|P.tr H).map (ren [(29,2),(30,3)]) R R),(((aW.mx (df (cc _) _) ae R (R:27+2=29)).stp H).map (ren [(29,2),(30,3)]) R R),(((aX.mx (df (cc _) _) ae R (R:27+3=30)).stp H).map (ren [(29,2),(30,3)]) R R)⟩
 refine JT λh=>Jx R<|Je [2,1,2] R<|Jf R (Ji4 [.slice none 0 0,.slice none 0 0] R)<|Jh4 (κ:=C) 3 R Z33 R (z.stp<|i.tr<|a.tr<|c.tr<|m.tr<|n.tr<|o.tr<|d.tr<|e.tr<|p.tr<|q.tr<|s.tr<|u.tr<|f.tr<|g.tr<|t.tr<|j.tr k) R λb9 aC aU=>Tv<|Jb 1 R<|Ju<|Jw<|Ja2 (l:=[.cell 4 33,.tmp 5]) V20 (cd R aU I33 Z33 R<|Jp2 R R) R ?_
 cases h
 exact⟨C,none,0,none,0,R,(A.stp<|y.tr<|x.tr<|i.tr<|a.tr<|c.tr<|m.tr<|n.tr<|o.tr<|d.tr<|e.tr<|p.tr<|q.tr<|s.tr<|u.tr<|f.tr<|g.tr<|t.tr<|j.tr<|k.tr aC),Ow.nil,Ow.nil⟩
 refine JT λh=>Jx R<|Je [2,1,2] R<|Jf R (Ji4 [.slice none 0 0,.slice none 0 0] R)<|Jh4 (κ:=B) 3 R Z33 R (z.stp<|T14 i a c m n o d e p q s u f g) R λb5 aB aP=>Tv<|Jb 1 R<|Ju<|Jw<|Ja2 (l:=[.cell 4 33,.tmp 5]) V20 (cd R aP I33 Z33 R<|Jp2 R R) R ?_
 cases h
 exact⟨B,none,0,none,0,R,(A.stp<|y.tr<|x.tr<|i.tr<|a.tr<|c.tr<|m.tr<|n.tr<|o.tr<|d.tr<|e.tr<|p.tr<|q.tr<|s.tr<|u.tr<|f.tr<|g.tr aB),Ow.nil,Ow.nil⟩
 refine JT λh=>Jx R<|Je [2,1,2] R<|Jf R (Ji4 [.slice none 0 0,.slice none 0 0] R)<|Jh4 (κ:=E) 3 R Z33 R (z.stp<|T8 i a c m n o d e) R λcj aE a8=>Tv<|Jb 1 R<|Ju<|Jw<|Ja2 (l:=[.cell 4 33,.tmp 5]) V20 (cd R a8 I33 Z33 R<|Jp2 R R) R ?_
 cases h
 exact⟨E,none,0,none,0,R,(A.stp<|T11 y x i a c m n o d e aE),Ow.nil,Ow.nil⟩
 refine JT λh=>Jx R<|Je [2,1,2] R<|Jf R (Ji4 [.slice none 0 0,.slice none 0 0] R)<|Jh4 (κ:=D) 3 R Z33 R (z.stp<|T3 i a c) R λcf aD a0=>Tv<|Jb 1 R<|Ju<|Jw<|Ja2 (l:=[.cell 4 33,.tmp 5]) V20 (cd R a0 I33 Z33 R<|Jp2 R R) R ?_
 cases h
 exact⟨D,none,0,none,0,R,(A.stp<|T6 y x i a c aD),Ow.nil,Ow.nil⟩
theorem nO {p0:Sig}{s u t x}{p1:Machine}{a2 L}{p2:(List Clause)}(A:Rd (Rp.sl (Rp.int .i64)) κ w 0 s u p1.Next) (B:Rd (Rp.sl (Rp.int .i64)) κ w 0 t x p1.Out) (ao:Rd Clause.rp κ w 0 a2 L p2){r:(Option watch)×Bool}(h:gu p0 p1 p2=some r):Ret Tryz.prog 73 [.agg #[vi p0.In,vi p0.Out],.agg #[.slice s p1.Next.length u,.slice t p1.Out.length x],.slice a2 p2.length L] w (λv w'=>∃(κ':Col) (E:Option Addr) (I:Nat) (F:Option Addr) (J:Nat) (G:Option Addr) (K:Nat) (H:Nat),v= .tuple #[.pointer (bif r.1.isSome then some ⟨H,0,none⟩ else none),.bool r.2]/\Ent κ w κ' w'/\Oc (Ep.own E6 2) 37 κ' w' 2 E I ((r.1.getD (⟨([]:List (List Int)),([]:List (List Int)),([]:List Pair)⟩:watch)).next)/\Oc (Ep.own E6 2) 37 κ' w' 3 F J ((r.1.getD (⟨([]:List (List Int)),([]:List (List Int)),([]:List Pair)⟩:watch)).letters)/\Oc Pair.ep127 127 κ' w' 4 G K ((r.1.getD (⟨([]:List (List Int)),([]:List (List Int)),([]:List Pair)⟩:watch)).pairs)/\(r.1.isSome=true->Bc κ' w' 5 H 172 [.slice E ((r.1.getD (⟨([]:List (List Int)),([]:List (List Int)),([]:List Pair)⟩:watch)).next).length I,.slice F ((r.1.getD (⟨([]:List (List Int)),([]:List (List Int)),([]:List Pair)⟩:watch)).letters).length J,.slice G ((r.1.getD (⟨([]:List (List Int)),([]:List (List Int)),([]:List Pair)⟩:watch)).pairs).length K])):=by
 unfold gu at h
 refine Jk3 κ F73 R N73 R λn=>Je [1,1,2,2] R<|Js3 (κ:=κ) 2 R λaD w1 N d af=>Tv<|Js3 (κ:=N) 3 R λaE aT P c z=>Tv<|Jb 2 R<|Jq<|Je [1,1,2,2,1,1,1,2,2] R ?_
 have m:=af.stp c
 refine Jb4 tv R (Jc4 (haE m.cells) I28 Z28 R)<|Ob h λax aq h=>Jr3 R C82 (mn (κ:=Mk P) (p0:=p0) aq) ?_
 rintro _ aw ⟨aJ,rfl,ab⟩
 obtain⟨o,a,aN⟩:=Ji ab 4 R
 refine Tv<|Jn 2 R<|Ob h λD h ap=>Jf4 [2,3,4] 18 D o aw [(4,1),(5,1),(6,1),(7,2),(8,2)] [] tv ?_ ?_
 revert h
 cases aG:(!ax)
 refine JF λh=>Jb4 tv R (Jc4 (haE (m.stp a).cells) I28 Z28 R)<|Jb4 tv R (Jc4 (haE (z.stp a).cells) I33 Z33 R)<|Ob h λaW ar h=>Jr3 R C83 (mS (κ:=Mk o) (p0:=p0) (p1:=p1) (Ji3<|A.stp<|T3 d c a) (Ji3<|B.stp<|T3 d c a) ar) ?_
 rintro _ aP ⟨aK,rfl,ac⟩
 obtain⟨ay,S,aO⟩:=Ji ac 6 R
 refine Tv<|Jn 2 R ?_
 cases h
 exact Jv1 _ tv ⟨R,_,S.wk R⟩<|KM R
 refine JT λh=>Jz3 R<|Jz3 R<|Jz3 R<|Jn 2 R ?_
 cases h
 exact Jg4 tv R
 rintro _ aQ _ ⟨rfl,p,e⟩
 have h:=ap
 refine Jd ?_
 revert h
 cases aH:D
 refine JF λh=>Jy R<|Js<|Jp<|Je [1,2,1,2,2,2,1,1,2] R ?_
 have y:=m.stp (a.tr e)
 refine Jb4 tv R (Jc4 (haE y.cells) I28 Z28 R)<|Jn 1 R<|Ob h λM au h=>Jr3 R C41 (pR (κ:=Mk p) (p0:=p0) (Ji3<|ao.stp<|T4 d c a e) au) ?_
 rintro _ aR ⟨aL,aB,az,aC,aA,rfl,ad,ag,ah⟩
 obtain⟨O,i,C⟩:=Ji ad 6 R
 refine Tv<|Jn 3 R<|Jt3 (κ:=O) 10 R X71 R λaF aS k f ai=>Tv<|Jh4 (κ:=k) 10 R Z71 R ai R λaU g aj=>Tv<|Jb 1 R<|Jq<|Je3 R ?_
 revert h
 cases aI:(!M.2)
 have q:=(T7 d c a e i f g)
 refine JF λh=>Jy R<|Js<|Jp<|Je [1,1,1,1,2,2,2,2] R<|Jb4 tv R (Jc4 (haE (y.stp<|T3 i f g).cells) I28 Z28 R)<|Jb4 tv R (Jc4 (haE (z.stp<|T5 a e i f g).cells) I33 Z33 R)<|Jb4 tv R (Jc4 (haE aj.cells) I71 Z71 R)<|Ob h λaX av h=>Jr3 R C148 (rZ (κ:=Mk k) (p0:=p0) (p1:=p1) (p2:=M.1) (Ji3<|A.stp q) (Ji3<|B.stp q) (Ji3 ((ag.mx (df (cc _) _) C R (R:6+2=8)).stp (f.tr g)).rdc) (Ji3 ((ah.mx Pair.no127 C R (R:6+3=9)).stp (f.tr g)).rdc) av) ?_
 rintro _ aV ⟨aM,Y,V,U,Z,X,W,aa,rfl,ae,ak,al,am,an⟩
 obtain⟨Q,T,j⟩:=Ji ae 11 R
 refine Tv<|Jb 4 R<|Ju<|Ja2 (l:=[.tmp 6,.tmp 7]) V73 (Jp2 R<|Jp2 R R) R ?_
 cases h
 exact⟨(λb=>ren [(13,2),(14,3),(15,4),(16,5)]<|Q b),Y,V,U,Z,X,W,aa,R,((n.stp<|T8 d c a e i f g T).map (ren [(13,2),(14,3),(15,4),(16,5)]) R R),((ak.mx (df (cc _) _) j R (R:11+2=13)).map (ren [(13,2),(14,3),(15,4),(16,5)]) R R),((al.mx (df (cc _) _) j R (R:11+3=14)).map (ren [(13,2),(14,3),(15,4),(16,5)]) R R),((am.mx Pair.no127 j R (R:11+4=15)).map (ren [(13,2),(14,3),(15,4),(16,5)]) R R),(λhs=>(((λhs=>(an hs).mx j R (R:11+5=16)) hs).map (ren [(13,2),(14,3),(15,4),(16,5)]) R R))⟩
 refine JT λh=>Jx R<|Je3 R<|Ju<|Jw<|Ja2 (l:=[.tmp 6,.tmp 7]) V73 (Jp2 R<|Jp2 R R) R ?_
 cases h
 exact⟨k,none,0,none,0,none,0,0,R,(n.stp<|T7 d c a e i f g),Ow.nil,Ow.nil,Ow.nil,(λh=>absurd h Bool.false_ne_true)⟩
 refine JT λh=>Jx R<|Je3 R<|Ju<|Jw<|Ja2 (l:=[.tmp 6,.tmp 7]) V73 (Jp2 R<|Jp2 R R) R ?_
 cases h
 exact⟨p,none,0,none,0,none,0,0,R,(n.stp<|T4 d c a e),Ow.nil,Ow.nil,Ow.nil,(λh=>absurd h Bool.false_ne_true)⟩
theorem qG {p0:Sig}{g j i k}{p1:Machine}{a2 o}{p2:(List Clause)}(H:Rd (Rp.sl (Rp.int .i64)) κ w 0 g j p1.Next) (I:Rd (Rp.sl (Rp.int .i64)) κ w 0 i k p1.Out) (J:Rd Clause.rp κ w 0 a2 o p2){r:(List Int)}(h:jG p0 p1 p2=some r):Ret Tryz.prog 27 [.agg #[vi p0.In,vi p0.Out],.agg #[.slice g p1.Next.length j,.slice i p1.Out.length k],.slice a2 p2.length o] w (Pvs E6 2 κ w r):=by
 unfold jG at h
 refine Jk3 κ F27 R N27 R λm=>Je [1,1,2] R<|Js3 (κ:=κ) 2 R λW w1 q c F=>Tv<|Js3 (κ:=q) 3 R λX ad t a G=>Tv<|Jb 1 R<|Je [1,1,2,1,2,2,2,2,2] R<|Jb4 tv R (Jc4 (haE (F.stp a).cells) I28 Z28 R)<|Jb4 tv R (Jc4 (haE G.cells) I33 Z33 R)<|Jn 1 R<|Ob h λp L h=>Jr3 R C73 (nO (κ:=Mk t) (p0:=p0) (p1:=p1) (Ji3<|H.stp<|c.tr a) (Ji3<|I.stp<|c.tr a) (Ji3<|J.stp<|c.tr a) L) ?_
 rintro _ ab ⟨Z,O,S,T,P,U,Q,V,rfl,y,A,B,C,D⟩
 obtain⟨e,f,d⟩:=Ji y 4 R
 refine Tv<|Jb 5 R<|Jq<|Je3 R ?_
 revert h
 cases Y:(!p.2)
 refine JF λh=>Jy R<|Js<|Jp<|Jg3 [2,1,2] 1 R<|Ob h λ_g348 K h=>?_
 have n:=rh K
 simp only[n,cond_true]
 refine Ob h λae M h=>Jr3 R C74 (lA (κ:=Mk e) (p0:=(p.1.getD (⟨([]:List (List Int)),([]:List (List Int)),([]:List Pair)⟩:watch))) (Ji3 (A.mx (df (cc _) _) d R (R:4+2=6)).rdc) (Ji3 (B.mx (df (cc _) _) d R (R:4+3=7)).rdc) (Ji3 (C.mx Pair.no127 d R (R:4+4=8)).rdc) (((λhs=>(D hs).mx d R (R:4+5=9)) n).map (mp [] 0) R R) M) ?_
 rintro _ ac ⟨aa,v,x,rfl,z,E⟩
 obtain⟨s,u,N⟩:=Ji z 10 R
 refine Tv<|Jb 1 R<|Ju<|Ja2 (l:=[.tmp 6]) V27 (Jp2 R R) R ?_
 cases h
 exact⟨(λb=>ren [(12,2)]<|s b),v,x,R,((m.stp<|T4 c a f u).map (ren [(12,2)]) R R),((E.mx (cc _) N R (R:10+2=12)).map (ren [(12,2)]) R R)⟩
 refine JT λh=>Jx R<|Je3 R<|Ju<|Jw<|Ja2 (l:=[.tmp 6]) V27 (Jp2 R R) R ?_
 cases h
 exact⟨e,none,0,R,(m.stp<|T3 c a f),Ow.nil⟩
theorem qH {p0:Sig}{e g f i}{p1:Machine}{a2 k}{p2:(List Clause)}(D:Rd (Rp.sl (Rp.int .i64)) κ w 0 e g p1.Next) (E:Rd (Rp.sl (Rp.int .i64)) κ w 0 f i p1.Out) (F:Rd Clause.rp κ w 0 a2 k p2){r:Bool}(h:jH p0 p1 p2=some r):Ret Tryz.prog 29 [.agg #[vi p0.In,vi p0.Out],.agg #[.slice e p1.Next.length g,.slice f p1.Out.length i],.slice a2 p2.length k] w (Pvb κ w r):=by
 unfold jH at h
 refine Jk3 κ F29 R N29 R λG=>Je [1,1,2] R<|Js3 (κ:=κ) 2 R λY w1 n b B=>Tv<|Js3 (κ:=n) 3 R λZ ah p a C=>Tv<|Jb 1 R<|Je [1,1,2,1,2,2,2,2,2] R<|Jb4 tv R (Jc4 (haE (B.stp a).cells) I28 Z28 R)<|Jb4 tv R (Jc4 (haE C.cells) I33 Z33 R)<|Jn 1 R<|Ob h λm J h=>Jr3 R C73 (nO (κ:=Mk p) (p0:=p0) (p1:=p1) (Ji3<|D.stp<|b.tr a) (Ji3<|E.stp<|b.tr a) (Ji3<|F.stp<|b.tr a) J) ?_
 rintro _ M ⟨ac,O,U,V,P,W,T,X,rfl,u,x,y,z,A⟩
 obtain⟨d,q,c⟩:=Ji u 4 R
 refine Tv<|Jb 5 R<|Jg3 [2,2,2,1,2,2,2,2] 2 R<|Ob h λL h H=>Jf4 [6] 22 L d M [(2,2),(3,1),(4,2),(5,2),(6,2)] [(7,2)] tv ?_ ?_
 revert h
 cases ab:m.2
 refine JF λh=>Jn 1 R<|Jz3 R<|Jn 3 R ?_
 cases h
 exact Jg4 tv R
 refine JT λh=>Jn 1 R<|Ob h λ_g432 I h=>?_
 have j:=rh I
 simp only[j,cond_true]
 refine Ob h λai K h=>Jr3 R C74 (lA (κ:=Mk d) (p0:=(m.1.getD (⟨([]:List (List Int)),([]:List (List Int)),([]:List Pair)⟩:watch))) (Ji3 (x.mx (df (cc _) _) c R (R:4+2=6)).rdc) (Ji3 (y.mx (df (cc _) _) c R (R:4+3=7)).rdc) (Ji3 (z.mx Pair.no127 c R (R:4+4=8)).rdc) (((λhs=>(A hs).mx c R (R:4+5=9)) j).map (mp [] 0) R R) K) ?_
 rintro _ af ⟨ad,Q,S,rfl,v,aa⟩
 obtain⟨N,s,ae⟩:=Ji v 10 R
 refine Tv<|Jn3 R U37 R R<|Jn 2 R ?_
 cases h
 exact Jv1 _ tv ⟨R,_,s.wk R⟩<|KM R
 rintro _ ag _ ⟨rfl,o,t⟩
 have h:=H
 refine Jb 1 R<|Ju<|Ja2 (l:=[.tmp 6]) V29 (Jp2 R R) R ?_
 cases h
 exact⟨o,R,(G.stp<|T4 b a q t)⟩
theorem nY {f i e c}{p0:Clause}{b g d j}{c0:Word}{k}(s:Rd (Rp.int .i64) κ w 0 f i p0.A) (t:Rd (Rp.int .i64) κ w 0 e c p0.B) (u:Rd (Rp.int .i64) κ w 0 b g c0.Stem) (v:Rd (Rp.int .i64) κ w 0 d j c0.Loop) (x:Bc κ w 0 k 39 [.slice b c0.Stem.length g,.slice d c0.Loop.length j]){r:Bool}(h:fJ p0 c0=some r):Ret Tryz.prog 213 [.agg #[vi p0.Kind,.slice f p0.A.length i,.slice e p0.B.length c],.pointer (some ⟨k,0,none⟩)] w (Pvb κ w r):=by
 unfold fJ at h
 refine Jk3 κ F213 R N213 R λy=>Je [1,2] R<|Js3 (κ:=κ) 2 R λA w1 n a q=>Tv<|Jb 1 R<|Je [1,1,1,2,2] R<|Jb4 tv R (Jc4 (haE q.cells) I67 Z67 R)<|Jb4 tv R (Jc4 (haE (x.stp a).cells) I39 Z39 R)<|Ob h λE z h=>Jr3 R C214 (rW (κ:=Mk n) (p0:=p0) (p1:=c0) (Ji3<|s.stp a) (Ji3<|t.stp a) (Ji3<|u.stp a) (Ji3<|v.stp a) z) ?_
 rintro _ D ⟨B,rfl,p⟩
 obtain⟨m,o,C⟩:=Ji p 3 R
 refine Tv<|Jb 2 R<|Ju<|Ja2 (l:=[.tmp 3]) V213 (Jp2 R R) R ?_
 cases h
 exact⟨m,R,(y.stp<|a.tr o)⟩
theorem dT {m y}{p0:(List Clause)}{n p q o}{c1_0:Word}{s}(f:Rd Clause.rp κ w 0 m y p0) (F:Rd (Rp.int .i64) κ w 0 n p c1_0.Stem) (G:Rd (Rp.int .i64) κ w 0 q o c1_0.Loop) (H:Bc κ w 0 s 39 [.slice n c1_0.Stem.length p,.slice q c1_0.Loop.length o]){r:Int}(h:co p0 c1_0=some r):Ret Tryz.prog 194 [.slice m p0.length y,.func (.func 213) #[] #[.pointer (some ⟨s,0,none⟩)]] w (Pvi κ w r):=by
 unfold co at h
 refine Jk3 κ F194 R N194 R λt=>Je3 R<|Jq<|Jg3 [2,2,2] 1 R<|Jn3 R U29 R R<|Jb 1 R ?_
 have I:(p0.length:Int)<=9223372036854775807:=f.len_le
 refine Ob h λx M u=>?_
 clear h
 refine Jo3 [1] (λE L w'=>∃κ',L=E/\Stp [] κ w κ' w'/\x=cb ()) ?_ ?_
 refine Jv<|Jp3 [0,1,7] (λk E L w'=>∃κ' b,L=(8,vi b)::E/\Stp [] κ w κ' w'/\0<=b/\Int.toNat ((p0.length:Int)-b)=k/\cntM (ci p0 c1_0) k b ()=some x) ⟨_,_,⟨κ,0,R,Jj3,(by decide),(by simp),M⟩,(KM R)⟩ ?_
 rintro k _ af ⟨i,b,rfl,c,J,X,h⟩
 rcases k with _ | k
 have e:=h;obtain⟨Q,h⟩:=cw (cb (Sum.inl ()):Int⊕((Unit)⊕(Unit)))
 have d:decide (b<(p0.length:Int))=false:=Jo2 (by omega)
 refine Je3 R<|Jq<|Jw2 R d<|Jc1<|Jt<|Jt ?_
 cases h
 have h:=e
 refine Jb1 ?_
 cases h
 exact Jw1 _ ⟨i,R,c.wk R,R⟩<|KM R
 obtain⟨Q,h,e⟩:=BI h;unfold ci at h
 have d:decide (b<(p0.length:Int))=true:=Jn2 (by omega)
 refine Je3 R<|Jq<|Jv2 R d<|Js<|Jp<|Jq<|Jv<|Je3 R<|Jg3 [2,2,2,2,1,1] 3 R<|Ob h λS v h=>Jc3 R f v U29 Z67 ?_
 obtain⟨W,N,K⟩:=((f.stp c)).gSt v
 obtain⟨U,ab,V,ac,rfl,C,D⟩:=Clause.un N
 refine Jb4 tv R (Jc4 (haE K) I67 Z67 R)<|Ob h λT P h=>WO.callV R R R R R R R R C213 (nY (κ:=Mk i) (p0:=S) (c0:=c1_0) (Ji3 C) (Ji3 D) (Ji3<|F.stp c) (Ji3<|G.stp c) ((H.stp c).map (mp [] 0) R R) P) ?_
 rintro _ ad ⟨Z,rfl,B⟩
 obtain⟨g,j,aa⟩:=Ji B 2 R
 refine Tv<|Jd ?_
 revert h
 cases Y:T
 refine JF λh=>Jy R<|Js<|Jz<|Jp<|Jf3 R ?_
 have O:bM .i64 (b+1)=b+1:=wr1 J (Jm2 d) I
 rw[O]
 have d:=Jm2 d
 cases h
 exact Jz1 λa ha=>⟨k,_,Ja3 _,⟨g,b+1,R,(c.tr j).wk R,by omega,by omega,e⟩,(ha.mm R)⟩
 refine JT λh=>Jx R<|Je3 R<|Ju<|Ja1<|Jw<|Jw ?_
 cases h
 obtain rfl:=Option.some.inj e
 have h:=yL u
 refine Ja1<|Jq2<|Jw<|Ja2 (l:=[.tmp 4]) V194 (Jp2 R R) R ?_
 cases h
 exact⟨g,R,(t.stp<|c.tr j)⟩
 rintro _ ae ⟨z,rfl,A,rfl⟩
 have h:=yI u
 refine Jp<|Je3 R<|Ju<|Ja2 (l:=[.tmp 4]) V194 (Jp2 R R) R ?_
 cases h
 exact⟨z,R,(t.stp A)⟩
theorem oU {p0:Sig}{a1 F}{p1:(List Clause)}{t v x u}{p2:Word}(z:Rd Clause.rp κ w 0 a1 F p1) (A:Rd (Rp.int .i64) κ w 0 t v p2.Stem) (B:Rd (Rp.int .i64) κ w 0 x u p2.Loop){r:Int}(h:ip p0 p1 p2=some r):Ret Tryz.prog 157 [.agg #[vi p0.In,vi p0.Out],.slice a1 p1.length F,.agg #[.slice t p2.Stem.length v,.slice x p2.Loop.length u]] w (Pvi κ w r):=by
 unfold ip at h
 refine Jk3 κ F157 R N157 R λC=>Je [1,1,2] R<|Js3 (κ:=κ) 2 R λad w1 G e P=>Tv<|Js3 (κ:=G) 3 R λae ay q d y=>Tv<|Jb 1 R<|Jq<|Jq<|Js1 (κ:=q) [2,3] none [(0,0),(1,1),(2,2),(3,2),(5,2),(4,0),(6,1),(7,2),(8,2),(9,2),(10,0),(11,0),(12,1),(13,1),(14,2),(15,2)] [] (by kernel_rfl) (by kernel_rfl) λau c=>?_
 have m:=P.stp (d.tr c)
 refine Jg R (Jc4 (haC m.cells R) I28 Z28 R)<|Ob h λaa X h=>Jr3 R C82 (mn (κ:=Mk q) (p0:=p0) X) ?_
 rintro _ Y ⟨ai,rfl,K⟩
 obtain⟨n,a,an⟩:=Ji K 4 R
 refine⟨(a.cl R),Jn 2 R<|Ob h λD h Q=>Jf4 [1,3,5] 15 D n Y [(5,2),(4,0),(6,1),(7,2),(8,2)] [(9,2),(10,0),(11,0),(12,1),(13,1),(14,2),(15,2)] (a.cl R) ?_ ?_⟩
 revert h
 cases af:(!aa)
 refine JF λh=>Jn 1 R<|Jg R (Jc4 (haC m.cells R) I28 Z28 R)<|Ob h λaB T h=>Jr3 R C63 (mJ (κ:=Mk n) (p0:=p0) (Ji3<|z.stp<|T4 e d c a) T) ?_
 rintro _ av ⟨aj,rfl,L⟩
 obtain⟨ab,j,ao⟩:=Ji L 6 R
 refine⟨((a.tr j).cl R),Jn 2 R ?_⟩
 cases h
 exact Jv1 _ ((a.tr j).cl R) ⟨R,_,j.wk R⟩<|KM R
 refine JT λh=>Jn 1 R<|Ja4 R<|Jz3 R<|Jn 2 R ?_
 cases h
 exact Jv1 _ (a.cl R) ⟨R,_,Jj3⟩<|KM R
 rintro _ Z _ ⟨rfl,o,b⟩
 have h:=Q
 refine Jn 1 R<|Ob h λE h S=>Jf4 [1,5] 22 E o Z [(10,0),(11,0),(12,1),(13,1),(14,2),(15,2)] [] ((a.tr b).cl R) ?_ ?_
 revert h
 cases ag:D
 refine JF λh=>Jg R (Jc4 (haC (y.stp c).cells R) I39 Z39 R)<|Jg R (Jc4 (haC m.cells R) I28 Z28 R)<|Ob h λaC U h=>Jr3 R C103 (gq (κ:=Mk o) (p0:=p0) U) ?_
 rintro _ aw ⟨ak,rfl,M⟩
 obtain⟨H,f,ap⟩:=Ji M 6 R
 have s:=(T6 e d c a b f)
 refine⟨((T3 a b f).cl R),Ob h λaD V h=>Jr3 R C100 (pj (κ:=Mk H) (p0:=p2) (Ji3<|A.stp s) (Ji3<|B.stp s) V) ?_⟩
 rintro _ ax ⟨al,rfl,N⟩
 obtain⟨ac,k,aq⟩:=Ji N 8 R
 refine⟨((T4 a b f k).cl R),Jn 2 R ?_⟩
 cases h
 exact Jv1 _ ((T4 a b f k).cl R) ⟨R,_,(f.tr k).wk R⟩<|KM R
 refine JT λh=>Ja4 R<|Ja4 R<|Jz3 R<|Jz3 R<|Jn 2 R ?_
 cases h
 exact Jv1 _ ((a.tr b).cl R) ⟨R,_,Jj3⟩<|KM R
 rintro _ az _ ⟨rfl,p,g⟩
 have h:=S
 refine Jt1<|Jd ?_
 revert h
 cases ah:E
 have i:=(T6 e d c a b g)
 refine JF λh=>Jy R<|Js<|Jp<|Jg3 [2,2,1,2] 1 R<|Jf R (d8 (first:=[]) (captured:=[.tmp 5]) R R R ⟨_,R⟩)<|Ob h λaE W h=>Jr3 R C194 (dT (κ:=Mk p) (c1_0:=p2) (Ji3<|z.stp i) (Ji3<|A.stp i) (Ji3<|B.stp i) ((y.stp<|T4 c a b g).map (mp [] 0) R R) W) ?_
 rintro _ aA ⟨am,rfl,O⟩
 obtain⟨I,J,ar⟩:=Ji O 6 R
 refine Tv<|Jb 1 R<|Ju<|Ja2 (l:=[.tmp 6]) V157 (Jp2 R R) R ?_
 cases h
 exact⟨I,R,(C.stp<|T7 e d c a b g J)⟩
 refine JT λh=>Jx R<|Je3 R<|Ju<|Jw<|Ja2 (l:=[.tmp 6]) V157 (Jp2 R R) R ?_
 cases h
 exact⟨p,R,(C.stp<|T6 e d c a b g)⟩
theorem rT {p0:Sig}{a1 g}{p1:(List Clause)}{c e f d}{p2:Word}(q:Rd Clause.rp κ w 0 a1 g p1) (s:Rd (Rp.int .i64) κ w 0 c e p2.Stem) (t:Rd (Rp.int .i64) κ w 0 f d p2.Loop){r:Bool}(h:nt p0 p1 p2=some r):Ret Tryz.prog 79 [.agg #[vi p0.In,vi p0.Out],.slice a1 p1.length g,.agg #[.slice c p2.Stem.length e,.slice f p2.Loop.length d]] w (Pvb κ w r):=by
 unfold nt at h
 refine Jk3 κ F79 R N79 R λu=>Je [1,1,2] R<|Js3 (κ:=κ) 2 R λx w1 j b o=>Tv<|Js3 (κ:=j) 3 R λy C k a p=>Tv<|Jb 1 R<|Je [1,2,1,1,2,2] R<|Jb4 tv R (Jc4 (haE (o.stp a).cells) I28 Z28 R)<|Jn 1 R<|Jb4 tv R (Jc4 (haE p.cells) I39 Z39 R)<|Ob h λD v h=>Jr3 R C157 (oU (κ:=Mk k) (p0:=p0) (p2:=p2) (Ji3<|q.stp<|b.tr a) (Ji3<|s.stp<|b.tr a) (Ji3<|t.stp<|b.tr a) v) ?_
 rintro _ B ⟨z,rfl,n⟩
 obtain⟨i,m,A⟩:=Ji n 4 R
 refine Tv<|Jb 2 R<|Ju<|Ja2 (l:=[.tmp 6]) V79 (Jp2 R R) R ?_
 cases h
 exact⟨i,R,(u.stp<|T3 b a m)⟩
theorem rU {p0:Sig}{k o m s}{p1:Machine}{a2 x}{p2:(List Clause)}{n q p j}{p3:Word}(O:Rd (Rp.sl (Rp.int .i64)) κ w 0 k o p1.Next) (P:Rd (Rp.sl (Rp.int .i64)) κ w 0 m s p1.Out) (Q:Rd Clause.rp κ w 0 a2 x p2) (S:Rd (Rp.int .i64) κ w 0 n q p3.Stem) (T:Rd (Rp.int .i64) κ w 0 p j p3.Loop){r:Bool}(h:kv p0 p1 p2 p3=some r):Ret Tryz.prog 30 [.agg #[vi p0.In,vi p0.Out],.agg #[.slice k p1.Next.length o,.slice m p1.Out.length s],.slice a2 p2.length x,.agg #[.slice n p3.Stem.length q,.slice p p3.Loop.length j]] w (Pvb κ w r):=by
 unfold kv at h
 refine Jk3 κ F30 R N30 R λU=>Je [1,1,1,2] R<|Js3 (κ:=κ) 2 R λaf w1 A i M=>Tv<|Js3 (κ:=A) 3 R λag aq D e N=>Tv<|Js3 (κ:=D) 4 R λah au z a I=>Tv<|Jb 1 R<|Je [1,1,1,1,1,1] R ?_
 have t:=M.stp (e.tr a)
 have d:=(T3 i e a)
 refine Jb4 tv R (Jc4 (haE t.cells) I28 Z28 R)<|Jb4 tv R (Jc4 (haE (N.stp a).cells) I33 Z33 R)<|Jb4 tv R (Jc4 (haE I.cells) I39 Z39 R)<|Ob h λy W h=>Jr3 R C78 (rV (κ:=Mk z) (p0:=p0) (p1:=p1) (p2:=p3) (Ji3<|O.stp d) (Ji3<|P.stp d) (Ji3<|S.stp d) (Ji3<|T.stp d) W) ?_
 rintro _ an ⟨ak,ab,ad,ae,ac,rfl,G,J,K⟩
 obtain⟨B,g,v⟩:=Ji G 5 R
 refine Tv<|Jt3 (κ:=B) 9 R X39 R λai ao f b L=>Tv<|Jh4 (κ:=f) 9 R Z39 R L R λZ c u=>Tv<|Jd<|Je [2,1,2,2,2,1,2,1,1,2,2] R<|Jd3 R U39 R Z37<|Jb3 R I37 (u.ld 1 R R)<|Jn3 R U37 R R<|Jn 2 R<|Ob h λY h V=>Jf4 [8] 23 Y f Z [(5,1),(6,2),(7,1),(8,1),(9,2)] [(10,2)] tv ?_ ?_
 revert h
 cases aj:decide (0<(y.Loop.length:Int))
 refine JF λh=>Jz3 R<|Jn 1 R<|Jz3 R<|Jz3 R<|Jn 1 R ?_
 cases h
 exact Jg4 tv R
 refine JT λh=>Jb4 tv R (Jc4 (haE (t.stp<|T3 g b c).cells) I28 Z28 R)<|Jn 1 R<|Jb4 tv R (Jc4 (haE u.cells) I39 Z39 R)<|Ob h λav X h=>Jr3 R C79 (rT (κ:=Mk f) (p0:=p0) (p2:=y) (Ji3<|Q.stp<|T6 i e a g b c) (Ji3 ((J.mx (cc _) v R (R:5+2=7)).stp (b.tr c)).rdc) (Ji3 ((K.mx (cc _) v R (R:5+3=8)).stp (b.tr c)).rdc) X) ?_
 rintro _ ap ⟨al,rfl,H⟩
 obtain⟨aa,E,am⟩:=Ji H 10 R
 refine Tv<|Jn 1 R ?_
 cases h
 exact Jv1 _ tv ⟨R,_,E.wk R⟩<|KM R
 rintro _ ar _ ⟨rfl,C,F⟩
 have h:=V
 refine Jb 1 R<|Ju<|Ja2 (l:=[.tmp 8]) V30 (Jp2 R R) R ?_
 cases h
 exact⟨C,R,(U.stp<|T7 i e a g b c F)⟩
theorem qK {an a2}{p0:(List Int)}(aW:Rd (Rp.int .u8) κ w 0 an a2 p0){r:Bool}(h:mo p0=some r):Ret Tryz.prog 5 [.slice an p0.length a2] w (Pvb κ w r):=by
 unfold mo at h
 refine Jk3 κ F5 R N5 R λaa=>Je3 R<|Jq<|Jg3 [2,1] 1 R<|Ob h λcN cm h=>Jr3 R C8 (wK (κ:=Mk κ) (Ji3 aW) cm) ?_
 rintro _ w1 ⟨dr,rfl,bH⟩
 obtain⟨ai,F,dE⟩:=Ji bH 2 R
 refine Tv<|Jd ?_
 revert h
 cases dh:cN
 refine JF λh=>Jy R<|Js<|Jp<|Jg3 [2,1,2] 1 R<|Ob h λu cn h=>Jr3 R C9 (vS (κ:=λb=>mp [] 1<|ai b) (Jl2 (aW.stp F) (mp [] 1) R R) cn) ?_
 rintro _ dG ⟨dj,c0,cX,c7,rfl,bw,bU,bW⟩
 obtain⟨bb,am,cF,cT⟩:=Jj bw 4 R
 refine Tv<|Jb 1 R<|Je [2,1,1] R<|Jf R (Ji4 [vi 1,vi 1] R)<|Jt3 (κ:=bb) 8 R X28 R λc8 dS ah C b3=>Tv<|Jh4 (κ:=ah) 8 R Z28 R b3 R λdV D Y=>Tv<|Jd<|Jg3 [2,1,1,1,1] 1 R<|Jb4 tv R (Jc4 (haE Y.cells) I28 Z28 R)<|Ob h λa3 co h=>?_
 have aQ:=(bU.mx cT).stp (C.tr D)
 refine Jr3 R C24 (p9 (κ:=λb=>mp [(7,2)] 0<|ah b) (p1:=(⟨1,1⟩:Sig)) (p0:=u) (Jl2 aQ (mp [(7,2)] 0) R R) (((bW.mx cF R (R:4+3=7)).stp (C.tr D)).map (mp [(7,2)] 0) R R) co) ?_
 rintro _ dX ⟨dw,ao,au,aq,ap,rfl,bI,b4,b5,b6⟩
 obtain⟨bg,A,ab⟩:=Ji bI 9 R
 refine Tv<|?_
 have aR:=b4.mx (df (cc _) _) ab R (R:9+3=12)
 have aS:=b5.mx (df (cc _) _) ab R (R:9+4=13)
 refine Jt3 (κ:=bg) 14 R X33 R λav dY aj s b7=>Tv<|Jh4 (κ:=aj) 14 R Z33 R b7 R λdZ t Z=>Tv<|Jd<|Jg3 [2,1,2] 1 R<|Ob h λa4 cp h=>?_
 have aT:=aQ.stp (T3 A s t)
 refine Jr3 R C18 (p6 (κ:=λb=>mp [(11,2)] 0<|aj b) (p0:=(⟨u.b,a3.2.1,a3.2.2⟩:dice)) (Jl2 aT (mp [(11,2)] 0) R R) (((b6.mx ab R (R:9+2=11)).stp (s.tr t)).map (mp [(11,2)] 0) R R) cp) ?_
 rintro _ d0 ⟨dx,c1,c6,rfl,bJ,b8,b9⟩
 obtain⟨bh,i,aZ⟩:=Ji bJ 15 R
 refine Tv<|?_
 have aU:=b8.mx Clause.no67 aZ R (R:15+3=18)
 refine Jb 1 R<|Jq<|Jg3 [2,1,2] 1 R<|Ob h λac cq h=>?_
 have aV:=aT.stp i
 refine Jr3 R C25 (cW (κ:=λb=>mp [(17,2)] 0<|bh b) (p0:=(⟨u.b,a4.2.1,a4.2.2⟩:dice)) (Jl2 aV (mp [(17,2)] 0) R R) ((b9.mx aZ R (R:15+2=17)).map (mp [(17,2)] 0) R R) cq) ?_
 rintro _ cL ⟨dy,rfl,bK,ca⟩
 obtain⟨O,a,cH⟩:=Ji bK 19 R
 refine Tv<|Jb 1 R<|Ob h λc h cl=>Jo3 [3,4,5,6] (λE L w'=>∃κ' T U W V,L=E/\Stp [14,24,25,26] O cL κ' w'/\Oc (Ep.own E6 2) 37 κ' w' 12 T U c.1/\Oc (Ep.own E6 2) 37 κ' w' 13 W V c.2/\Bc κ' w' 14 av 33 [.slice T c.1.length U,.slice W c.2.length V]) ?_ ?_
 revert h
 cases di:(ac.1==0)
 refine JF λh=>Jy R<|Js ?_
 cases h
 have ak:=(T4 s t i a)
 exact Jw1 _ ⟨O,ao,au,aq,ap,R,Jj3,(aR.stp ak),(aS.stp ak),(Z.stp<|i.tr a)⟩<|KM R
 refine JT λh=>Jx R<|Je [1,2,1,2,2,2,1,1,2] R<|Jb4 tv R (Jc4 (haE (Y.stp<|T5 A s t i a).cells) I28 Z28 R)<|Jn 1 R<|Ob h λcO cr h=>Jr3 R C20 (qq (κ:=Mk O) (p0:=(⟨1,1⟩:Sig)) (Ji3 (aU.stp a).rdc) cr) ?_
 rintro _ d2 ⟨dz,bp,br,bs,bq,rfl,bL,cf,cg⟩
 obtain⟨bj,G,a0⟩:=Ji bL 22 R
 refine Tv<|Jn 3 R<|Jt3 (κ:=bj) 26 R X33 R λc9 d3 z y ch=>Tv<|Jh4 (κ:=z) 26 R Z33 R ch R λcM v bM=>Tv<|Jb 1 R<|Je3 R<|Ob h λM h ci=>Jo3 [3,4,5,6] (λE L w'=>∃κ' J H I K,L=E/\Stp [14,24,25] z cM κ' w'/\Oc (Ep.own E6 2) 37 κ' w' 12 J H M.1/\Oc (Ep.own E6 2) 37 κ' w' 13 I K M.2/\Bc κ' w' 14 av 33 [.slice J M.1.length H,.slice I M.2.length K]) ?_ ?_
 revert h
 cases dc:cO.2
 refine JF λh=>Jy R<|Js ?_
 cases h
 have al:=(T7 s t i a G y v)
 exact Jw1 _ ⟨z,ao,au,aq,ap,R,Jj3,(aR.stp al),(aS.stp al),(Z.stp<|T5 i a G y v)⟩<|KM R
 refine JT λh=>Jx R<|Ja [1,1] R<|Jb4 tv R (Jc4 (haE bM.cells) I33 Z33 R)<|Jh4 (κ:=z) 14 R Z33 R (Z.stp<|T5 i a G y v) R λdH Q bQ=>Tv<|Jo ?_
 cases h
 exact Jw1 _ ⟨(λb=>ren [(24,12),(25,13)]<|z b),bp,br,bs,bq,R,(Jy2 (Q.wk R) [(24,12),(25,13)] R),(((cf.mx (df (cc _) _) a0 R (R:22+2=24)).stp (T3 y v Q)).map (ren [(24,12),(25,13)]) R R),(((cg.mx (df (cc _) _) a0 R (R:22+3=25)).stp (T3 y v Q)).map (ren [(24,12),(25,13)]) R R),(bQ.map (ren [(24,12),(25,13)]) R R)⟩<|KM R
 rintro _ dF ⟨a7,J,H,I,K,rfl,bk,bN,bO,bP⟩
 have h:=ci
 cases h
 exact Jw1 _ ⟨a7,J,H,I,K,R,(T4 G y v bk).wk R,bN,bO,bP⟩<|KM R
 rintro _ d1 ⟨bi,T,U,W,V,rfl,x,cb,cd,ce⟩
 have h:=cl
 refine Jp<|Jg3 [2,2,1,1,2,2,1,2,1,2,1,1] 2 R<|Ob h λa5 cs h=>?_
 have aw:=aV.stp (a.tr x)
 refine Jr3 R C25 (cW (κ:=λb=>mp [(21,2)] 0<|bi b) (p0:=(⟨u.b,ac.2.1,ac.2.2⟩:dice)) (Jl2 aw (mp [(21,2)] 0) R R) (((ca.mx cH R (R:19+2=21)).stp x).map (mp [(21,2)] 0) R R) cs) ?_
 rintro _ dI ⟨dk,rfl,bv,bR⟩
 obtain⟨a8,o,cC⟩:=Ji bv 22 R
 refine Tv<|Ob h λB ct h=>?_
 have ax:=aw.stp o
 refine Jr3 R C26 (p7 (κ:=λb=>mp [(24,2)] 0<|a8 b) (p0:=(⟨u.b,a5.2.1,a5.2.2⟩:dice)) (Jl2 ax (mp [(24,2)] 0) R R) ((bR.mx cC R (R:22+2=24)).map (mp [(24,2)] 0) R R) ct) ?_
 rintro _ dJ ⟨dl,bt,bo,rfl,bx,bS,bT⟩
 obtain⟨a9,p,aX⟩:=Ji bx 25 R
 refine Tv<|Jn 2 R<|Ob h λa6 cu h=>?_
 have ay:=ax.stp p
 refine Jr3 R C25 (cW (κ:=λb=>mp [(27,2)] 0<|a9 b) (p0:=(⟨u.b,B.2.1,B.2.2⟩:dice)) (Jl2 ay (mp [(27,2)] 0) R R) ((bT.mx aX R (R:25+2=27)).map (mp [(27,2)] 0) R R) cu) ?_
 rintro _ dK ⟨dm,rfl,bz,bV⟩
 obtain⟨ba,j,cD⟩:=Ji bz 29 R
 refine Tv<|Jn 1 R<|Ob h λad cv h=>Jr3 R C26 (p7 (κ:=λb=>mp [(31,2)] 0<|ba b) (p0:=(⟨u.b,a6.2.1,a6.2.2⟩:dice)) (Jl2 (ay.stp j) (mp [(31,2)] 0) R R) ((bV.mx cD R (R:29+2=31)).map (mp [(31,2)] 0) R R) cv) ?_
 rintro _ dL ⟨dn,ar,bu,rfl,bA,bX,db⟩
 obtain⟨bc,q,cE⟩:=Ji bA 32 R
 refine Tv<|Jf R (Ji4 [.slice bt B.1.length bo,.slice ar ad.1.length bu] R)<|Jt3 (κ:=bc) 36 R X39 R λda dM ae k bY=>Tv<|Jh4 (κ:=ae) 36 R Z39 R bY R λdN m bZ=>Tv<|Jd<|Je [1,1,2,1,2] R ?_
 have az:=Y.stp (T12 A s t i a x o p j q k m)
 refine Jb4 tv R (Jc4 (haE az.cells) I28 Z28 R) ?_
 have aA:=ce.stp (T6 o p j q k m)
 refine Jb4 tv R (Jc4 (haE aA.cells) I33 Z33 R)<|Jn 1 R<|Ob h λcP cw h=>?_
 have aB:=cb.stp (T6 o p j q k m)
 have aC:=cd.stp (T6 o p j q k m)
 have aD:=aU.stp (T8 a x o p j q k m)
 refine Jr3 R C27 (qG (κ:=Mk ae) (p0:=(⟨1,1⟩:Sig)) (p1:=(⟨c.1,c.2⟩:Machine)) (Ji3 aB.rdc) (Ji3 aC.rdc) (Ji3 aD.rdc) cw) ?_
 rintro _ dO ⟨dp,cY,c3,rfl,bB,b0⟩
 obtain⟨af,f,cG⟩:=Ji bB 37 R
 refine Tv<|Jb 1 R<|Jq<|Js1 (κ:=af) [8,14,36] none [(1,2),(0,0),(2,0),(3,0),(4,0),(5,1),(6,1),(7,2)] [] (by kernel_rfl) (by kernel_rfl) λdP d=>Jn 1 R ?_
 have X:=az.stp (f.tr d)
 refine Jg R (Jc4 (haC X.cells R) I28 Z28 R)<|Jg R (Jc4 (haC X.cells R) I28 Z28 R) ?_
 have aE:=aA.stp (f.tr d)
 refine Jg R (Jc4 (haC aE.cells R) I33 Z33 R) ?_
 have aF:=bZ.stp (f.tr d)
 refine Jg R (Jc4 (haC aF.cells R) I39 Z39 R)<|Ob h λcQ cx h=>?_
 have aG:=aB.stp (f.tr d)
 have aH:=aC.stp (f.tr d)
 have aI:=(bS.mx (cc _) aX R (R:25+3=28)).stp (T6 j q k m f d)
 have aJ:=(bX.mx (cc _) cE R (R:32+3=35)).stp (T4 k m f d)
 refine Jr3 R C14 (su (κ:=Mk af) (p0:=(⟨1,1⟩:Sig)) (p1:=(⟨c.1,c.2⟩:Machine)) (p2:=(⟨B.1,ad.1⟩:Word)) (Ji3 aG.rdc) (Ji3 aH.rdc) (Ji3 aI.rdc) (Ji3 aJ.rdc) cx) ?_
 rintro _ dQ ⟨dq,c4,c2,cZ,c5,rfl,bC,b1,b2⟩
 obtain⟨bd,e,aY⟩:=Ji bC 40 R
 refine⟨(e.cl R),Ob h λcR cy h=>?_⟩
 have aK:=aD.stp (T3 f d e)
 refine Jr3 R C28 (pa (κ:=Mk bd) (p0:=(⟨1,1⟩:Sig)) (p2:=cQ) (Ji3 aK.rdc) (Ji3 (b1.mx (cc _) aY R (R:40+2=42)).rdc) (Ji3 (b2.mx (cc _) aY R (R:40+3=43)).rdc) cy) ?_
 rintro _ dR ⟨ds,rfl,bD⟩
 obtain⟨be,g,dA⟩:=Ji bD 44 R
 refine⟨((e.tr g).cl R),Jn 1 R<|Jt1<|Jd<|Jq<|Je [1,1,2,1,2,2,2,2,2,1,1,2,1,1,2,2,2,2] R ?_⟩
 have aL:=X.stp (e.tr g)
 refine Jb4 tv R (Jc4 (haE aL.cells) I28 Z28 R) ?_
 have aM:=aE.stp (e.tr g)
 refine Jb4 tv R (Jc4 (haE aM.cells) I33 Z33 R)<|Jn 1 R<|Ob h λcS cz h=>?_
 have aN:=aG.stp (e.tr g)
 have aO:=aH.stp (e.tr g)
 have aP:=aK.stp g
 refine Jr3 R C29 (qH (κ:=Mk be) (p0:=(⟨1,1⟩:Sig)) (p1:=(⟨c.1,c.2⟩:Machine)) (Ji3 aN.rdc) (Ji3 aO.rdc) (Ji3 aP.rdc) cz) ?_
 rintro _ cJ ⟨dt,rfl,bE⟩
 obtain⟨ag,n,dB⟩:=Ji bE 46 R
 refine Tv<|Jn 1 R<|Jn3 R U37 R R<|Jn 1 R<|Jf R (pG R R U4 R)<|Jn 1 R<|Ob h λa1 h cj=>Jf4 [10,11] 71 a1 ag cJ [(9,1),(10,1),(11,2),(12,1),(13,1),(14,2),(15,2),(16,2),(17,2)] [] tv ?_ ?_
 revert h
 cases dd:(cS !=((cP.length:Int)==0))
 have P:=(T3 e g n)
 refine JF λh=>Jb4 tv R (Jc4 (haE (aL.stp n).cells) I28 Z28 R)<|Jb4 tv R (Jc4 (haE (aM.stp n).cells) I33 Z33 R)<|Jn 1 R<|Jb4 tv R (Jc4 (haE (aF.stp P).cells) I39 Z39 R)<|Ob h λd4 cA h=>Jr3 R C30 (rU (κ:=Mk ag) (p0:=(⟨1,1⟩:Sig)) (p1:=(⟨c.1,c.2⟩:Machine)) (p3:=(⟨B.1,ad.1⟩:Word)) (Ji3 (aN.stp n).rdc) (Ji3 (aO.stp n).rdc) (Ji3 (aP.stp n).rdc) (Ji3 (aI.stp P).rdc) (Ji3 (aJ.stp P).rdc) cA) ?_
 rintro _ dT ⟨du,rfl,bF⟩
 obtain⟨cU,bl,dC⟩:=Ji bF 48 R
 refine Tv<|Jn 2 R<|Jf R (pG R R U4 R)<|Jn 1 R ?_
 cases h
 exact Jv1 _ tv ⟨R,_,bl.wk R⟩<|KM R
 refine JT λh=>Jz3 R<|Jz3 R<|Jn 1 R<|Jz3 R<|Jz3 R<|Jn 4 R ?_
 cases h
 exact Jg4 tv R
 rintro _ cK _ ⟨rfl,N,S⟩
 have h:=cj
 refine Jd ?_
 revert h
 cases de:a1
 refine JF λh=>Jy R<|Js<|Jp<|Jg3 [2,2,2,2,2,1,2,2] 3 R<|Ob h λcI h ck=>Ju1 [(3,2),(4,2),(5,1),(6,2)] [(7,2)] (λL w'=>L=[(78,.bool cI)]/\∃κ',Stp [] N cK κ' w') tv ?_ ?_
 revert h
 cases dg:(cR==(-1))
 refine JF λh=>Jn 2 R<|Ob h λd5 cB h=>Jr3 R C31 (uH (κ:=Mk N) (Ji3 ((b0.mx (cc _) cG R (R:37+2=39)).stp (T5 d e g n S)).rdc) cB) ?_
 rintro _ dU ⟨dv,rfl,bG⟩
 obtain⟨cV,bm,dD⟩:=Ji bG 48 R
 refine Tv<|Jn 1 R ?_
 cases h
 exact Jv1 _ tv ⟨R,_,bm.wk R⟩<|KM R
 refine JT λh=>Jn 2 R<|Jz3 R<|Jn 1 R ?_
 cases h
 exact Jg4 tv R
 rintro _ dW _ ⟨rfl,bf,bn⟩
 have h:=ck
 refine Jb 1 R<|Ju<|Ja2 (l:=[.tmp 2]) V5 (Jp2 R R) R ?_
 cases h
 exact⟨bf,R,(aa.stp<|F.tr<|am.tr<|C.tr<|D.tr<|A.tr<|s.tr<|t.tr<|i.tr<|a.tr<|x.tr<|o.tr<|p.tr<|j.tr<|q.tr<|k.tr<|m.tr<|f.tr<|d.tr<|e.tr<|g.tr<|n.tr<|S.tr bn)⟩
 refine JT λh=>Jx R<|Je3 R<|Ju<|Jw<|Ja2 (l:=[.tmp 2]) V5 (Jp2 R R) R ?_
 cases h
 exact⟨N,R,(aa.stp<|F.tr<|am.tr<|C.tr<|D.tr<|A.tr<|s.tr<|t.tr<|i.tr<|a.tr<|x.tr<|o.tr<|p.tr<|j.tr<|q.tr<|k.tr<|m.tr<|f.tr<|d.tr<|e.tr<|g.tr<|n.tr S)⟩
 refine JT λh=>Jx R<|Je3 R<|Ju<|Jw<|Ja2 (l:=[.tmp 2]) V5 (Jp2 R R) R ?_
 cases h
 exact⟨ai,R,(aa.stp F)⟩
end Go.Proofs.YtleekpaohfpooaaGreat
