/- The walks, part 9. By program. -/
import Derived.Test.YtleekpaohfpooaaGreatFns8FW
set_option linter.unusedVariables false
set_option linter.unusedSimpArgs false
open Go.IntKind renaming wrap → cb
open Sum renaming inr → eg, inl → gs
open Int renaming toNat → n6
namespace Go.Proofs.YtleekpaohfpooaaGreat
open Go Go.Wk Go.Proofs
set_option maxRecDepth 100000
set_option maxHeartbeats 1000000
variable {w:World}{κ:Col}
theorem po {p0:Sig}{a1 bb}{p1:(List Clause)}(aj:Rd Clause.rp κ w 0 a1 bb p1){r:Det×Bool}(h:gV p0 p1=some r):Ret Tryz.prog 41 [.agg #[vi p0.In,vi p0.Out],.slice a1 p1.length bb] w (λv w'=>∃(κ':Col) (a6:Option Addr) (a9:Nat) (a7:Option Addr) (ba:Nat),v= .tuple #[.agg #[.slice a6 r.1.Next.length a9,.slice a7 r.1.Pairs.length ba],.bool r.2]/\Ent κ w κ' w'/\Oc (Ep.own E6 2) 37 κ' w' 2 a6 a9 r.1.Next/\Oc Pair.ep127 127 κ' w' 3 a7 ba r.1.Pairs):=by
 unfold gV at h
 refine Jk3 κ F41 R N41 R λhE=>Je [1,1,2] R<|Js3 (κ:=κ) 2 R λcz w1 bi I b1=>Tv<|Jt3 (κ:=bi) 3 R X71 R λcA df bm A aw=>Tv<|Jb 1 R<|Jq<|Je [1,1,2,2,1,2,1,2,2] R ?_
 have ax:=b1.stp A
 refine Jb4 tv R (Jc4 (haE ax.cells) I28 Z28 R)<|Ob h λcv co h=>Jr3 R C82 (pv (κ:=Mk bm) (p0:=p0) co) ?_
 rintro _ ct ⟨cJ,rfl,bz⟩
 obtain⟨aC,g,cQ⟩:=Ji bz 4 R
 refine Tv<|Jn 2 R<|Ob h λa4 h cg=>Jf4 [1,2,4] 19 a4 aC ct [(4,1),(5,2),(6,1),(7,2),(8,2)] [] tv ?_ ?_
 revert h
 cases cF:(!cv)
 refine JF λh=>Jb4 tv R (Jc4 (haE (ax.stp g).cells) I28 Z28 R)<|Jn 1 R<|Ob h λdm cp h=>Jr3 R C63 (l7 (κ:=Mk aC) (p0:=p0) (Ji3<|aj.stp<|T3 I A g) cp) ?_
 rintro _ c9 ⟨cO,rfl,bD⟩
 obtain⟨cw,bo,cR⟩:=Ji bD 6 R
 refine Tv<|Jn 2 R ?_
 cases h
 exact Jv1 _ tv ⟨R,_,bo.wk R⟩<|KM R
 refine JT λh=>Jz3 R<|Jn 1 R<|Jz3 R<|Jn 2 R ?_
 cases h
 exact Jg4 tv R
 rintro _ da _ ⟨rfl,am,n⟩
 have h:=cg
 refine Jd ?_
 revert h
 cases cH:a4
 refine JF λh=>Jy R<|Js<|Jp<|Je [1,1,1,1,2,1,1] R ?_
 have aS:=ax.stp (g.tr n)
 refine Jb4 tv R (Jc4 (haE aS.cells) I28 Z28 R)<|Ob h λdn cq h=>Jr3 R C103 (ip (κ:=Mk am) (p0:=p0) cq) ?_
 rintro _ dc ⟨cP,rfl,bE⟩
 obtain⟨bj,u,cS⟩:=Ji bE 6 R
 refine Tv<|Ob h λal cr h=>Jl1 (κ:=bj) (E:=E6) (z:=(0:Int)) 8 R R R R R R R Y37 a8 R R R R R (λ_ _ _=>R) (Ju2 cr) λbs br dd bk x b2=>Tv<|Jw3 (κ:=bk) (E:=(Ep.own E6 2)) 9 [8] (parts:=[(0,.tmp 23)]) (cells:=[.slice bs al.length br]) (xs:=([al]:List (List Int))) R Y31 bT R (Je4 ⟨_,_,R,b2⟩) λar aO de bl y b3=>Tv<|Jf R (Ji4 [.slice ar ([al]:List (List Int)).length aO,.slice none 0 0] R)<|Jt3 (κ:=bl) 10 R X71 R λaP dg O s b4=>Tv<|Jh4 (κ:=O) 10 R Z71 R b4 R λbc t b5=>Tv<|Jd<|Jq<|Jg3 [2,2,2] 1 R<|Jn3 R U29 R R<|Jb 1 R ?_
 have ch:(p1.length:Int)<=9223372036854775807:=aj.len_le
 refine Ob h λa5 ck aV=>?_
 clear h
 refine Jo3 [4,6] (λE L w'=>∃κ',∃D:(List<|List Int)×(List Pair),∃X ac V aa,L=E/\Stp [10,12,13,14,17,19,20,21] O bc κ' w'/\Oc (Ep.own E6 2) 37 κ' w' 9 X ac D.1/\Oc Pair.ep127 127 κ' w' 11 V aa D.2/\Bc κ' w' 10 aP 71 [.slice X D.1.length ac,.slice V D.2.length aa]/\a5=eg D) ?_ ?_
 refine Jv<|Jp3 [2,4,6,26,27] (λk E L w'=>∃κ' i,∃c:(List<|List Int)×(List Pair),∃ab Z ae ag,L=(28,vi i)::E/\Stp [10,12,13,14,17,19,20,21] O bc κ' w'/\Oc (Ep.own E6 2) 37 κ' w' 9 ab Z c.1/\Oc Pair.ep127 127 κ' w' 11 ae ag c.2/\Bc κ' w' 10 aP 71 [.slice ab c.1.length Z,.slice ae c.2.length ag]/\0<=i/\n6 ((p1.length:Int)-i)=k/\cntM (d9 p0 p1) k i c=some a5) ⟨_,_,⟨O,0,((([al]:List (List Int)):(List<|List Int)),(([]:List Pair):(List Pair))),ar,aO,none,0,R,Jj3,(b3.stp<|s.tr t),Ow.nil,b5,(by decide),(by simp),ck⟩,(KM R)⟩ ?_
 rintro k _ di ⟨aG,i,c,ab,Z,ae,ag,rfl,B,ah,ai,av,ci,cE,h⟩
 rcases k with _ | k
 have ak:=h;obtain⟨cs,h⟩:=cn (eg (gs c):(Det×Bool)⊕(((List (List Int))×(List Pair))⊕((List (List Int))×(List Pair))))
 have C:decide (i<(p1.length:Int))=false:=Jo2 (by omega)
 refine Je3 R<|Jq<|Jw2 R C<|Jc1<|Jt<|Jt ?_
 cases h
 have h:=ak
 refine Jb1 ?_
 cases h
 exact Jw1 _ ⟨aG,(c.1,c.2),ab,Z,ae,ag,R,B.wk R,ah,ai,av,R⟩<|KM R
 obtain⟨cs,h,ak⟩:=BI h;unfold d9 at h
 have C:decide (i<(p1.length:Int))=true:=Jn2 (by omega)
 refine Je3 R<|Jq<|Jv2 R C<|Js<|Jp<|Jq<|Jv<|Je [2,1,1,1] R<|Ob h λbd aW h=>Jc3 R aj aW U29 Z67 ?_
 obtain⟨cC,cl,cj⟩:=((aj.stp (T10 I A g n u x y s t B))).gSt aW
 obtain⟨cx,cT,cy,cU,rfl,aT,aU⟩:=Clause.un cl
 refine Jb4 tv R (Jc4 (haE cj) I67 Z67 R)<|Jt3 (κ:=aG) 12 R X67 R λcB dj F d b9=>Tv<|Jh4 (κ:=F) 12 R Z67 R b9 R λcu e cc=>Tv<|Jd<|Jq<|Ob h λaz aX h=>Ob h λo ay h=>Jo3 [2,4,6,26,27,28] (λE L w'=>∃κ' j ad Y W af,L=(9,.pointer (some ⟨j,0,none⟩))::(10,.bool o.2)::E/\Stp [13,17,19,20,21] F cu κ' w'/\Oc (Ep.own E6 2) 37 κ' w' 13 ad Y o.1.Next/\Oc Pair.ep127 127 κ' w' 14 W af o.1.Pairs/\Bc κ' w' 15 j 71 [.slice ad o.1.Next.length Y,.slice W o.1.Pairs.length af]) ?_ ?_
 refine WC.rxt (κ:=F) [2,10,12] none (by kernel_rfl) λdl f=>Jq1 (fuel:=8) [(0,0),(1,0),(2,0)] (by kernel_rfl) (by kernel_rfl) R<|Jg R (Jc4 (haC (av.stp<|T3 d e f).cells R) I71 Z71 R)<|Jg R (Jc4 (haC (aS.stp<|T9 u x y s t B d e f).cells R) I28 Z28 R)<|Jg R (Jc4 (haC (cc.stp f).cells R) I67 Z67 R)<|Jp1<|WA.fork2 (fuel:=7) 3 8 (by kernel_rfl) R ?_ ?_
 refine Jr3 R C105 (mi (κ:=Mk F) (p0:=p0) (p1:=bd) (Ji3<|aT.stp<|T3 d e f) (Ji3<|aU.stp<|T3 d e f) aX) ?_
 rintro _ cV ⟨cI,bt,bq,bv,bu,rfl,bw,bF,bG⟩
 obtain⟨aA,m,aY⟩:=Ji bw 13 R
 refine⟨(m.cl R),?_⟩
 have aQ:=bF.mx (cD (bX _) _) aY R (R:13+2=15)
 have aR:=bG.mx Pair.no127 aY R (R:13+3=16)
 refine Jp1<|WA.fork2 (fuel:=6) 4 8 (by kernel_rfl) R ?_ ?_
 have aH:=(T4 d e f m)
 refine Jr3 R C104 (j5 (κ:=Mk aA) (p0:=(⟨c.1,c.2⟩:Det)) (p1:=az) (Ji3 (ah.stp aH).rdc) (Ji3 (ai.stp aH).rdc) (Ji3 aQ.rdc) (Ji3 aR.rdc) ay) ?_
 rintro _ cW ⟨cK,K,N,M,J,rfl,bx,bH,bI⟩
 obtain⟨be,aM,aZ⟩:=Ji bx 17 R
 have an:=(m.tr aM)
 exact⟨(an.cl R),Jp1<|Jq1 (fuel:=0) [(5,2),(6,2),(7,2),(8,1),(9,1),(10,2)] (by kernel_rfl) (by kernel_rfl) R<|Jn 3 R<|Jt3 (κ:=be) 21 R X71 R λj cX aB G bJ=>⟨((an.tr G).cl R),Jh4 (κ:=aB) 21 R Z71 R bJ R λcY Q bK=>⟨((T3 an G Q).cl R),Jn 1 R<|Jp1<|Jr1 [] (by kernel_rfl) (by kernel_rfl) R<|Jo<|Jw1 _ ⟨(λb=>ren [(19,13),(20,14),(21,15)]<|aB b),j,K,N,M,J,R,(Jy2 ((T5 f m aM G Q).wk R) [(19,13),(20,14),(21,15)] R),(((bH.mx (cD (bX _) _) aZ R (R:17+2=19)).stp (G.tr Q)).map (ren [(19,13),(20,14),(21,15)]) R R),(((bI.mx Pair.no127 aZ R (R:17+3=20)).stp (G.tr Q)).map (ren [(19,13),(20,14),(21,15)]) R R),(bK.map (ren [(19,13),(20,14),(21,15)]) R R)⟩<|KM R⟩⟩⟩
 have aI:=(T4 d e f m)
 refine Jt3 (κ:=aA) 17 R X71 R λj cZ bf p bL=>⟨((m.tr p).cl R),Jp1<|Jq1 (fuel:=0) [(4,1),(5,2),(6,2),(7,2),(9,1),(10,2)] (by kernel_rfl) (by kernel_rfl) R<|Jr3 R C104 (j5 (κ:=Mk bf) (p0:=(⟨c.1,c.2⟩:Det)) (p1:=az) (Ji3 (ah.stp<|aI.tr p).rdc) (Ji3 (ai.stp<|aI.tr p).rdc) (Ji3 (aQ.stp p).rdc) (Ji3 (aR.stp p).rdc) ay) ?_⟩
 rintro _ c0 ⟨cL,K,N,M,J,rfl,bA,bM,bN⟩
 obtain⟨aD,ao,a0⟩:=Ji bA 18 R
 have aJ:=(T3 m p ao)
 exact⟨(aJ.cl R),Jn 3 R<|Jh4 (κ:=aD) 17 R Z71 R (bL.stp ao) R λc1 S bO=>⟨((aJ.tr S).cl R),Jn 1 R<|Jp1<|Jr1 [] (by kernel_rfl) (by kernel_rfl) R<|Jo<|Jw1 _ ⟨(λb=>ren [(20,13),(21,14),(17,15)]<|aD b),j,K,N,M,J,R,(Jy2 ((T5 f m p ao S).wk R) [(20,13),(21,14),(17,15)] R),(((bM.mx (cD (bX _) _) a0 R (R:18+2=20)).stp S).map (ren [(20,13),(21,14),(17,15)]) R R),(((bN.mx Pair.no127 a0 R (R:18+3=21)).stp S).map (ren [(20,13),(21,14),(17,15)]) R R),(bO.map (ren [(20,13),(21,14),(17,15)]) R R)⟩<|KM R⟩⟩
 refine Jt3 (κ:=F) 13 R X71 R λj c2 bg q bP=>⟨(q.cl R),Jp1<|Jq1 (fuel:=0) [(3,1),(4,1),(5,2),(6,2),(7,2),(9,1),(10,2)] (by kernel_rfl) (by kernel_rfl) R<|Jr3 R C105 (mi (κ:=Mk bg) (p0:=p0) (p1:=bd) (Ji3<|aT.stp<|T4 d e f q) (Ji3<|aU.stp<|T4 d e f q) aX) ?_⟩
 rintro _ c3 ⟨cM,bt,bq,bv,bu,rfl,bB,bQ,bR⟩
 obtain⟨bh,H,a2⟩:=Ji bB 14 R
 have aK:=(T5 d e f q H)
 refine⟨((q.tr H).cl R),Jr3 R C104 (j5 (κ:=Mk bh) (p0:=(⟨c.1,c.2⟩:Det)) (p1:=az) (Ji3 (ah.stp aK).rdc) (Ji3 (ai.stp aK).rdc) (Ji3 (bQ.mx (cD (bX _) _) a2 R (R:14+2=16)).rdc) (Ji3 (bR.mx Pair.no127 a2 R (R:14+3=17)).rdc) ay) ?_⟩
 rintro _ c4 ⟨cN,K,N,M,J,rfl,bC,bS,bU⟩
 obtain⟨aE,ap,a3⟩:=Ji bC 18 R
 have aL:=(T3 q H ap)
 exact⟨(aL.cl R),Jn 3 R<|Jh4 (κ:=aE) 13 R Z71 R (bP.stp<|H.tr ap) R λc5 T bV=>⟨((aL.tr T).cl R),Jn 1 R<|Jp1<|Jr1 [] (by kernel_rfl) (by kernel_rfl) R<|Jo<|Jw1 _ ⟨(λb=>ren [(20,13),(21,14),(13,15)]<|aE b),j,K,N,M,J,R,(Jy2 ((T5 f q H ap T).wk R) [(20,13),(21,14),(13,15)] R),(((bS.mx (cD (bX _) _) a3 R (R:18+2=20)).stp T).map (ren [(20,13),(21,14),(13,15)]) R R),(((bU.mx Pair.no127 a3 R (R:18+3=21)).stp T).map (ren [(20,13),(21,14),(13,15)]) R R),(bV.map (ren [(20,13),(21,14),(13,15)]) R R)⟩<|KM R⟩⟩
 rintro _ dk ⟨P,j,ad,Y,W,af,rfl,U,cd,ce,cf⟩
 refine Jp<|Jq<|Je3 R ?_
 revert h
 cases cG:(!o.2)
 refine JF λh=>Jy R<|Js<|Jp<|Ja [1,1] R<|Jb4 tv R (Jc4 (haE cf.cells) I71 Z71 R)<|Jh4 (κ:=P) 10 R Z71 R (av.stp<|T3 d e U) R λc7 aq bY=>Tv<|Jo<|Jz<|Jp<|Jf3 R ?_
 have cm:cb .i64 (i+1)=i+1:=wr1 ci (Jm2 C) ch
 rw[cm]
 have C:=Jm2 C
 cases h
 exact Jz1 λa ha=>⟨k,_,Ja3 _,⟨(λb=>ren [(13,9),(14,11)]<|P b),i+1,(o.1.Next,o.1.Pairs),ad,Y,W,af,R,(Jy2 ((T5 B d e U aq).wk R) [(13,9),(14,11)] R),((cd.stp aq).map (ren [(13,9),(14,11)]) R R),((ce.stp aq).map (ren [(13,9),(14,11)]) R R),(bY.map (ren [(13,9),(14,11)]) R R),by omega,by omega,ak⟩,(ha.mm R)⟩
 refine JT λh=>Jx R<|Je [2,1,2] R<|Jf R (Ji4 [.slice none 0 0,.slice none 0 0] R)<|Jh4 (κ:=P) 3 R Z71 R (aw.stp<|T11 g n u x y s t B d e U) R λc6 bn bW=>Tv<|Jb 1 R<|Ju<|Jw<|Ja1<|Jw<|Jw ?_
 cases h
 obtain rfl:=Option.some.inj ak
 have h:=yL aV
 refine Ja1<|Jq2<|Jw<|Ja2 (l:=[.cell 4 71,.tmp 5]) V41 (ca R bW I71 Z71 R<|Jp2 R R) R ?_
 cases h
 exact⟨P,none,0,none,0,R,(hE.stp<|T14 I A g n u x y s t B d e U bn),Ow.nil,Ow.nil⟩
 rintro _ dh ⟨aF,D,X,ac,V,aa,rfl,aN,b6,b7,b8,rfl⟩
 have h:=yI aV
 refine Jp<|Je [1,1,2] R<|Jb4 tv R (Jc4 (haE b8.cells) I71 Z71 R)<|Jh4 (κ:=aF) 3 R Z71 R (aw.stp<|T8 g n u x y s t aN) R λc8 au bZ=>Tv<|Jb 1 R<|Ju<|Ja2 (l:=[.cell 4 71,.tmp 5]) V41 (ca R bZ I71 Z71 R<|Jp2 R R) R ?_
 cases h
 exact⟨(λb=>ren [(9,2),(11,3)]<|aF b),X,ac,V,aa,R,((hE.stp<|T11 I A g n u x y s t aN au).map (ren [(9,2),(11,3)]) R R),((b6.stp au).map (ren [(9,2),(11,3)]) R R),((b7.stp au).map (ren [(9,2),(11,3)]) R R)⟩
 refine JT λh=>Jx R<|Je [2,1,2] R<|Jf R (Ji4 [.slice none 0 0,.slice none 0 0] R)<|Jh4 (κ:=am) 3 R Z71 R (aw.stp<|g.tr n) R λdb bp b0=>Tv<|Jb 1 R<|Ju<|Jw<|Ja2 (l:=[.cell 4 71,.tmp 5]) V41 (ca R b0 I71 Z71 R<|Jp2 R R) R ?_
 cases h
 exact⟨am,none,0,none,0,R,(hE.stp<|T5 I A g n bp),Ow.nil,Ow.nil⟩
theorem ke {p0:Sig}{C H B G}{p1:Det}{F E D A}{p2:Det}(ar:Rd (Rp.sl (Rp.int .i64)) κ w 0 C H p1.Next) (au:Rd Pair.rp κ w 0 B G p1.Pairs) (L:Rd (Rp.sl (Rp.int .i64)) κ w 0 F E p2.Next) (M:Rd Pair.rp κ w 0 D A p2.Pairs){r:Det×Bool}(h:jt p0 p1 p2=some r):Ret Tryz.prog 121 [.agg #[vi p0.In,vi p0.Out],.agg #[.slice C p1.Next.length H,.slice B p1.Pairs.length G],.agg #[.slice F p2.Next.length E,.slice D p2.Pairs.length A]] w (λv w'=>∃(κ':Col) (Q:Option Addr) (T:Nat) (S:Option Addr) (U:Nat),v= .tuple #[.agg #[.slice Q r.1.Next.length T,.slice S r.1.Pairs.length U],.bool r.2]/\Ent κ w κ' w'/\Oc (Ep.own E6 2) 37 κ' w' 2 Q T r.1.Next/\Oc Pair.ep127 127 κ' w' 3 S U r.1.Pairs):=by
 unfold jt at h
 refine Jk3 κ F121 R N121 R λhE=>Je [1,1,1,1,2] R<|Js3 (κ:=κ) 2 R λaF w1 X k al=>Tv<|Js3 (κ:=X) 3 R λaG aW Z j ap=>Tv<|Js3 (κ:=Z) 4 R λaH a2 V f p=>Tv<|Jt3 (κ:=V) 5 R X71 R λaI aT W c I=>Tv<|Jb 1 R<|Jq<|Je [1,1,1,2,2,1,1,1,2,2,2,2,1,2,2,1,2,2,2,2] R ?_
 have q:=al.stp (T3 j f c)
 refine Jb4 tv R (Jc4 (haE q.cells) I28 Z28 R) ?_
 have s:=ap.stp (f.tr c)
 refine Jb4 tv R (Jc4 (haE s.cells) I71 Z71 R)<|Ob h λaD ax h=>?_
 have J:=ar.stp (T4 k j f c)
 have K:=au.stp (T4 k j f c)
 refine Jr3 R C123 (i8 (κ:=Mk W) (p0:=p0) (p1:=p1) (Ji3 J) (Ji3 K) ax) ?_
 rintro _ aB ⟨aM,rfl,ah⟩
 obtain⟨t,a,aQ⟩:=Ji ah 6 R
 refine Tv<|Jn 2 R<|Ob h λO h av=>Jf4 [3,4,5,6] 17 O t aB [(5,1),(6,1),(7,1),(8,2),(9,2)] [(10,2),(11,2),(12,1),(13,2),(14,2),(15,1),(16,2),(17,2),(18,2),(19,2)] tv ?_ ?_
 revert h
 cases aJ:(!aD)
 have x:=(T5 k j f c a)
 refine JF λh=>Jb4 tv R (Jc4 (haE (q.stp a).cells) I28 Z28 R)<|Jb4 tv R (Jc4 (haE (p.stp<|c.tr a).cells) I71 Z71 R)<|Ob h λa3 ay h=>Jr3 R C123 (i8 (κ:=Mk t) (p0:=p0) (p1:=p2) (Ji3<|L.stp x) (Ji3<|M.stp x) ay) ?_
 rintro _ aU ⟨aN,rfl,ai⟩
 obtain⟨aE,ab,aR⟩:=Ji ai 8 R
 refine Tv<|Jn 2 R ?_
 cases h
 exact Jv1 _ tv ⟨R,_,ab.wk R⟩<|KM R
 refine JT λh=>Jz3 R<|Jz3 R<|Jz3 R<|Jn 2 R ?_
 cases h
 exact Jg4 tv R
 rintro _ aC _ ⟨rfl,Y,d⟩
 have h:=av
 refine Jn 1 R<|Ob h λP h aw=>Jf4 [3,4,5,6] 27 P Y aC [(11,2),(12,1),(13,2),(14,2),(15,1),(16,2),(17,2),(18,2),(19,2)] [] tv ?_ ?_
 revert h
 cases aK:O
 refine JF λh=>Jd3 R U71 R Z69<|Jb3 R I69 ((s.stp<|a.tr d).ld 1 R R)<|Jn3 R U69 R R<|Jd3 R U71 R Z69<|Jb3 R I69 ((p.stp<|T3 c a d).ld 1 R R)<|Jn3 R U69 R R<|Jn 3 R ?_
 cases h
 exact Jg4 tv R
 refine JT λh=>Jn 1 R<|Jz3 R<|Jn 2 R<|Jz3 R<|Jn 4 R ?_
 cases h
 exact Jg4 tv R
 rintro _ aV _ ⟨rfl,m,e⟩
 have h:=aw
 refine Jd ?_
 revert h
 cases aL:P
 refine JF λh=>Jy R<|Js<|Jp<|Jq<|Js1 (κ:=m) [2,3,4] none [(0,0),(1,0),(2,0),(3,1),(4,1),(5,2),(6,2),(7,1),(8,2)] [] (by kernel_rfl) (by kernel_rfl) λaY g=>Jg R (Jc4 (haC (s.stp<|T4 a d e g).cells R) I71 Z71 R)<|Jg R (Jc4 (haC (p.stp<|T5 c a d e g).cells R) I71 Z71 R)<|Jg R (Jc4 (haC (q.stp<|T4 a d e g).cells R) I28 Z28 R)<|Ob h λa4 az h=>Jr3 R C120 (fC (κ:=Mk m) (p0:=p0) az) ?_
 rintro _ aZ ⟨aO,rfl,aj⟩
 obtain⟨aa,i,aS⟩:=Ji aj 8 R
 have y:=(T9 k j f c a d e g i)
 have z:=(T5 a d e g i)
 refine⟨(i.cl R),Ob h λa5 aA h=>Jr3 R C186 (p9 (κ:=Mk aa) (p0:=p1) (p1:=p2) (Ji3<|J.stp z) (Ji3<|K.stp z) (Ji3<|L.stp y) (Ji3<|M.stp y) aA) ?_⟩
 rintro _ a0 ⟨aP,ad,ae,af,ag,rfl,ak,an,ao⟩
 obtain⟨u,n,N⟩:=Ji ak 10 R
 refine⟨((i.tr n).cl R),Jn 2 R<|Jh4 (κ:=u) 5 R Z71 R (I.stp<|T6 a d e g i n) R λa1 o aq=>⟨((T3 i n o).cl R),Jn 1 R<|Jt1<|Jd<|Ju<|Ja2 (l:=[.cell 6 71,.tmp 7]) V121 (ca R aq I71 Z71 R<|Jp2 R R) R ?_⟩⟩
 cases h
 exact⟨(λb=>ren [(12,2),(13,3)]<|u b),ad,ae,af,ag,R,((hE.stp<|T11 k j f c a d e g i n o).map (ren [(12,2),(13,3)]) R R),(((an.mx (cD (bX _) _) N R (R:10+2=12)).stp o).map (ren [(12,2),(13,3)]) R R),(((ao.mx Pair.no127 N R (R:10+3=13)).stp o).map (ren [(12,2),(13,3)]) R R)⟩
 refine JT λh=>Jx R<|Je [2,1,2] R<|Jf R (Ji4 [.slice none 0 0,.slice none 0 0] R)<|Jh4 (κ:=m) 5 R Z71 R (I.stp<|T3 a d e) R λaX ac am=>Tv<|Jb 1 R<|Ju<|Jw<|Ja2 (l:=[.cell 6 71,.tmp 7]) V121 (ca R am I71 Z71 R<|Jp2 R R) R ?_
 cases h
 exact⟨m,none,0,none,0,R,(hE.stp<|T8 k j f c a d e ac),Ow.nil,Ow.nil⟩
theorem pW {p0:Sig}{b3 b0 b2 b1}{p1:Det}(d3:Rd (Rp.sl (Rp.int .i64)) κ w 0 b3 b0 p1.Next) (d4:Rd Pair.rp κ w 0 b2 b1 p1.Pairs){r:Arena×(List Pair)×Bool}(h:g9 p0 p1=some r):Ret Tryz.prog 65 [.agg #[vi p0.In,vi p0.Out],.agg #[.slice b3 p1.Next.length b0,.slice b2 p1.Pairs.length b1]] w (λv w'=>∃(κ':Col) (cy:Option Addr) (cC:Nat) (cz:Option Addr) (cD:Nat) (cB:Option Addr) (cE:Nat),v= .tuple #[.agg #[.slice cy r.1.Owner.length cC,.slice cz r.1.Next.length cD],.slice cB r.2.1.length cE,.bool r.2.2]/\Ent κ w κ' w'/\Oc E6 2 κ' w' 2 cy cC r.1.Owner/\Oc (Ep.fz (Rp.sl (Rp.int .i64))) 37 κ' w' 3 cz cD r.1.Next/\Oc Pair.ep127 127 κ' w' 4 cB cE r.2.1):=by
 unfold g9 at h
 refine Jk3 κ F65 R N65 R λhE=>Je [1,1,1,2,2] R<|Js3 (κ:=κ) 2 R λe8 w1 cU ax dP=>Tv<|Js3 (κ:=cU) 3 R λe9 f8 c0 W dX=>Tv<|Jt3 (κ:=c0) 4 R X75 R λfa ge cM A b5=>Tv<|Jb 2 R<|Jq<|Je [1,1,1,2] R ?_
 have b6:=dP.stp (W.tr A)
 refine Jb4 tv R (Jc4 (haE b6.cells) I28 Z28 R) ?_
 have b9:=dX.stp A
 refine Jb4 tv R (Jc4 (haE b9.cells) I71 Z71 R)<|Ob h λe0 eJ h=>?_
 have a1:=d3.stp (T3 ax W A)
 have ag:=d4.stp (T3 ax W A)
 refine Jr3 R C123 (i8 (κ:=Mk cM) (p0:=p0) (p1:=p1) (Ji3 a1) (Ji3 ag) eJ) ?_
 rintro _ fR ⟨fx,rfl,dj⟩
 obtain⟨bI,o,fC⟩:=Ji dj 5 R
 refine Tv<|Jb 1 R ?_
 revert h
 cases fv:(!e0)
 refine JF λh=>Jy R<|Js<|Jp<|Je [2,1,2,2] R<|Jd3 R U71 R Z31 ?_
 have a2:=b9.stp o
 refine Jb3 R I31 (a2.ld 0 R R)<|Jn3 R U31 R R<|Jb 1 R<|Je [1,1,2] R ?_
 have cj:=b6.stp o
 refine Jb4 tv R (Jc4 (haE cj.cells) I28 Z28 R)<|Ob h λn eK h=>Jr3 R C129 (iI (κ:=Mk bI) (p0:=p0) eK) ?_
 rintro _ f6 ⟨fA,rfl,dm⟩
 obtain⟨cY,u,fD⟩:=Ji dm 7 R
 refine Tv<|Jb 1 R<|Je [2,1,1] R<|Jf R (Ji4 [.slice none 0 0,.slice none 0 0] R)<|Jt3 (κ:=cY) 9 R X75 R λF f7 ai x dQ=>Tv<|Jh4 (κ:=ai) 9 R Z75 R dQ R λcI y dR=>Tv<|Jd<|Jq<|Je3 R ?_
 have ed:(p1.Next.length:Int)<=9223372036854775807:=a1.len_le
 refine Ob h λcv ev d8=>?_
 clear h
 refine Jo3 [2,3,4,7,8,9] (λE L w'=>∃κ',∃q:(List Int)×(List<|List Int),∃aR aA aO aX,L=E/\Stp [9,10,11,12,14] ai cI κ' w'/\Oc E6 2 κ' w' 10 aR aA q.1/\Oc (Ep.fz<|Rp.sl<|Rp.int .i64) 37 κ' w' 11 aO aX q.2/\Bc κ' w' 9 F 75 [.slice aR q.1.length aA,.slice aO q.2.length aX]/\cv=eg q) ?_ ?_
 refine Jv<|Jp3 [2,3,4,7,8,9] (λk E L w'=>∃κ' c,∃g:(List Int)×(List<|List Int),∃aZ aW ae af,L=(10,vi c)::E/\Stp [9,10,11,12,14] ai cI κ' w'/\Oc E6 2 κ' w' 10 aZ aW g.1/\Oc (Ep.fz<|Rp.sl<|Rp.int .i64) 37 κ' w' 11 ae af g.2/\Bc κ' w' 9 F 75 [.slice aZ g.1.length aW,.slice ae g.2.length af]/\0<=c/\n6 ((p1.Next.length:Int)-c)=k/\cntM (ej p1 n) k c g=some cv) ⟨_,_,⟨ai,0,((([]:List Int):(List Int)),(([]:List (List Int)):(List<|List Int))),none,0,none,0,R,Jj3,Ow.nil,Ow.nil,dR,(by decide),(by simp),ev⟩,(KM R)⟩ ?_
 rintro k _ f9 ⟨bL,c,g,aZ,aW,ae,af,rfl,bV,ck,cl,cm,eo,ft,h⟩
 rcases k with _ | k
 have bA:=h;obtain⟨eW,h⟩:=cn (eg (gs g):(Arena×(List Pair)×Bool)⊕(((List Int)×(List (List Int)))⊕((List Int)×(List (List Int)))))
 have J:decide (c<(p1.Next.length:Int))=false:=Jo2 (by omega)
 refine Jq<|Je3 R<|Jw2 R J<|Jc1<|Jt<|Jt ?_
 cases h
 have h:=bA
 refine Jb1 ?_
 cases h
 exact Jw1 _ ⟨bL,(g.1,g.2),aZ,aW,ae,af,R,bV.wk R,ck,cl,cm,R⟩<|KM R
 obtain⟨eW,h,bA⟩:=BI h;unfold ej at h
 have J:decide (c<(p1.Next.length:Int))=true:=Jn2 (by omega)
 refine Jq<|Je3 R<|Jv2 R J<|Js<|Jp<|Jq<|Jv<|Je [1,2] R<|Jx3 (κ:=bL) (E:=E6) 12 R Y37 a8 R λc7 de cK be ay dV=>Tv<|Jb 1 R<|Jq<|Je3 R<|Ob h λ_ ey h=>?_
 have ee:=kN ey
 refine Ob h λcw ew d9=>?_
 clear h
 refine Jo3 [2,3,4,7,8,9,10] (λE L w'=>∃κ',∃O:(List Int),∃aU a0,L=(11,.slice aU O.length a0)::E/\Stp [12] be cK κ' w'/\Oc E6 2 κ' w' 12 aU a0 O/\cw=eg O) ?_ ?_
 refine Jv<|Jp3 [2,3,4,7,8,9,10] (λk E L w'=>∃κ' e,∃N:(List Int),∃aK aL,L=(11,.slice aK N.length aL)::(12,vi e)::E/\Stp [12] be cK κ' w'/\Oc E6 2 κ' w' 12 aK aL N/\0<=e/\n6 (n-e)=k/\cntM (ek p1 n c) k e N=some cw) ⟨_,_,⟨be,0,(([]:List Int):(List Int)),c7,de,R,Jj3,dV,(by decide),(by simp),ew⟩,(KM R)⟩ ?_
 rintro k _ gb ⟨bM,e,N,aK,aL,rfl,bW,cp,ep,fu,h⟩
 rcases k with _ | k
 have bB:=h;obtain⟨eX,h⟩:=cn (eg (gs N):(Arena×(List Pair)×Bool)⊕(((List Int))⊕((List Int))))
 have K:decide (e<n)=false:=Jo2 (by omega)
 refine Jq<|Je3 R<|Jw2 R K<|Jc1<|Jt<|Jt ?_
 cases h
 have h:=bB
 refine Jb1 ?_
 cases h
 exact Jw1 _ ⟨bM,N,aK,aL,R,bW.wk R,cp,R⟩<|KM R
 obtain⟨eX,h,bB⟩:=BI h;unfold ek at h
 have K:decide (e<n)=true:=Jn2 (by omega)
 refine Jq<|Je3 R<|Jv2 R K<|Js<|Jp<|Jq<|Jv<|Jh3 [2,2,2,2,2,2,2,2,1,1,2] 8 R<|Jd4 (κ:=bM) 13 [(IntKind.i64.wrap ((IntKind.i64.wrap ((p1.Next.length:Int)+(IntKind.i64.wrap<|c * n)))+e))] R Y37 a8 R λfh bt gc c2 bY dY=>Tv<|Ob h λe1 eL h=>Jy3 (κ:=c2) (E:=E6) 12 [] R Y37 a8 R (cp.stp bY) (Sl.srcP (co _) dY.rdc) bZ eL R λdg c8 gd c3 c6 dZ=>Tv<|Jc 1 R<|Jz<|Jp<|Jf3 R ?_
 have eF:cb .i64 (e+1)=e+1:=wr1 ep (Jm2 K) ee
 rw[eF]
 have K:=Jm2 K
 cases h
 exact Jz1 λa ha=>⟨k,_,Ja3 _,⟨c3,e+1,e1,dg,c8,R,(T3 bW bY c6).wk R,dZ,by omega,by omega,bB⟩,(ha.mm R)⟩
 rintro _ ga ⟨c1,O,aU,a0,rfl,az,dW,rfl⟩
 have h:=yI d9
 refine Jp<|Je [2,1,1,1,2,1] R<|Jd3 R U75 R Z37 ?_
 have cq:=cm.stp (ay.tr az)
 refine Jb3 R I37 (cq.ld 0 R R)<|Jd4 (κ:=c1) 13 [1] R Y37 a8 R λfe fi gf c4 X d0=>Tv<|Ob h λa6 eM h=>Jy3 (κ:=c4) (E:=E6) 10 [] R Y37 a8 R (ck.stp<|T3 ay az X) (Sl.srcP (co _) d0.rdc) bZ eM R λaC aS gg bN aj dn=>Tv<|Jd3 R U75 R Z37<|Ju3 (κ:=bN) 9 (off:=0) (vc:=[.slice aC a6.length aS]) (cs':=[.slice aC a6.length aS,.slice ae g.2.length af]) R Z37 R (cq.stp<|X.tr aj) R λeY ak b4=>Tv<|Jd<|Ja [2,1,2,1,1,2,1] R<|Jd3 R U75 R Z31<|Jb3 R I31 (b4.ld 1 R R)<|Jn 1 R ?_
 obtain⟨cN,al,e2⟩:=kB bN eY 12
 refine Jw3 (κ:=cN) (E:=(Ep.fz<|Rp.sl<|Rp.int .i64)) 14 [] (parts:=[(0,.tmp 57)]) (cells:=[.slice aU O.length a0]) (xs:=([O]:List (List Int))) R Y31 bT R (Je4 ⟨_,_,R,(Sl.z1<|Sl.st e2 (dW.stp<|T3 X aj ak).rdc)⟩) λfj fb fI cO am dp=>Tv<|Ob h λbD eN h=>Jy3 (κ:=cO) (E:=(Ep.fz<|Rp.sl<|Rp.int .i64)) 11 [14] R Y31 bT R (cl.stp<|T7 ay az X aj ak al am) dp.src (cZ R) eN R λbn bp fJ bF bg dq=>Tv<|Jd3 R U75 R Z31<|Ju3 (κ:=bF) 9 (off:=1) (vc:=[.slice bn bD.length bp]) (cs':=[.slice aC a6.length aS,.slice bn bD.length bp]) R Z31 R (b4.stp<|T3 al am bg) R λfK bh dr=>Tv<|Jo<|Jz<|Jp<|Jf3 R ?_
 have eE:cb .i64 (c+1)=c+1:=wr1 eo (Jm2 J) ed
 rw[eE]
 have J:=Jm2 J
 cases h
 exact Jz1 λa ha=>⟨k,_,Ja3 _,⟨bF,c+1,(a6,bD),aC,aS,bn,bp,R,(T10 bV ay az X aj ak al am bg bh).wk R,(dn.stp<|T5 ak al am bg bh),(dq.stp bh),dr,by omega,by omega,bA⟩,(ha.mm R)⟩
 rintro _ cJ ⟨bd,q,aR,aA,aO,aX,rfl,z,dS,dT,dU,rfl⟩
 have h:=yI d8
 refine Jp<|Jq<|Je3 R ?_
 have ea:(p1.Next.length:Int)<=9223372036854775807:=a1.len_le
 refine Ob h λcx es d5=>?_
 clear h
 refine Jo3 [3,4,9] (λE L w'=>∃κ',∃P:(List Int)×(List<|List Int),∃aE aY ar aF,L=E/\Stp [9,10,11,16] bd cJ κ' w'/\Oc E6 2 κ' w' 10 aE aY P.1/\Oc (Ep.fz<|Rp.sl<|Rp.int .i64) 37 κ' w' 11 ar aF P.2/\Bc κ' w' 9 F 75 [.slice aE P.1.length aY,.slice ar P.2.length aF]/\cx=eg P) ?_ ?_
 refine Jv<|Jp3 [2,3,4,7,8,9] (λk E L w'=>∃κ' f,∃d:(List Int)×(List<|List Int),∃ac Y ab ad,L=(13,vi f)::E/\Stp [9,10,11,16] bd cJ κ' w'/\Oc E6 2 κ' w' 10 ac Y d.1/\Oc (Ep.fz<|Rp.sl<|Rp.int .i64) 37 κ' w' 11 ab ad d.2/\Bc κ' w' 9 F 75 [.slice ac d.1.length Y,.slice ab d.2.length ad]/\0<=f/\n6 ((p1.Next.length:Int)-f)=k/\cntM (el p0 p1 n) k f d=some cx) ⟨_,_,⟨bd,0,(q.1,q.2),aR,aA,aO,aX,R,Jj3,dS,dT,dU,(by decide),(by simp),es⟩,(KM R)⟩ ?_
 rintro k _ cF ⟨ah,f,d,ac,Y,ab,ad,rfl,an,b7,b8,cc,ef,fq,h⟩
 rcases k with _ | k
 have bw:=h;obtain⟨eT,h⟩:=cn (eg (gs d):(Arena×(List Pair)×Bool)⊕(((List Int)×(List (List Int)))⊕((List Int)×(List (List Int)))))
 have G:decide (f<(p1.Next.length:Int))=false:=Jo2 (by omega)
 refine Jq<|Je3 R<|Jw2 R G<|Jc1<|Jt<|Jt ?_
 cases h
 have h:=bw
 refine Jb1 ?_
 cases h
 exact Jw1 _ ⟨ah,(d.1,d.2),ac,Y,ab,ad,R,an.wk R,b7,b8,cc,R⟩<|KM R
 obtain⟨eT,h,bw⟩:=BI h;unfold el at h
 have G:decide (f<(p1.Next.length:Int))=true:=Jn2 (by omega)
 refine Jq<|Je3 R<|Jv2 R G<|Js<|Jp<|Jq<|Jv<|Je3 R<|Ob h λ_ ex h=>?_
 have eb:=kN ex
 refine Ob h λct et d6=>?_
 clear h
 refine Jo3 [2,3,4,7,8,9,13] (λE L w'=>∃κ',∃p:(List Int)×(List<|List Int),∃aP aN aM aG,L=E/\Stp [9,10,11,16] ah cF κ' w'/\Oc E6 2 κ' w' 10 aP aN p.1/\Oc (Ep.fz<|Rp.sl<|Rp.int .i64) 37 κ' w' 11 aM aG p.2/\Bc κ' w' 9 F 75 [.slice aP p.1.length aN,.slice aM p.2.length aG]/\ct=eg p) ?_ ?_
 refine Jv<|Jp3 [2,3,4,7,8,9,13] (λk E L w'=>∃κ' j,∃i:(List Int)×(List<|List Int),∃aB aH aa Z,L=(14,vi j)::E/\Stp [9,10,11,16] ah cF κ' w'/\Oc E6 2 κ' w' 10 aB aH i.1/\Oc (Ep.fz<|Rp.sl<|Rp.int .i64) 37 κ' w' 11 aa Z i.2/\Bc κ' w' 9 F 75 [.slice aB i.1.length aH,.slice aa i.2.length Z]/\0<=j/\n6 (n-j)=k/\cntM (em p0 p1 f) k j i=some ct) ⟨_,_,⟨ah,0,(d.1,d.2),ac,Y,ab,ad,R,Jj3,b7,b8,cc,(by decide),(by simp),et⟩,(KM R)⟩ ?_
 rintro k _ fN ⟨bG,j,i,aB,aH,aa,Z,rfl,ao,cd,ce,bu,eh,fr,h⟩
 rcases k with _ | k
 have bx:=h;obtain⟨eU,h⟩:=cn (eg (gs i):(Arena×(List Pair)×Bool)⊕(((List Int)×(List (List Int)))⊕((List Int)×(List (List Int)))))
 have H:decide (j<n)=false:=Jo2 (by omega)
 refine Jq<|Je3 R<|Jw2 R H<|Jc1<|Jt<|Jt ?_
 cases h
 have h:=bx
 refine Jb1 ?_
 cases h
 exact Jw1 _ ⟨bG,(i.1,i.2),aB,aH,aa,Z,R,ao.wk R,cd,ce,bu,R⟩<|KM R
 obtain⟨eU,h,bx⟩:=BI h;unfold em at h
 have H:decide (j<n)=true:=Jn2 (by omega)
 refine Jq<|Je3 R<|Jv2 R H<|Js<|Jp<|Jq<|Jv<|Je [2,1,1,1,2,1] R<|Jd3 R U75 R Z37<|Jb3 R I37 (bu.ld 0 R R)<|Jd4 (κ:=bG) 12 [0] R Y37 a8 R λff fk fO cR B dy=>Tv<|Ob h λa7 eO h=>Jy3 (κ:=cR) (E:=E6) 10 [] R Y37 a8 R (cd.stp B) (Sl.srcP (co _) dy.rdc) bZ eO R λaD aJ fP a9 S dz=>Tv<|Jd3 R U75 R Z37<|Ju3 (κ:=a9) 9 (off:=0) (vc:=[.slice aD a7.length aJ]) (cs':=[.slice aD a7.length aJ,.slice aa i.2.length Z]) R Z37 R (bu.stp<|B.tr S) R λfQ T dA=>Tv<|Jd<|Js1 (κ:=a9) [2,3,9] (some 10) [(0,2),(4,2),(5,2),(1,0),(2,0),(3,0),(6,1),(7,1),(8,1),(9,2)] [(10,1)] (by kernel_rfl) (by kernel_rfl) λfS C=>Jd3 R U75 R Z31<|Jn 2 R ?_
 have cf:=dA.stp C
 have bO:=(T11 o u x y z an ao B S T C)
 have bP:=(T10 u x y z an ao B S T C)
 refine Jg R (Jc2 I31 R R<|hvC (cf.ld 1 R R) R)<|Jg R (Jc4 (haC (cj.stp bP).cells R) I28 Z28 R)<|Jg R (Jc4 (haC (a2.stp bP).cells R) I71 Z71 R)<|Ob h λcL eP h=>Jr3 R C130 (qw (κ:=λb=>mp [] 1<|a9 b) (p0:=p0) (p1:=p1) (Jl2 (a1.stp bO) (mp [] 1) R R) (Jl2 (ag.stp bO) (mp [] 1) R R) eP) ?_
 rintro _ fT ⟨fw,bk,db,rfl,di,dB⟩
 obtain⟨cS,s,fB,e3⟩:=Jj di 13 R
 refine⟨(s.cl R),Jw3 (κ:=cS) (E:=(Ep.fz<|Rp.sl<|Rp.int .i64)) 16 [] (parts:=[(0,.tmp 82)]) (cells:=[.slice bk cL.length db]) (xs:=([cL]:List (List Int))) R Y31 bT R (Je4 ⟨_,_,R,(Sl.z1<|dB.mx e3)⟩) λfc fl fU cT D dC=>⟨((s.tr D).cl R),Ob h λbE eQ h=>Jy3 (κ:=cT) (E:=(Ep.fz<|Rp.sl<|Rp.int .i64)) 11 [16] R Y31 bT R (ce.stp<|T6 B S T C s D) dC.src (cZ R) eQ R λbl br fV bH ap dD=>⟨((T3 s D ap).cl R),Jd3 R U75 R Z31<|Jt1<|Ju3 (κ:=bH) 9 (off:=1) (vc:=[.slice bl bE.length br]) (cs':=[.slice aD a7.length aJ,.slice bl bE.length br]) R Z31 R (cf.stp<|T3 s D ap) R λfW bi dE=>Tv<|Jo<|Jz<|Jp<|Jf3 R ?_⟩⟩⟩
 have eC:cb .i64 (j+1)=j+1:=wr1 eh (Jm2 H) eb
 rw[eC]
 have H:=Jm2 H
 cases h
 exact Jz1 λa ha=>⟨k,_,Ja3 _,⟨bH,j+1,(a7,bE),aD,aJ,bl,br,R,(T9 ao B S T C s D ap bi).wk R,(dz.stp<|T6 T C s D ap bi),(dD.stp bi),dE,by omega,by omega,bx⟩,(ha.mm R)⟩
 rintro _ fM ⟨cQ,p,aP,aN,aM,aG,rfl,c5,dv,dw,dx,rfl⟩
 have h:=yI d6
 refine Jz<|Jp<|Jf3 R ?_
 have eB:cb .i64 (f+1)=f+1:=wr1 ef (Jm2 G) ea
 rw[eB]
 have G:=Jm2 G
 cases h
 exact Jz1 λa ha=>⟨k,_,Ja3 _,⟨cQ,f+1,(p.1,p.2),aP,aN,aM,aG,R,(an.tr c5).wk R,dv,dw,dx,by omega,by omega,bw⟩,(ha.mm R)⟩
 rintro _ fL ⟨cP,P,aE,aY,ar,aF,rfl,Q,ds,dt,du,rfl⟩
 have h:=yI d5
 refine Jp<|Je [1,2] R<|Jx3 (κ:=cP) (E:=Pair.ep127) 12 R Y69 cA R λdd dh cG ba t dG=>Tv<|Jb 1 R<|Jq<|Je3 R ?_
 have ec:(p1.Pairs.length:Int)<=9223372036854775807:=ag.len_le
 refine Ob h λcu eu d7=>?_
 clear h
 refine Jo3 [4,9] (λE L w'=>∃κ',∃a3:(List Pair),∃aT aQ,L=(15,.slice aT a3.length aQ)::E/\Stp [12,15,18,19] ba cG κ' w'/\Oc Pair.ep127 127 κ' w' 12 aT aQ a3/\cu=eg a3) ?_ ?_
 refine Jv<|Jp3 [3,4,9] (λk E L w'=>∃κ' m,∃M:(List Pair),∃aV aI,L=(15,.slice aV M.length aI)::(16,vi m)::E/\Stp [12,15,18,19] ba cG κ' w'/\Oc Pair.ep127 127 κ' w' 12 aV aI M/\0<=m/\n6 ((p1.Pairs.length:Int)-m)=k/\cntM (en p1) k m M=some cu) ⟨_,_,⟨ba,0,(([]:List Pair):(List Pair)),dd,dh,R,Jj3,dG,(by decide),(by simp),eu⟩,(KM R)⟩ ?_
 rintro k _ fY ⟨bb,m,M,aV,aI,rfl,U,cg,ei,fs,h⟩
 rcases k with _ | k
 have bz:=h;obtain⟨eV,h⟩:=cn (eg (gs M):(Arena×(List Pair)×Bool)⊕(((List Pair))⊕((List Pair))))
 have I:decide (m<(p1.Pairs.length:Int))=false:=Jo2 (by omega)
 refine Jq<|Jg3 [2,2,1,2,2] 1 R<|Jd3 R U71 R Z69<|Jb3 R I69 ((a2.stp<|T7 u x y z Q t U).ld 1 R R)<|Jn3 R U69 R R<|Jb 1 R<|Jw2 R I<|Jc1<|Jt<|Jt ?_
 cases h
 have h:=bz
 refine Jb1 ?_
 cases h
 exact Jw1 _ ⟨bb,M,aV,aI,R,U.wk R,cg,R⟩<|KM R
 obtain⟨eV,h,bz⟩:=BI h;unfold en at h
 have I:decide (m<(p1.Pairs.length:Int))=true:=Jn2 (by omega)
 refine Jq<|Jg3 [2,2,1,2,2] 1 R<|Jd3 R U71 R Z69 ?_
 have ch:=a2.stp (T7 u x y z Q t U)
 refine Jb3 R I69 (ch.ld 1 R R)<|Jn3 R U69 R R<|Jb 1 R<|Jv2 R I<|Js<|Jp<|Jq<|Jv<|Js1 (κ:=bb) [0,3] none [(0,2),(1,2),(3,2),(8,2),(10,2),(2,0),(4,2),(5,2),(6,0),(9,0),(11,2),(12,2),(13,0),(7,1),(14,1),(15,2),(16,1),(17,1),(18,2)] [] (by kernel_rfl) (by kernel_rfl) λfZ au=>Jn 1 R<|Jd3 R U71 R Z69<|Jn 1 R<|Jd3 R U71 R Z69<|Jn 1 R ?_
 have ci:=ch.stp au
 refine Jg R (Jc2 I69 R R<|hvC (ci.ld 1 R R) R)<|Ob h λgi cs h=>Jc3 R ag cs U69 Z127<|Jd3 R U127 R Z37 ?_
 have bv:=ag.stp (T9 o u x y z Q t U au)
 obtain⟨fm,ez,eq⟩:=(bv).gSt cs
 obtain⟨e4,fE,e5,fF,rfl,d1,fo⟩:=Pair.un ez
 refine Jg R (Jc2 I37 R R<|hvC (λw' bC=>eq w' bC 0 _ R) R)<|Jg R (Jc2 I69 R R<|hvC (ci.ld 1 R R) R)<|Ob h λgh cr h=>Jc3 R bv cr U69 Z127<|Jd3 R U127 R Z37 ?_
 obtain⟨fn,eA,er⟩:=(bv).gSt cr
 obtain⟨e6,fG,e7,fH,rfl,fp,d2⟩:=Pair.un eA
 refine Jg R (Jc2 I37 R R<|hvC (λw' bC=>er w' bC 1 _ R) R)<|Ob h λa4 eG h=>Jr3 R C131 (dF (κ:=Mk bb) (Ji3 d1) eG) ?_
 rintro _ f0 ⟨fy,bq,bm,rfl,dk,dI⟩
 obtain⟨cV,V,eR⟩:=Ji dk 13 R
 refine⟨(V.cl R),Ob h λa5 eH h=>Jr3 R C131 (dF (κ:=Mk cV) (Ji3<|d2.stp V) eH) ?_⟩
 rintro _ cH ⟨fz,bs,bo,rfl,dl,dJ⟩
 obtain⟨bc,av,eS⟩:=Ji dl 16 R
 have bf:=(V.tr av)
 refine⟨(bf.cl R),Jf R (Ji4 [.slice bq a4.length bm,.slice bs a5.length bo] R)<|Jw3 (κ:=bc) (E:=Pair.ep127) 19 [15,18] (parts:=[(0,.tmp 109)]) (cells:=[.slice bq a4.length bm,.slice bs a5.length bo]) (xs:=([(⟨a4,a5⟩:Pair)]:List Pair)) R Y69 cA R (Je4 ⟨[.slice bq a4.length bm],[.slice bs a5.length bo],Zl bc cH [15],Zl bc cH [18],R,Zl.sp (l1:=[15]) (l2:=[18]) R,Zl.sr (l1:=[15]) (l2:=[18]),⟨_,_,R,((dI.mx (bX _) eR R (R:13+2=15)).stp av)⟩,⟨_,_,R,(dJ.mx (bX _) eS R (R:16+2=18))⟩⟩) λfd fg f1 cW aw dK=>⟨((bf.tr aw).cl R),Ob h λeZ eI h=>Jy3 (κ:=cW) (E:=Pair.ep127) 12 [19] R Y69 cA R (cg.stp<|T4 au V av aw) dK.src (cZ R) eI R λc9 dc f3 cX bR dL=>⟨((T3 bf aw bR).cl R),Jn 1 R<|Jt1<|Jo<|Jz<|Jp<|Jf3 R ?_⟩⟩⟩
 have eD:cb .i64 (m+1)=m+1:=wr1 ei (Jm2 I) ec
 rw[eD]
 have I:=Jm2 I
 cases h
 exact Jz1 λa ha=>⟨k,_,Ja3 _,⟨cX,m+1,eZ,c9,dc,R,(T6 U au V av aw bR).wk R,dL,by omega,by omega,bz⟩,(ha.mm R)⟩
 rintro _ fX ⟨bJ,a3,aT,aQ,rfl,aq,dH,rfl⟩
 have h:=yI d7
 refine Jp<|Je [1,2,1,2,2] R<|Jb4 tv R (Jc4 (haE (du.stp<|t.tr aq).cells) I75 Z75 R)<|Jn 1 R<|Jh4 (κ:=bJ) 4 R Z75 R (b5.stp<|T8 o u x y z Q t aq) R λf4 bj dM=>Tv<|Jb 2 R<|Ju<|Ja2 (l:=[.cell 4 75,.tmp 5,.tmp 6]) V65 (ca R dM I75 Z75 R<|Jp2 R<|Jp2 R R) R ?_
 cases h
 have bQ:=(T3 t aq bj)
 exact⟨(λb=>ren [(10,2),(11,3),(12,4)]<|bJ b),aE,aY,ar,aF,aT,aQ,R,((hE.stp<|T12 ax W A o u x y z Q t aq bj).map (ren [(10,2),(11,3),(12,4)]) R R),((ds.stp bQ).map (ren [(10,2),(11,3),(12,4)]) R R),((dt.stp bQ).map (ren [(10,2),(11,3),(12,4)]) R R),((dH.stp bj).map (ren [(10,2),(11,3),(12,4)]) R R)⟩
 refine JT λh=>Jx R<|Je [2,1,1,2,2] R<|Jf R (Ji4 [.slice none 0 0,.slice none 0 0] R)<|Jx3 (κ:=bI) (E:=Pair.ep127) 7 R Y69 cA R λdf da f2 bK bS dN=>Tv<|Jh4 (κ:=bK) 4 R Z75 R (b5.stp<|o.tr bS) R λf5 bU dO=>Tv<|Jb 2 R<|Ju<|Jw<|Ja2 (l:=[.cell 4 75,.tmp 5,.tmp 6]) V65 (ca R dO I75 Z75 R<|Jp2 R<|Jp2 R R) R ?_
 cases h
 exact⟨(λb=>ren [(7,4)]<|bK b),none,0,none,0,df,da,R,((hE.stp<|T6 ax W A o bS bU).map (ren [(7,4)]) R R),Ow.nil,Ow.nil,((dN.stp bU).map (ren [(7,4)]) R R)⟩
theorem qr {q s p t u o}{p0:Parity}{a1 A}{p1:(List Int)}(U:Rd (Rp.int .i64) κ w 0 q s p0.Arena.Owner) (V:Rd (Rp.sl (Rp.int .i64)) κ w 0 p t p0.Arena.Next) (W:Rd (Rp.int .i64) κ w 0 u o p0.Prio) (X:Rd (Rp.int .i64) κ w 0 a1 A p1){r:Bool}(h:kh p0 p1=some r):Ret Tryz.prog 199 [.agg #[.slice q p0.Arena.Owner.length s,.slice p p0.Arena.Next.length t,.slice u p0.Prio.length o],.slice a1 p1.length A] w (Pvb κ w r):=by
 unfold kh at h
 refine Jk3 κ F199 R N199 R λhE=>Je [1,2] R<|Js3 (κ:=κ) 2 R λau w1 D c v=>Tv<|Jb 1 R<|Je [1,2,1,2,2,2,1,1,2] R<|Jb4 tv R (Jc4 (haE v.cells) I79 Z79 R)<|Jn 1 R<|Ob h λB Z h=>?_
 have x:=U.stp c
 have y:=V.stp c
 have z:=W.stp c
 refine Jr3 R C251 (tq (κ:=Mk D) (p0:=p0) (Ji3 x) (Ji3 y) (Ji3 z) (Ji3<|X.stp c) Z) ?_
 rintro _ aI ⟨ax,ai,aj,ao,ak,an,aq,rfl,I,M,N,O⟩
 obtain⟨C,k,n⟩:=Ji I 3 R
 refine Tv<|Jn 3 R<|Jt3 (κ:=C) 8 R X79 R λav aC e f P=>Tv<|Jh4 (κ:=e) 8 R Z79 R P R λaD g Q=>Tv<|Jb 1 R<|Jq<|Js1 (κ:=e) [2,8] none [(0,2),(1,2),(2,0),(4,0),(3,1),(5,1),(6,1),(7,2),(8,2)] [] (by kernel_rfl) (by kernel_rfl) λag b=>Jn 2 R<|Ob h λaf h Y=>Jf4 [4] 20 af e ag [(2,0),(4,0),(3,1),(5,1),(6,1),(7,2)] [(8,2)] (Cl.refl _ _ _) ?_ ?_
 revert h
 cases aw:B.2
 refine JF λh=>Ja4 R<|Ja4 R<|Jz3 R<|Jz3 R<|Jz3 R<|Jn 1 R ?_
 cases h
 exact Jv1 _ (Cl.refl _ _ _) ⟨R,_,Jj3⟩<|KM R
 have i:=(T3 f g b)
 refine JT λh=>Jg R (Jc4 (haC (Q.stp b).cells R) I79 Z79 R)<|Jg R (Jc4 (haC (v.stp<|T4 k f g b).cells R) I79 Z79 R)<|Ob h λaJ aa h=>Jr3 R C200 (nA (κ:=Mk e) (p0:=B.1) (Ji3 ((M.mx (bX _) n R (R:3+2=5)).stp i).rdc) (Ji3 ((N.mx (cD (bX _) _) n R (R:3+3=6)).stp i).rdc) (Ji3 ((O.mx (bX _) n R (R:3+4=7)).stp i).rdc) aa) ?_
 rintro _ aE ⟨ay,al,ar,rfl,J,S⟩
 obtain⟨E,a,ad⟩:=Ji J 9 R
 have j:=(T5 k f g b a)
 refine⟨(a.cl R),Ob h λaK ab h=>Jr3 R C200 (nA (κ:=Mk E) (p0:=p0) (Ji3<|x.stp j) (Ji3<|y.stp j) (Ji3<|z.stp j) ab) ?_⟩
 rintro _ aF ⟨az,ap,am,rfl,K,T⟩
 obtain⟨F,d,ae⟩:=Ji K 12 R
 refine⟨((a.tr d).cl R),Ob h λaL ac h=>Jr3 R C144 (kI (κ:=Mk F) (Ji3 ((S.mx (bX _) ad R (R:9+2=11)).stp d).rdc) (Ji3 (T.mx (bX _) ae R (R:12+2=14)).rdc) ac) ?_⟩
 rintro _ aG ⟨aA,rfl,L⟩
 obtain⟨ah,m,aB⟩:=Ji L 15 R
 refine⟨((T3 a d m).cl R),Jn 1 R ?_⟩
 cases h
 exact Jv1 _ ((T3 a d m).cl R) ⟨R,_,(T3 a d m).wk R⟩<|KM R
 rintro _ aH _ ⟨rfl,G,H⟩
 have h:=Y
 refine Jn 1 R<|Jt1<|Jd<|Ju<|Ja2 (l:=[.tmp 4]) V199 (Jp2 R R) R ?_
 cases h
 exact⟨G,R,(hE.stp<|T6 c k f g b H)⟩
theorem qu {p0:Sig}{o m p n}{p1:Det}{p2:Int}{i:Int}(J:Rd (Rp.sl (Rp.int .i64)) κ w 0 o m p1.Next) (K:Rd Pair.rp κ w 0 p n p1.Pairs){r:Int}(h:kj p0 p1 p2 i=some r):Ret Tryz.prog 142 [.agg #[vi p0.In,vi p0.Out],.agg #[.slice o p1.Next.length m,.slice p p1.Pairs.length n],vi p2,vi i] w (Pvi κ w r):=by
 unfold kj at h
 refine Jk3 κ F142 R N142 R λhE=>Je [1,1,2] R<|Js3 (κ:=κ) 2 R λY w1 u c I=>Tv<|Js3 (κ:=u) 3 R λZ au y a q=>Tv<|Jb 1 R<|Je [2,1,2,2] R<|Jd3 R U71 R Z31<|Jb3 R I31 (q.ld 0 R R)<|Jn3 R U31 R R<|Jb 1 R<|Jq<|Je [1,1,1,2,2,2,2,2,1,2,2,2,2,1,1,2,1,2,2] R ?_
 have g:=I.stp a
 refine Jb4 tv R (Jc4 (haE g.cells) I28 Z28 R)<|Jb4 tv R (Jc4 (haE q.cells) I71 Z71 R)<|Ob h λV N h=>Jr3 R C123 (i8 (κ:=Mk y) (p0:=p0) (p1:=p1) (Ji3<|J.stp<|c.tr a) (Ji3<|K.stp<|c.tr a) N) ?_
 rintro _ T ⟨ae,rfl,D⟩
 obtain⟨j,b,aj⟩:=Ji D 4 R
 refine Tv<|Jn 2 R<|Ob h λs h L=>Jf4 [2,3,4,9] 23 s j T [(5,2),(6,2),(7,2),(8,1),(9,2),(10,2)] [(11,2),(12,2),(13,1),(14,1),(15,2),(16,1),(17,2),(18,2)] tv ?_ ?_
 revert h
 cases aa:(!V)
 refine JF λh=>Jn 3 R<|Ob h λaw O h=>Jr3 R C59 (cP (κ:=Mk j) O) ?_
 rintro _ ao ⟨af,rfl,E⟩
 obtain⟨W,z,ak⟩:=Ji E 6 R
 refine Tv<|Jn 2 R ?_
 cases h
 exact Jv1 _ tv ⟨R,_,z.wk R⟩<|KM R
 refine JT λh=>Jn 3 R<|Jz3 R<|Jn 2 R ?_
 cases h
 exact Jg4 tv R
 rintro _ U _ ⟨rfl,k,d⟩
 have h:=L
 refine Jn 1 R<|Ob h λt h M=>Jf4 [2,3,4,9] 31 t k U [(12,2),(13,1),(14,1),(15,2),(16,1),(17,2),(18,2)] [] tv ?_ ?_
 revert h
 cases ab:s
 refine JF λh=>Jn 1 R<|Jb4 tv R (Jc4 (haE (g.stp<|b.tr d).cells) I28 Z28 R)<|Ob h λax P h=>Jr3 R C129 (iI (κ:=Mk k) (p0:=p0) P) ?_
 rintro _ ap ⟨ag,rfl,F⟩
 obtain⟨v,A,al⟩:=Ji F 6 R
 refine Tv<|Jn 1 R<|Ob h λay Q h=>Jr3 R C59 (cP (κ:=Mk v) Q) ?_
 rintro _ aq ⟨ah,rfl,G⟩
 obtain⟨X,B,am⟩:=Ji G 8 R
 refine Tv<|Jn 2 R ?_
 cases h
 exact Jv1 _ tv ⟨R,_,(A.tr B).wk R⟩<|KM R
 refine JT λh=>Jn 1 R<|Jz3 R<|Jz3 R<|Jn 1 R<|Jz3 R<|Jn 2 R ?_
 cases h
 exact Jg4 tv R
 rintro _ ar _ ⟨rfl,f,e⟩
 have h:=M
 refine Jd ?_
 revert h
 cases ac:t
 refine JF λh=>Jy R<|Js<|Jp<|Jq<|Je3 R ?_
 revert h
 cases ad:(i==(-1))
 refine JF λh=>Jy R<|Js<|Jp<|Jg3 [2,2,1,1,2,2,2,2,2] 2 R<|Jb4 tv R (Jc4 (haE (g.stp<|T3 b d e).cells) I28 Z28 R)<|Ob h λaz S h=>Jr3 R C129 (iI (κ:=Mk f) (p0:=p0) S) ?_
 rintro _ av ⟨ai,rfl,H⟩
 obtain⟨x,C,an⟩:=Ji H 6 R
 refine Tv<|Jb 5 R<|Ju<|Ja2 (l:=[.tmp 8]) V142 (Jp2 R R) R ?_
 cases h
 exact⟨x,R,(hE.stp<|T6 c a b d e C)⟩
 refine JT λh=>Jx R<|Je3 R<|Ju<|Jw<|Ja2 (l:=[.tmp 8]) V142 (Jp2 R R) R ?_
 cases h
 exact⟨f,R,(hE.stp<|T5 c a b d e)⟩
 refine JT λh=>Jx R<|Je3 R<|Ju<|Jw<|Ja2 (l:=[.tmp 8]) V142 (Jp2 R R) R ?_
 cases h
 exact⟨f,R,(hE.stp<|T5 c a b d e)⟩
theorem pY {p0:Sig}{P U O T}{p1:Det}{p2:Int}{I:Int}{z:Int}(aK:Rd (Rp.sl (Rp.int .i64)) κ w 0 P U p1.Next) (aL:Rd Pair.rp κ w 0 O T p1.Pairs){r:(List Int)}(h:jw p0 p1 p2 I z=some r):Ret Tryz.prog 143 [.agg #[vi p0.In,vi p0.Out],.agg #[.slice P p1.Next.length U,.slice O p1.Pairs.length T],vi p2,vi I,vi z] w (Pvs E6 2 κ w r):=by
 unfold jw at h
 refine Jk3 κ F143 R N143 R λhE=>Je [1,1,2] R<|Js3 (κ:=κ) 2 R λbb w1 ai s aH=>Tv<|Js3 (κ:=ai) 3 R λbc bC ak n aJ=>Tv<|Jb 1 R<|Je [1,2] R<|Jx3 (κ:=ak) (E:=E6) 4 R Y37 a8 R λQ S bH af i V=>Tv<|Jb 1 R<|Jq<|Je [1,1,1,2,2,2,2,1,2,2,1,2,2,2,2,1,1,2,1,2,2] R ?_
 have D:=aH.stp (n.tr i)
 refine Jb4 tv R (Jc4 (haE D.cells) I28 Z28 R) ?_
 have F:=aJ.stp i
 refine Jb4 tv R (Jc4 (haE F.cells) I71 Z71 R)<|Ob h λa2 aS h=>?_
 have G:=aK.stp (T3 s n i)
 refine Jr3 R C123 (i8 (κ:=Mk af) (p0:=p0) (p1:=p1) (Ji3 G) (Ji3<|aL.stp<|T3 s n i) aS) ?_
 rintro _ aZ ⟨bi,rfl,ay⟩
 obtain⟨K,d,bo⟩:=Ji ay 5 R
 refine Tv<|Jn 2 R<|Ob h λab h aM=>Jf4 [2,3,4,5,6,11] 26 ab K aZ [(5,2),(6,2),(7,1),(8,2),(9,2),(10,1),(11,2),(12,2)] [(13,2),(14,2),(15,1),(16,1),(17,2),(18,1),(19,2),(20,2)] tv ?_ ?_
 revert h
 cases be:(!a2)
 refine JF λh=>Jn 1 R<|Jd3 R U71 R Z31<|Jb3 R I31 ((F.stp d).ld 0 R R)<|Jn3 R U31 R R<|Jn 1 R<|Ob h λbJ aT h=>Jr3 R C59 (cP (κ:=Mk K) aT) ?_
 rintro _ bz ⟨bj,rfl,az⟩
 obtain⟨a5,ap,bp⟩:=Ji az 7 R
 refine Tv<|Jn 2 R ?_
 cases h
 exact Jv1 _ tv ⟨R,_,ap.wk R⟩<|KM R
 refine JT λh=>Jn 2 R<|Jz3 R<|Jn 2 R<|Jz3 R<|Jn 2 R ?_
 cases h
 exact Jg4 tv R
 rintro _ a0 _ ⟨rfl,M,e⟩
 have h:=aM
 refine Jn 1 R<|Ob h λac h aN=>Jf4 [2,3,4,5,6,11] 34 ac M a0 [(14,2),(15,1),(16,1),(17,2),(18,1),(19,2),(20,2)] [] tv ?_ ?_
 revert h
 cases bf:ab
 refine JF λh=>Jn 1 R<|Jb4 tv R (Jc4 (haE (D.stp<|d.tr e).cells) I28 Z28 R)<|Ob h λbK aU h=>Jr3 R C129 (iI (κ:=Mk M) (p0:=p0) aU) ?_
 rintro _ bA ⟨bk,rfl,aA⟩
 obtain⟨aj,aq,bq⟩:=Ji aA 7 R
 refine Tv<|Jn 1 R<|Ob h λbL aV h=>Jr3 R C59 (cP (κ:=Mk aj) aV) ?_
 rintro _ bB ⟨bl,rfl,aB⟩
 obtain⟨a6,ar,br⟩:=Ji aB 9 R
 refine Tv<|Jn 2 R ?_
 cases h
 exact Jv1 _ tv ⟨R,_,(aq.tr ar).wk R⟩<|KM R
 refine JT λh=>Jn 1 R<|Jz3 R<|Jz3 R<|Jn 1 R<|Jz3 R<|Jn 2 R ?_
 cases h
 exact Jg4 tv R
 rintro _ ae _ ⟨rfl,q,g⟩
 have h:=aN
 refine Jd ?_
 revert h
 cases bg:ac
 refine JF λh=>Jy R<|Js<|Jp<|Jq<|Je3 R<|Ob h λad aR aO=>?_
 clear h
 refine Jx1 (λL w'=>∃κ',∃A:(List Int)×Int,∃v y,L=[(11,.slice v A.1.length y)]/\Stp [4] q ae κ' w'/\Oc E6 2 κ' w' 4 v y A.1/\ad=eg A) ?_ ?_
 refine Jv<|Jp3 [2,3,4,5,6] (λk E L w'=>∃κ',∃c:(List Int)×Int,∃p o,L=(11,.slice p c.1.length o)::(12,vi c.2)::E/\Stp [4] q ae κ' w'/\Oc E6 2 κ' w' 4 p o c.1/\bU (fI p0 p1 p2 I z) k c=some ad) ⟨_,_,⟨q,((([]:List Int):(List Int)),(0:Int)),Q,S,R,Jj3,(V.stp<|T3 d e g),aR⟩,(KM R)⟩ ?_
 rintro k _ bE ⟨am,c,p,o,rfl,m,H,h⟩
 rcases k with _ | k
 cases h
 obtain⟨bu,h,Y⟩:=BI h;unfold fI at h
 refine Jq<|Jg3 [2,2,1,1,2] 1 R<|Jd3 R U28 R Z2 ?_
 have W:=D.stp (T4 d e g m)
 refine Jb3 R I2 (W.ld 1 R R)<|Ob h λa3 aW h=>Jr3 R C62 (dh (κ:=Mk am) aW) ?_
 rintro _ bF ⟨bm,rfl,aC⟩
 obtain⟨B,f,bs⟩:=Ji aC 7 R
 refine Tv<|Jb 1 R ?_
 revert h
 cases bh:decide (c.2<a3)
 refine JF λh=>Jy R<|Jc1<|Jt<|Jt ?_
 cases h
 have h:=Y
 refine Jb1 ?_
 cases h
 exact Jw1 _ ⟨B,(c.1,c.2),p,o,R,(m.tr f).wk R,(H.stp f),R⟩<|KM R
 refine JT λh=>Jx R<|Js<|Jp<|Jq<|Jv<|Jq<|Js1 (κ:=B) [0,2,3] none [(0,2),(2,2),(6,2),(7,2),(11,2),(1,0),(3,2),(4,0),(5,0),(8,1),(9,2),(10,0),(12,2)] [] (by kernel_rfl) (by kernel_rfl) λbG j=>Jd3 R U71 R Z31<|Jn 4 R<|Jg R (Jc2 I31 R R<|hvC ((F.stp<|T6 d e g m f j).ld 0 R R) R)<|Ob h λbM Z h=>Jc3 R G Z U31 Z37 ?_
 obtain⟨ba,bv,X,aQ⟩:=(G.stp (T6 d e g m f j)).gSl Z
 refine Jg R (Jc2 I37 R R<|hvC aQ R)<|Jg R (Jc4 (haC (W.stp<|f.tr j).cells R) I28 Z28 R)<|Ob h λbN aX h=>Jr3 R C94 (m9 (κ:=Mk B) (p0:=p0) aX) ?_
 rintro _ a1 ⟨bn,rfl,aD⟩
 obtain⟨C,t,bt⟩:=Ji aD 9 R
 refine⟨(t.cl R),Ob h λa4 aa h=>Jc3 R X aa U37 Z2<|Jg R (Jc2 I2 R R<|hvC (X.gInt aa) R)<|Jn 1 R<|Jt1<|Jd<|Ob h λJ h aP=>Jo3 [2,3,4,5,6,12] (λE L w'=>∃κ' u x,L=(11,.slice u J.length x)::E/\Stp [4] C a1 κ' w'/\Oc E6 2 κ' w' 4 u x J) ?_ ?_⟩
 revert h
 cases bd:(a4==z)
 refine JF λh=>Jy R<|Js ?_
 cases h
 exact Jw1 _ ⟨C,p,o,R,Jj3,(H.stp<|T3 f j t)⟩<|KM R
 refine JT λh=>Jx R<|Jh3 [2,2,1,1,2] 2 R<|Jd4 (κ:=C) 11 [c.2] R Y37 a8 R λa7 a9 bw ag N aF=>Tv<|Ob h λbO aY h=>Jy3 (κ:=ag) (E:=E6) 4 [] R Y37 a8 R (H.stp<|T4 f j t N) (Sl.srcP (co _) aF.rdc) bZ aY R λaw ax bx ah ao aG=>Tv<|Jc 1 R ?_
 cases h
 exact Jw1 _ ⟨ah,aw,ax,R,(N.tr ao).wk R,aG⟩<|KM R
 rintro _ bI ⟨an,u,x,rfl,av,aE⟩
 have h:=aP
 refine Jz<|Jp<|Jf3 R ?_
 cases h
 exact Jz1 λa ha=>⟨k,_,Ja3 _,⟨an,(J,((IntKind.i64.wrap<|c.2+1):Int)),u,x,R,(T5 m f j t av).wk R,aE,Y⟩,(ha.mm R)⟩
 rintro _ bD ⟨al,A,v,y,rfl,au,aI,rfl⟩
 have h:=yI aO
 refine Jp<|Je3 R<|Ju<|Ja2 (l:=[.tmp 10]) V143 (Jp2 R R) R ?_
 cases h
 exact⟨(λb=>ren [(4,2)]<|al b),v,y,R,((hE.stp<|T7 s n i d e g au).map (ren [(4,2)]) R R),(aI.map (ren [(4,2)]) R R)⟩
 refine JT λh=>Jx R<|Je3 R<|Ju<|Jw<|Ja2 (l:=[.tmp 10]) V143 (Jp2 R R) R ?_
 cases h
 exact⟨(λb=>ren [(4,2)]<|q b),Q,S,R,((hE.stp<|T6 s n i d e g).map (ren [(4,2)]) R R),((V.stp<|T3 d e g).map (ren [(4,2)]) R R)⟩
theorem rW {p0:Sig}{ao ah am ak}{p1:Machine}{an al aj ai}{p2:Det}(bJ:Rd (Rp.sl (Rp.int .i64)) κ w 0 ao ah p1.Next) (bK:Rd (Rp.sl (Rp.int .i64)) κ w 0 am ak p1.Out) (aG:Rd (Rp.sl (Rp.int .i64)) κ w 0 an al p2.Next) (aH:Rd Pair.rp κ w 0 aj ai p2.Pairs){r:(List (List Int))×(List Pair)×Bool}(h:mQ p0 p1 p2=some r):Ret Tryz.prog 146 [.agg #[vi p0.In,vi p0.Out],.agg #[.slice ao p1.Next.length ah,.slice am p1.Out.length ak],.agg #[.slice an p2.Next.length al,.slice aj p2.Pairs.length ai]] w (λv w'=>∃(κ':Col) (aM:Option Addr) (aO:Nat) (aN:Option Addr) (aP:Nat),v= .tuple #[.slice aM r.1.length aO,.slice aN r.2.1.length aP,.bool r.2.2]/\Ent κ w κ' w'/\Oc (Ep.own E6 2) 37 κ' w' 2 aM aO r.1/\Oc Pair.ep127 127 κ' w' 3 aN aP r.2.1):=by
 unfold mQ at h
 refine Jk3 κ F146 R N146 R λhE=>Je [1,1,1,2,2,2] R<|Js3 (κ:=κ) 2 R λco w1 aW q bu=>Tv<|Js3 (κ:=aW) 3 R λcp cW aZ p bD=>Tv<|Js3 (κ:=aZ) 4 R λcq c3 aS f aA=>Tv<|Jb 3 R<|Jq<|Je [1,1,1,2,2,1,1,1,2,2] R ?_
 have X:=bu.stp (p.tr f)
 refine Jb4 tv R (Jc4 (haE X.cells) I28 Z28 R) ?_
 have aB:=bD.stp f
 refine Jb4 tv R (Jc4 (haE aB.cells) I33 Z33 R)<|Ob h λb7 bW h=>?_
 have aC:=bJ.stp (T3 q p f)
 have aD:=bK.stp (T3 q p f)
 refine Jr3 R C17 (iA (κ:=Mk aS) (p0:=p0) (p1:=p1) (Ji3 aC) (Ji3 aD) bW) ?_
 rintro _ b6 ⟨cE,rfl,bm⟩
 obtain⟨ab,c,cH⟩:=Ji bm 5 R
 refine Tv<|Jn 2 R<|Ob h λaK h bL=>Jf4 [3,4,5] 22 aK ab b6 [(5,1),(6,1),(7,1),(8,2),(9,2)] [] tv ?_ ?_
 revert h
 cases cx:(!b7)
 have ad:=(T4 q p f c)
 refine JF λh=>Jb4 tv R (Jc4 (haE (X.stp c).cells) I28 Z28 R)<|Jb4 tv R (Jc4 (haE (aA.stp c).cells) I71 Z71 R)<|Ob h λc5 bY h=>Jr3 R C123 (i8 (κ:=Mk ab) (p0:=p0) (p1:=p2) (Ji3<|aG.stp ad) (Ji3<|aH.stp ad) bY) ?_
 rintro _ cS ⟨cF,rfl,bn⟩
 obtain⟨b9,a4,cI⟩:=Ji bn 7 R
 refine Tv<|Jn 2 R ?_
 cases h
 exact Jv1 _ tv ⟨R,_,a4.wk R⟩<|KM R
 refine JT λh=>Jz3 R<|Jz3 R<|Jz3 R<|Jn 2 R ?_
 cases h
 exact Jg4 tv R
 rintro _ cT _ ⟨rfl,ac,g⟩
 have h:=bL
 refine Jd ?_
 revert h
 cases cy:aK
 refine JF λh=>Jy R<|Js<|Jp<|Je [1,1,1,1,2,2,2,1,1,2] R<|Jb4 tv R (Jc4 (haE (X.stp<|c.tr g).cells) I28 Z28 R)<|Jb4 tv R (Jc4 (haE (aB.stp<|c.tr g).cells) I33 Z33 R) ?_
 have Y:=aA.stp (c.tr g)
 refine Jb4 tv R (Jc4 (haE Y.cells) I71 Z71 R)<|Ob h λH bZ h=>?_
 have D:=aH.stp (T5 q p f c g)
 refine Jr3 R C205 (qz (κ:=Mk ac) (p0:=p0) (p1:=p1) (p2:=p2) (Ji3<|aC.stp<|c.tr g) (Ji3<|aD.stp<|c.tr g) (Ji3<|aG.stp<|T5 q p f c g) (Ji3 D) bZ) ?_
 rintro _ cX ⟨cG,ch,cd,cg,ci,bi,a9,ca,cf,rfl,bo,bx,bz,bA,bB⟩
 obtain⟨a0,u,F⟩:=Ji bo 7 R
 refine Tv<|?_
 have aE:=bA.mx (cD (bX _) _) F R (R:7+4=11)
 refine Jn 3 R<|Jt3 (κ:=a0) 13 R X216 R λcr cY N i bC=>Tv<|Jh4 (κ:=N) 13 R Z216 R bC R λc0 j aF=>Tv<|Jb 1 R<|Jq<|Je3 R ?_
 revert h
 cases cz:(!H.2)
 refine JF λh=>Jy R<|Js<|Jp<|Je [1,2] R<|Jx3 (κ:=N) (E:=Pair.ep127) 14 R Y69 cA R λba bc aR O d bG=>Tv<|Jb 1 R<|Jq<|Je3 R ?_
 have bN:(p2.Pairs.length:Int)<=9223372036854775807:=D.len_le
 refine Ob h λaL bR bM=>?_
 clear h
 refine Jo3 [9] (λE L w'=>∃κ',∃G:(List Pair),∃z C,L=(11,.slice z G.length C)::E/\Stp [14,17,20,21] O aR κ' w'/\Oc Pair.ep127 127 κ' w' 14 z C G/\aL=eg G) ?_ ?_
 refine Jv<|Jp3 [5,9] (λk E L w'=>∃κ' m,∃t:(List Pair),∃B A,L=(11,.slice B t.length A)::(12,vi m)::E/\Stp [14,17,20,21] O aR κ' w'/\Oc Pair.ep127 127 κ' w' 14 B A t/\0<=m/\n6 ((p2.Pairs.length:Int)-m)=k/\cntM (eK p2 H) k m t=some aL) ⟨_,_,⟨O,0,(([]:List Pair):(List Pair)),ba,bc,R,Jj3,bG,(by decide),(by simp),bR⟩,(KM R)⟩ ?_
 rintro k _ cN ⟨K,m,t,B,A,rfl,e,ap,bO,cw,h⟩
 rcases k with _ | k
 have Z:=h;obtain⟨b5,h⟩:=cn (eg (gs t):((List (List Int))×(List Pair)×Bool)⊕(((List Pair))⊕((List Pair))))
 have s:decide (m<(p2.Pairs.length:Int))=false:=Jo2 (by omega)
 refine Jq<|Jg3 [2,2,1,2,2] 1 R<|Jd3 R U71 R Z69<|Jb3 R I69 ((Y.stp<|T5 u i j d e).ld 1 R R)<|Jn3 R U69 R R<|Jb 1 R<|Jw2 R s<|Jc1<|Jt<|Jt ?_
 cases h
 have h:=Z
 refine Jb1 ?_
 cases h
 exact Jw1 _ ⟨K,t,B,A,R,e.wk R,ap,R⟩<|KM R
 obtain⟨b5,h,Z⟩:=BI h;unfold eK at h
 have s:decide (m<(p2.Pairs.length:Int))=true:=Jn2 (by omega)
 refine Jq<|Jg3 [2,2,1,2,2] 1 R<|Jd3 R U71 R Z69 ?_
 have aq:=Y.stp (T5 u i j d e)
 refine Jb3 R I69 (aq.ld 1 R R)<|Jn3 R U69 R R<|Jb 1 R<|Jv2 R s<|Js<|Jp<|Jq<|Jv<|Js1 (κ:=K) [0,4,13] none [(0,2),(2,2),(4,2),(10,2),(12,2),(1,0),(3,0),(5,2),(6,2),(7,0),(9,0),(11,0),(13,2),(14,2),(15,0),(8,1),(16,1),(17,2),(18,1),(19,1),(20,2)] [] (by kernel_rfl) (by kernel_rfl) λcO n=>Jn 1 R<|Jd3 R U71 R Z69<|Jn 1 R<|Jd3 R U71 R Z69<|Jn 1 R ?_
 have au:=aF.stp (T3 d e n)
 refine Jg R (Jc4 (haC au.cells R) I216 Z216 R) ?_
 have av:=aq.stp n
 refine Jg R (Jc2 I69 R R<|hvC (av.ld 1 R R) R)<|Ob h λc6 aI h=>Jc3 R D aI U69 Z127<|Jd3 R U127 R Z37 ?_
 have W:=D.stp (T6 u i j d e n)
 obtain⟨cs,bS,bP⟩:=(W).gSt aI
 obtain⟨cj,cJ,ck,cK,rfl,bH,cu⟩:=Pair.un bS
 refine Jg R (Jc2 I37 R R<|hvC (λw' aa=>bP w' aa 0 _ R) R)<|Jg R (Jc4 (haC au.cells R) I216 Z216 R)<|Jg R (Jc2 I69 R R<|hvC (av.ld 1 R R) R)<|Ob h λc7 aJ h=>Jc3 R W aJ U69 Z127<|Jd3 R U127 R Z37 ?_
 obtain⟨ct,bU,bQ⟩:=(W).gSt aJ
 obtain⟨cl,cL,cm,cM,rfl,cv,bI⟩:=Pair.un bU
 refine Jg R (Jc2 I37 R R<|hvC (λw' aa=>bQ w' aa 1 _ R) R)<|Ob h λI b0 h=>?_
 have aw:=(bx.mx (bX _) F R (R:7+2=9)).stp (T5 i j d e n)
 have ax:=(bz.mx (bX _) F R (R:7+3=10)).stp (T5 i j d e n)
 have ay:=aE.stp (T5 i j d e n)
 have az:=(bB.mx (cD (bX _) _) F R (R:7+5=12)).stp (T5 i j d e n)
 refine Jr3 R C206 (oa (κ:=Mk K) (p0:=H.1) (Ji3 aw.rdc) (Ji3 ax.rdc) (Ji3 ay.rdc) (Ji3 az.rdc) (Ji3 bH) b0) ?_
 rintro _ cP ⟨cB,V,T,rfl,bk,bq⟩
 obtain⟨aT,o,b3⟩:=Ji bk 15 R
 refine⟨(o.cl R),Ob h λJ b1 h=>Jr3 R C206 (oa (κ:=Mk aT) (p0:=H.1) (Ji3 (aw.stp o).rdc) (Ji3 (ax.stp o).rdc) (Ji3 (ay.stp o).rdc) (Ji3 (az.stp o).rdc) (Ji3<|bI.stp o) b1) ?_⟩
 rintro _ aQ ⟨cC,U,S,rfl,bl,br⟩
 obtain⟨M,x,b4⟩:=Ji bl 18 R
 have P:=(o.tr x)
 refine⟨(P.cl R),Jf R (Ji4 [.slice V I.length T,.slice U J.length S] R)<|Jw3 (κ:=M) (E:=Pair.ep127) 21 [17,20] (parts:=[(0,.tmp 61)]) (cells:=[.slice V I.length T,.slice U J.length S]) (xs:=([(⟨I,J⟩:Pair)]:List Pair)) R Y69 cA R (Je4 ⟨[.slice V I.length T],[.slice U J.length S],Zl M aQ [17],Zl M aQ [20],R,Zl.sp (l1:=[17]) (l2:=[20]) R,Zl.sr (l1:=[17]) (l2:=[20]),⟨_,_,R,((bq.mx (bX _) b3 R (R:15+2=17)).stp x)⟩,⟨_,_,R,(br.mx (bX _) b4 R (R:18+2=20))⟩⟩) λce cc cQ aU y bs=>⟨((P.tr y).cl R),Ob h λb8 b2 h=>Jy3 (κ:=aU) (E:=Pair.ep127) 14 [21] R Y69 cA R (ap.stp<|T4 n o x y) bs.src (cZ R) b2 R λbf bj cR aV ae bt=>⟨((T3 P y ae).cl R),Jn 1 R<|Jt1<|Jo<|Jz<|Jp<|Jf3 R ?_⟩⟩⟩
 have bV:cb .i64 (m+1)=m+1:=wr1 bO (Jm2 s) bN
 rw[bV]
 have s:=Jm2 s
 cases h
 exact Jz1 λa ha=>⟨k,_,Ja3 _,⟨aV,m+1,b8,bf,bj,R,(T6 e n o x y ae).wk R,bt,by omega,by omega,Z⟩,(ha.mm R)⟩
 rintro _ c4 ⟨a3,G,z,C,rfl,Q,bp,rfl⟩
 have h:=yI bM
 refine Jp<|Je [2,1,2,2,2,2] R<|Jd3 R U216 R Z31<|Jb3 R I31 ((aF.stp<|d.tr Q).ld 2 R R)<|Jb 4 R<|Ju<|Ja2 (l:=[.tmp 6,.tmp 7,.tmp 8]) V146 (Jp2 R<|Jp2 R<|Jp2 R R) R ?_
 cases h
 exact⟨(λb=>ren [(11,2),(14,3)]<|a3 b),bi,a9,z,C,R,((hE.stp<|T10 q p f c g u i j d Q).map (ren [(11,2),(14,3)]) R R),((aE.stp<|T4 i j d Q).map (ren [(11,2),(14,3)]) R R),(bp.map (ren [(11,2),(14,3)]) R R)⟩
 refine JT λh=>Jx R<|Je [1,1,2,2,2] R<|Jx3 (κ:=N) (E:=(Ep.own E6 2)) 14 R Y31 bT R λar a7 c1 a1 a6 bE=>Tv<|Jx3 (κ:=a1) (E:=Pair.ep127) 15 R Y69 cA R λbb bh c2 a2 ag bF=>Tv<|Jb 3 R<|Ju<|Jw<|Ja2 (l:=[.tmp 6,.tmp 7,.tmp 8]) V146 (Jp2 R<|Jp2 R<|Jp2 R R) R ?_
 cases h
 exact⟨(λb=>ren [(14,2),(15,3)]<|a2 b),ar,a7,bb,bh,R,((hE.stp<|T10 q p f c g u i j a6 ag).map (ren [(14,2),(15,3)]) R R),((bE.stp ag).map (ren [(14,2),(15,3)]) R R),(bF.map (ren [(14,2),(15,3)]) R R)⟩
 refine JT λh=>Jx R<|Je [1,1,2,2,2] R<|Jx3 (κ:=ac) (E:=(Ep.own E6 2)) 7 R Y31 bT R λbg be cU aX a5 bv=>Tv<|Jx3 (κ:=aX) (E:=Pair.ep127) 8 R Y69 cA R λa8 bd cV aY af bw=>Tv<|Jb 3 R<|Ju<|Jw<|Ja2 (l:=[.tmp 6,.tmp 7,.tmp 8]) V146 (Jp2 R<|Jp2 R<|Jp2 R R) R ?_
 cases h
 exact⟨(λb=>ren [(7,2),(8,3)]<|aY b),bg,be,a8,bd,R,((hE.stp<|T7 q p f c g a5 af).map (ren [(7,2),(8,3)]) R R),((bv.stp af).map (ren [(7,2),(8,3)]) R R),(bw.map (ren [(7,2),(8,3)]) R R)⟩
end Go.Proofs.YtleekpaohfpooaaGreat
