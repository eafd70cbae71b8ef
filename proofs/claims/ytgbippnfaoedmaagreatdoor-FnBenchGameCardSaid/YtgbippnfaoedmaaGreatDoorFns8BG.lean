/- The walks, part 8. By program. -/
import Derived.Test.YtgbippnfaoedmaaGreatDoorFns7BG
set_option linter.unusedVariables false
set_option linter.unusedSimpArgs false
open Int renaming toNat → zq
open Go.Wk.Ow renaming nil → zC
namespace Go.Proofs.YtgbippnfaoedmaaGreatDoor
open Tryz
open Go Go.Wk Go.Proofs
set_option maxRecDepth 100000
set_option maxHeartbeats 1000000
section
variable {w:World}{J:Col}
theorem rQ {ac X Z ab Y aa}{p0:Parity}(a4:Rd Ri J w 0 ac X p0.Arena.Owner) (a5:Rd Rs J w 0 Z ab p0.Arena.Next) (a6:Rd Ri J w 0 Y aa p0.Prio){r:Answer}(h:ky p0=some r):Ret prog 8 [.agg #[.slice ac p0.Arena.Owner.length X,.slice Z p0.Arena.Next.length ab,.slice Y p0.Prio.length aa]] w (λba e=>∃(f:Col) (am:Option Addr) (ao:Nat) (an:Option Addr) (ap:Nat),ba= .agg #[.slice am r.Won.length ao,.slice an r.Plan.length ap]/\Ent J w f e/\Oc E6 2 f e 2 am ao r.Won/\Oc E6 2 f e 3 an ap r.Plan):=by
 unfold ky at h
 refine Jp3 J func8 R ntmps8 R λah=>Jj3<|Jx3 J 2 R λbd bn au o aU=>Tv<|Jy3 au 3 R X36 R λbe bx aw m af=>Tv<|Jd<|Jq<|Jj3 ?_
 have ag:=aU.stp m
 refine Jg4 tv R (Jh4 (haE ag.cells) I32 Z32 R)<|Ob h λbc a7 h=>?_
 have G:=a4.stp (o.tr m)
 have H:=a5.stp (o.tr m)
 have I:=a6.stp (o.tr m)
 refine Jw3 R call14 (jl (J:=Mk aw) (p0:=p0) (Jn3 G) (Jn3 H) (Jn3 I) a7) ?_
 rintro _ bb ⟨bh,rfl,aE⟩
 obtain⟨j,c,bm⟩:=Ji aE 4 R
 refine Tv<|Jb 1 R ?_
 revert h
 cases bf:(!bc)
 refine JF λh=>Jy R<|Js<|Jp<|Jq<|Ob h λbG ai h=>Ob h λK P h=>Jt3 [2] (λaq az e=>∃f b C D F E,az=(3,.pointer (some ⟨b,0,none⟩))::aq/\Stp [6,9,11,12,13] j bb f e/\Oc E6 2 f e 6 C D K.1.Won/\Oc E6 2 f e 7 F E K.1.Plan/\Bc f e 8 b 36 [.slice C K.1.Won.length D,.slice F K.1.Plan.length E]) ?_ ?_
 refine WC.rxt (J:=j) [2] none (by kernel_rfl) λbt g=>Jq1 (fuel:=8) [(1,2),(0,0),(2,0),(3,2)] (by kernel_rfl) (by kernel_rfl) R<|Je3 R U32 R Z27 ?_
 have ad:=ag.stp (c.tr g)
 refine Jg R (Jh4 (haC ad.cells R) I32 Z32 R)<|Jg R (Jd2 I27 R R<|hvC (ad.ld 2 R R) R)<|Js3 R U27 R R<|Jp1<|WA.fork2 (fuel:=7) 4 9 (by kernel_rfl) R ?_ ?_
 refine Jw3 R call18 (nk (J:=Mk j) ai) ?_
 rintro _ bu ⟨bi,aB,aC,rfl,aF,aS⟩
 obtain⟨T,a,a9⟩:=Ji aF 6 R
 refine⟨(a.cl R),?_⟩
 have ae:=aS.mx (aT _) a9 R (R:6+2=8)
 refine Jp1<|WA.fork2 (fuel:=6) 5 9 (by kernel_rfl) R ?_ ?_
 have L:=(T3 c g a)
 refine Jw3 R call17 (jm (J:=Mk T) (p0:=p0) (Jn3<|G.stp L) (Jn3<|H.stp L) (Jn3<|I.stp L) (Jn3 ae.rdc) P) ?_
 rintro _ bw ⟨bj,s,u,q,t,rfl,aG,aV,aW⟩
 obtain⟨av,y,ak⟩:=Ji aG 9 R
 exact⟨((a.tr y).cl R),Jp1<|Jq1 (fuel:=0) [(6,2),(7,2),(8,2),(9,1),(10,1),(11,2)] (by kernel_rfl) (by kernel_rfl) R<|Jn 3 R<|Jy3 av 13 R X36 R λb bz U p aX=>⟨((T3 a y p).cl R),Jm4 U 13 R Z36 R aX R λbA z aY=>⟨((T4 a y p z).cl R),Jn 1 R<|Jp1<|Jr1 [] (by kernel_rfl) (by kernel_rfl) R<|Jo<|Jw1 _ ⟨(λi=>ren [(11,6),(12,7),(13,8)]<|U i),b,s,u,q,t,R,(Jz2 ((T5 g a y p z).wk R) [(11,6),(12,7),(13,8)] R),(((aV.mx (aT _) ak R (R:9+2=11)).stp (p.tr z)).map (ren [(11,6),(12,7),(13,8)]) R R),(((aW.mx (aT _) ak R (R:9+3=12)).stp (p.tr z)).map (ren [(11,6),(12,7),(13,8)]) R R),(aY.map (ren [(11,6),(12,7),(13,8)]) R R)⟩<|KM R⟩⟩⟩
 have M:=(T3 c g a)
 refine Jy3 T 9 R X36 R λb bB ax d aZ=>⟨((a.tr d).cl R),Jp1<|Jq1 (fuel:=0) [(5,1),(6,2),(7,2),(8,2),(10,1),(11,2)] (by kernel_rfl) (by kernel_rfl) R<|Jw3 R call17 (jm (J:=Mk ax) (p0:=p0) (Jn3<|G.stp<|M.tr d) (Jn3<|H.stp<|M.tr d) (Jn3<|I.stp<|M.tr d) (Jn3 (ae.stp d).rdc) P) ?_⟩
 rintro _ bC ⟨bk,s,u,q,t,rfl,aH,a0,a1⟩
 obtain⟨V,A,al⟩:=Ji aH 10 R
 exact⟨((T3 a d A).cl R),Jn 3 R<|Jm4 V 9 R Z36 R (aZ.stp A) R λbD B a2=>⟨((T4 a d A B).cl R),Jn 1 R<|Jp1<|Jr1 [] (by kernel_rfl) (by kernel_rfl) R<|Jo<|Jw1 _ ⟨(λi=>ren [(12,6),(13,7),(9,8)]<|V i),b,s,u,q,t,R,(Jz2 ((T5 g a d A B).wk R) [(12,6),(13,7),(9,8)] R),(((a0.mx (aT _) al R (R:10+2=12)).stp B).map (ren [(12,6),(13,7),(9,8)]) R R),(((a1.mx (aT _) al R (R:10+3=13)).stp B).map (ren [(12,6),(13,7),(9,8)]) R R),(a2.map (ren [(12,6),(13,7),(9,8)]) R R)⟩<|KM R⟩⟩
 refine Jy3 j 6 R X36 R λb bE ay n a3=>⟨(n.cl R),Jp1<|Jq1 (fuel:=0) [(4,1),(5,1),(6,2),(7,2),(8,2),(10,1),(11,2)] (by kernel_rfl) (by kernel_rfl) R<|Jw3 R call18 (nk (J:=Mk ay) ai) ?_⟩
 rintro _ bF ⟨bl,aB,aC,rfl,aI,aJ⟩
 obtain⟨ar,k,a8⟩:=Ji aI 7 R
 have N:=(T4 c g n k)
 refine⟨((n.tr k).cl R),Jw3 R call17 (jm (J:=Mk ar) (p0:=p0) (Jn3<|G.stp N) (Jn3<|H.stp N) (Jn3<|I.stp N) (Jn3 (aJ.mx (aT _) a8 R (R:7+2=9)).rdc) P) ?_⟩
 rintro _ bo ⟨bg,s,u,q,t,rfl,aD,aK,aL⟩
 obtain⟨Q,v,aj⟩:=Ji aD 10 R
 exact⟨((T3 n k v).cl R),Jn 3 R<|Jm4 Q 6 R Z36 R (a3.stp<|k.tr v) R λbp x aM=>⟨((T4 n k v x).cl R),Jn 1 R<|Jp1<|Jr1 [] (by kernel_rfl) (by kernel_rfl) R<|Jo<|Jw1 _ ⟨(λi=>ren [(12,6),(13,7),(6,8)]<|Q i),b,s,u,q,t,R,(Jz2 ((T5 g n k v x).wk R) [(12,6),(13,7),(6,8)] R),(((aK.mx (aT _) aj R (R:10+2=12)).stp x).map (ren [(12,6),(13,7),(6,8)]) R R),(((aL.mx (aT _) aj R (R:10+3=13)).stp x).map (ren [(12,6),(13,7),(6,8)]) R R),(aM.map (ren [(12,6),(13,7),(6,8)]) R R)⟩<|KM R⟩⟩
 rintro _ bs ⟨S,b,C,D,F,E,rfl,W,aP,aQ,aR⟩
 refine Jp<|Jj3<|Jg4 tv R (Jh4 (haE aR.cells) I36 Z36 R)<|Jm4 S 3 R Z36 R (af.stp<|c.tr W) R λbq O aN=>Tv<|Jd<|Ju<|Jb2 (l:=[.cell 2 36]) results8 (bv R aN I36 Z36 R R) R ?_
 cases h
 exact⟨(λi=>ren [(6,2),(7,3)]<|S i),C,D,F,E,R,((ah.stp<|T5 o m c W O).map (ren [(6,2),(7,3)]) R R),((aP.stp O).map (ren [(6,2),(7,3)]) R R),((aQ.stp O).map (ren [(6,2),(7,3)]) R R)⟩
 refine JT λh=>Jx R<|Jj3<|Jf R (Jn4 [.slice none 0 0,.slice none 0 0] R)<|Jm4 j 3 R Z36 R (af.stp c) R λbr aA aO=>Tv<|Jd<|Ju<|Jw<|Jb2 (l:=[.cell 2 36]) results8 (bv R aO I36 Z36 R R) R ?_
 cases h
 exact⟨j,none,0,none,0,R,(ah.stp<|T4 o m c aA),zC,zC⟩
theorem nq {N M P S O Q}{p0:Parity}(aI:Rd Ri J w 0 N M p0.Arena.Owner) (aJ:Rd Rs J w 0 P S p0.Arena.Next) (aK:Rd Ri J w 0 O Q p0.Prio){r:VI}(h:fh p0=some r):Ret prog 178 [.agg #[.slice N p0.Arena.Owner.length M,.slice P p0.Arena.Next.length S,.slice O p0.Prio.length Q]] w (Pvs E6 2 J w r):=by
 unfold fh at h
 refine Jp3 J func178 R ntmps178 R λX=>Jj3<|Jx3 J 2 R λba bj ae g T=>Tv<|Jb 1 R<|Jq<|Jj3<|Jg4 tv R (Jh4 (haE T.cells) I32 Z32 R)<|Ob h λa1 aU h=>?_
 have U:=aI.stp g
 have V:=aJ.stp g
 have W:=aK.stp g
 refine Jw3 R call176 (fw (J:=Mk ae) (p0:=p0) (Jn3 U) (Jn3 V) (Jn3 W) aU) ?_
 rintro _ bt ⟨bf,rfl,aw⟩
 obtain⟨G,c,bg⟩:=Ji aw 3 R
 refine Tv<|Jb 1 R ?_
 revert h
 cases bb:(!a1)
 refine JF λh=>Jy R<|Js<|Jp<|Jj3<|Jc4 G E6 5 R Y27 aR R λap aY bk ad f az=>Tv<|Jb 1 R<|Jq<|Jj3<|Jg4 tv R (Jh4 (haE (T.stp<|c.tr f).cells) I32 Z32 R)<|Ob h λac aP h=>Jw3 R call212 (nA (J:=λB=>mp [] 1<|ad B) (p0:=p0) (Jm2 (U.stp<|c.tr f) (mp [] 1) R R) (Jm2 (V.stp<|c.tr f) (mp [] 1) R R) (Jm2 (W.stp<|c.tr f) (mp [] 1) R R) aP) ?_
 rintro _ ab ⟨bd,a9,a7,rfl,ax,aA⟩
 obtain⟨x,I,aW,a2⟩:=Jj ax 6 R
 refine Tv<|?_
 have C:=aA.mxz a2 aW R (R:6+2=8)
 refine Js3 R U28 R R<|Jb 1 R<|Ob h λaa aO aL=>?_
 clear h
 refine Jx1 (λe a=>∃b,∃u:VI,∃p k,e=[(3,.slice p u.length k)]/\Stp [5] x ab b a/\Oc E6 2 b a 5 p k u/\aa=Sum.inr u) ?_ ?_
 refine Jv<|Ju3 [11,12] (λi v e a=>∃b d,∃j:VI,∃q n,e=(3,.slice q j.length n)::(13,vi d)::v/\Stp [5] x ab b a/\Oc E6 2 b a 5 q n j/\0<=d/\zq ((ac.length:Int)-d)=i/\cntM (db ac) i d j=some aa) ⟨_,_,⟨x,0,([]:VI),ap,aY,R,Jo3,(az.stp I),(by decide),(by simp),aO⟩,(KM R)⟩ ?_
 rintro i _ bm ⟨H,d,j,q,n,rfl,z,D,Y,s,h⟩
 rcases i with _|i
 have t:=h;obtain⟨aX,h⟩:=exq t
 have E:=dcf s
 refine Jf3 R<|Jq<|Jx2 R E<|Jc1<|Jt<|Jt ?_
 cases h
 have h:=t
 refine Jb1 ?_
 cases h
 exact Jw1 _ ⟨H,j,q,n,R,z.wk R,D,R⟩<|KM R
 obtain⟨aX,h,t⟩:=BI h;unfold db at h
 have E:=dct s
 refine Jf3 R<|Jq<|Jw2 R E<|Js<|Jp<|Jq<|Jv<|Jj3<|Ob h λbu Z h=>Jd3 R C.rdc Z U28 Z27 ?_
 obtain⟨a8,bi,aC,aN⟩:=(C.stp z).gZ Z
 refine Jc3 R I27 aN<|Jb 1 R<|Jl3 1 R<|Ob h λa0 aQ h=>Jw3 R call213 (m9 (J:=Mk H) (Jn3 aC) aQ) ?_
 rintro _ aZ ⟨be,rfl,ay⟩
 obtain⟨y,A,bh⟩:=Ji ay 9 R
 refine Tv<|Jd<|Ob h λF h aM=>Jt3 [11,12,13] (λv e a=>∃b o m,e=(3,.slice o F.length m)::v/\Stp [5] y aZ b a/\Oc E6 2 b a 5 o m F) ?_ ?_
 revert h
 cases bc:a0
 refine JF λh=>Jy R<|Jm3 1 R<|Ji4 y 11 [0] R Y27 aR R λa5 a6 br aj L aG=>Tv<|Ob h λbw aT h=>Jd4 aj E6 5 [] R Y27 aR R (D.stp<|A.tr L) (Sl.srcP (bo _) aG.rdc) aV aT R λau av bs ak ao aH=>Tv<|Jc 1 R ?_
 cases h
 exact Jw1 _ ⟨ak,au,av,R,(L.tr ao).wk R,aH⟩<|KM R
 refine JT λh=>Jx R<|Jm3 1 R<|Ji4 y 11 [1] R Y27 aR R λa4 a3 bp ah K aE=>Tv<|Ob h λbv aS h=>Jd4 ah E6 5 [] R Y27 aR R (D.stp<|A.tr K) (Sl.srcP (bo _) aE.rdc) aV aS R λar aq bq ai an aF=>Tv<|Jc 1 R ?_
 cases h
 exact Jw1 _ ⟨ai,ar,aq,R,(K.tr an).wk R,aF⟩<|KM R
 rintro _ bn ⟨ag,o,m,rfl,am,aD⟩
 have h:=aM
 refine Jz<|Jp<|Jg3 R<|wr2 Y s C.len_le ▸ ?_
 cases h
 exact Ja2 ⟨ag,d+1,F,o,m,R,(T3 z A am).wk R,aD,nxz Y,nxm s,t⟩ R
 rintro _ bl ⟨af,u,p,k,rfl,al,aB,rfl⟩
 have h:=yI aL
 refine Jp<|Jf3 R<|Ju<|Jb2 (l:=[.tmp 2]) results178 (Jq2 R R) R ?_
 cases h
 exact⟨(λB=>ren [(5,2)]<|af B),p,k,R,((X.stp<|T5 g c f I al).map (ren [(5,2)]) R R),(aB.map (ren [(5,2)]) R R)⟩
 refine JT λh=>Jx R<|Jf3 R<|Ju<|Jw<|Jb2 (l:=[.tmp 2]) results178 (Jq2 R R) R ?_
 cases h
 exact⟨G,none,0,R,(X.stp<|g.tr c),zC⟩
theorem nr {k e g j f i}{p0:Parity}(I:Rd Ri J w 0 k e p0.Arena.Owner) (K:Rd Rs J w 0 g j p0.Arena.Next) (L:Rd Ri J w 0 f i p0.Prio){r:VI}(h:fi p0=some r):Ret prog 181 [.agg #[.slice k p0.Arena.Owner.length e,.slice g p0.Arena.Next.length j,.slice f p0.Prio.length i]] w (λU c=>∃(x:Col) (u:Option Addr) (v:Nat),U= .slice u r.length v/\Ent J w x c/\Rd Ri x c 0 u v r):=by
 unfold fi at h
 refine Jp3 J func181 R ntmps181 R λs=>Jj3<|Jx3 J 2 R λab aj y b n=>Tv<|Jb 1 R<|Jq<|Jj3<|Jg4 tv R (Jh4 (haE n.cells) I32 Z32 R)<|Ob h λW P h=>?_
 have o:=I.stp b
 have p:=K.stp b
 have q:=L.stp b
 refine Jw3 R call176 (fw (J:=Mk y) (p0:=p0) (Jn3 o) (Jn3 p) (Jn3 q) P) ?_
 rintro _ ak ⟨ag,rfl,E⟩
 obtain⟨d,a,ah⟩:=Ji E 3 R
 refine Tv<|Jb 1 R ?_
 revert h
 cases ae:(!W)
 refine JF λh=>Jy R<|Js<|Jp<|Jj3<|Jg4 tv R (Jh4 (haE (n.stp a).cells) I32 Z32 R)<|Ob h λam Q h=>Jw3 R call219 (pk (J:=Mk d) (p0:=p0) (Jn3<|o.stp a) (Jn3<|p.stp a) (Jn3<|q.stp a) Q) ?_
 rintro _ V ⟨af,Z,aa,rfl,F,G⟩
 obtain⟨z,B,S⟩:=Ji F 5 R
 refine Tv<|?_
 have m:=G.mx Stage.no261 S R (R:5+2=7)
 refine Jb 1 R<|Jl3 2 R<|Js3 R U258 R R<|Jn 1 R<|Ob h λal t h=>Jd3 R m.rdc t U258 Z261<|Je3 R U261 R Z27 ?_
 obtain⟨ac,N,M⟩:=(m.rdc).gSt t
 obtain⟨D,T,Y,ai,rfl,H,ad⟩:=Stage.un N
 refine Jc3 R I27 (λc O=>M c O 0 _ R)<|Jb 1 R<|Ju ?_
 obtain⟨A,C,X⟩:=b9 z V 7
 refine Jb2 (l:=[.tmp 2]) results181 (Jq2 R R) R ?_
 cases h
 exact⟨A,D,T,R,(s.stp<|T4 b a B C),(Sl.st X H)⟩
 refine JT λh=>Jx R<|Jf3 R<|Ju<|Jw<|Jb2 (l:=[.tmp 2]) results181 (Jq2 R R) R ?_
 cases h
 exact⟨d,none,0,R,(s.stp<|b.tr a),Sl.nil⟩
theorem rn {X Q T V S U}{p0:Parity}(aU:Rd Ri J w 0 X Q p0.Arena.Owner) (aV:Rd Rs J w 0 T V p0.Arena.Next) (aW:Rd Ri J w 0 S U p0.Prio){r:VV}(h:lY p0=some r):Ret prog 127 [.agg #[.slice X p0.Arena.Owner.length Q,.slice T p0.Arena.Next.length V,.slice S p0.Prio.length U]] w (λa9 ap=>∃(aq:Col) (an:Option Addr) (ao:Nat),a9= .slice an r.length ao/\Ent J w aq ap/\Oc (Ep.fz Rs) 27 aq ap 2 an ao r):=by
 unfold lY at h
 refine Jp3 J func127 R ntmps127 R λal=>Jj3<|Jx3 J 2 R λbi bw aw u I=>Tv<|Jb 1 R<|Jq<|Jj3<|Jg4 tv R (Jh4 (haE I.cells) I32 Z32 R)<|Ob h λbb a3 h=>?_
 have K:=aU.stp u
 have L:=aV.stp u
 have M:=aW.stp u
 refine Jw3 R call176 (fw (J:=Mk aw) (p0:=p0) (Jn3 K) (Jn3 L) (Jn3 M) a3) ?_
 rintro _ ba ⟨bs,rfl,aG⟩
 obtain⟨O,c,bt⟩:=Ji aG 3 R
 refine Tv<|Jn 2 R<|Ob h λam h aX=>Jk4 [1] 10 am O ba 4 tv ?_ ?_
 revert h
 cases bj:(!bb)
 refine JF λh=>Jg4 tv R (Jh4 (haE (I.stp c).cells) I32 Z32 R)<|Ob h λbG a4 h=>Jw3 R call177 (iJ (J:=Mk O) (p0:=p0) (Jn3<|K.stp c) (Jn3<|L.stp c) (Jn3<|M.stp c) a4) ?_
 rintro _ bz ⟨bl,rfl,aH⟩
 obtain⟨bh,aD,bu⟩:=Ji aH 5 R
 refine Tv<|Jn 2 R ?_
 cases h
 exact Jv1 _ tv ⟨R,_,aD.wk R⟩<|KM R
 refine JT λh=>Je4 R<|Je4 R<|Jn 2 R ?_
 cases h
 exact Jl4 tv R
 rintro _ bA _ ⟨rfl,E,o⟩
 have h:=aX
 refine Jd ?_
 revert h
 cases bk:am
 refine JF λh=>Jy R<|Js<|Jp<|Jq<|Js1 (J:=E) [2] none [(0,0),(2,0),(4,0),(6,0),(8,0),(1,1),(3,1),(5,1),(7,1),(9,1),(10,1),(11,2)] [] (by kernel_rfl) (by kernel_rfl) λbB v=>?_
 have z:=I.stp (T3 c o v)
 refine Jg R (Jh4 (haC z.cells R) I32 Z32 R)<|Jg R (Jh4 (haC z.cells R) I32 Z32 R)<|Jg R (Jh4 (haC z.cells R) I32 Z32 R)<|Jg R (Jh4 (haC z.cells R) I32 Z32 R)<|Jg R (Jh4 (haC z.cells R) I32 Z32 R)<|Ob h λN aY h=>?_
 have Z:=K.stp (T3 c o v)
 have aa:=L.stp (T3 c o v)
 have ab:=M.stp (T3 c o v)
 refine Jw3 R call90 (mf (J:=Mk E) (p0:=p0) (Jn3 Z) (Jn3 aa) (Jn3 ab) aY) ?_
 rintro _ bC ⟨bm,W,Y,rfl,aI,aO⟩
 obtain⟨ax,d,a5⟩:=Ji aI 5 R
 refine⟨(d.cl R),Ob h λD aZ h=>?_⟩
 have ac:=Z.stp d
 have ad:=aa.stp d
 have ae:=ab.stp d
 refine Jw3 R call178 (nq (J:=Mk ax) (p0:=p0) (Jn3 ac) (Jn3 ad) (Jn3 ae) aZ) ?_
 rintro _ bD ⟨bn,F,G,rfl,aJ,aP⟩
 obtain⟨ay,e,a6⟩:=Ji aJ 8 R
 refine⟨((d.tr e).cl R),Ob h λA a0 h=>?_⟩
 have af:=ac.stp e
 have ag:=ad.stp e
 have ah:=ae.stp e
 refine Jw3 R call179 (o0 (J:=Mk ay) (p0:=p0) (Jn3 af) (Jn3 ag) (Jn3 ah) a0) ?_
 rintro _ bE ⟨bo,C,B,rfl,aK,aQ⟩
 obtain⟨az,f,a7⟩:=Ji aK 11 R
 refine⟨((T3 d e f).cl R),Ob h λt a1 h=>?_⟩
 have ai:=af.stp f
 have aj:=ag.stp f
 have ak:=ah.stp f
 refine Jw3 R call180 (nm (J:=Mk az) (p0:=p0) (Jn3 ai) (Jn3 aj) (Jn3 ak) a1) ?_
 rintro _ bF ⟨bp,y,x,rfl,aL,aR⟩
 obtain⟨aA,g,a8⟩:=Ji aL 14 R
 refine⟨((T4 d e f g).cl R),Ob h λj a2 h=>Jw3 R call181 (nr (J:=λH=>mp [] 1<|aA H) (p0:=p0) (Jm2 (ai.stp g) (mp [] 1) R R) (Jm2 (aj.stp g) (mp [] 1) R R) (Jm2 (ak.stp g) (mp [] 1) R R) a2) ?_⟩
 rintro _ a ⟨bq,s,q,rfl,aM,aS⟩
 obtain⟨aB,i,bv,bf⟩:=Jj aM 17 R
 refine⟨((T5 d e f g i).cl R),?_⟩
 obtain⟨aC,p,bg⟩:=b9 aB a 7
 obtain⟨ar,k,bc⟩:=b9 aC a 10
 obtain⟨au,m,bd⟩:=b9 ar a 13
 obtain⟨b,n,be⟩:=b9 au a 16
 refine Jb4 b (Ep.fz<|Rs) 20 [] (parts:=[(0,.tmp 12),(1,.tmp 14),(2,.tmp 16),(3,.tmp 18),(4,.tmp 20)]) (cells:=[.slice W N.length Y,.slice F D.length G,.slice C A.length B,.slice y t.length x,.slice s j.length q]) (xs:=([N,D,A,t,j]:VV)) R Y28 br R ⟨[.slice W N.length Y],[.slice F D.length G,.slice C A.length B,.slice y t.length x,.slice s j.length q],Zl b a [],Zl b a [],R,Zl.sp (l1:=[]) (l2:=[]) R,Zl.sr (l1:=[]) (l2:=[]),⟨_,_,R,(Sl.z1 ((Sl.st bg ((aO.mx (aT _) a5 R (R:5+2=7)).stp (T4 e f g i)).rdc).stp (T3 k m n)))⟩,⟨[.slice F D.length G],[.slice C A.length B,.slice y t.length x,.slice s j.length q],Zl b a [],Zl b a [],R,Zl.sp (l1:=[]) (l2:=[]) R,Zl.sr (l1:=[]) (l2:=[]),⟨_,_,R,(Sl.z1 ((Sl.st bc ((aP.mx (aT _) a6 R (R:8+2=10)).stp (T4 f g i p)).rdc).stp (m.tr n)))⟩,⟨[.slice C A.length B],[.slice y t.length x,.slice s j.length q],Zl b a [],Zl b a [],R,Zl.sp (l1:=[]) (l2:=[]) R,Zl.sr (l1:=[]) (l2:=[]),⟨_,_,R,(Sl.z1 ((Sl.st bd ((aQ.mx (aT _) a7 R (R:11+2=13)).stp (T4 g i p k)).rdc).stp n))⟩,⟨[.slice y t.length x],[.slice s j.length q],Zl b a [],Zl b a [],R,Zl.sp (l1:=[]) (l2:=[]) R,Zl.sr (l1:=[]) (l2:=[]),⟨_,_,R,(Sl.z1<|Sl.st be ((aR.mx (aT _) a8 R (R:14+2=16)).stp (T4 i p k m)).rdc)⟩,⟨[.slice s j.length q],[],Zl b a [],Zl b a [],R,Zl.sp (l1:=[]) (l2:=[]) R,Zl.sr (l1:=[]) (l2:=[]),⟨_,_,R,(Sl.z1 ((aS.mx bf).stp (T4 p k m n)))⟩,R⟩⟩⟩⟩⟩ λaE aF bx av P aN=>⟨((T10 d e f g i p k m n P).cl R),Jn 1 R<|Jt1<|Jd<|Ju<|Jb2 (l:=[.tmp 2]) results127 (Jq2 R R) R ?_⟩
 cases h
 exact⟨(λH=>ren [(20,2)]<|av H),aE,aF,R,((al.stp<|T14 u c o v d e f g i p k m n P).map (ren [(20,2)]) R R),(aN.map (ren [(20,2)]) R R)⟩
 refine JT λh=>Jx R<|Jf3 R<|Ju<|Jw<|Jb2 (l:=[.tmp 2]) results127 (Jq2 R R) R ?_
 cases h
 exact⟨E,none,0,R,(al.stp<|T3 u c o),zC⟩
theorem pW {B v y A x z}{p0:Parity}(W:Rd Ri J w 0 B v p0.Arena.Owner) (X:Rd Rs J w 0 y A p0.Arena.Next) (Y:Rd Ri J w 0 x z p0.Prio){r:Bool}(h:jr p0=some r):Ret prog 77 [.agg #[.slice B p0.Arena.Owner.length v,.slice y p0.Arena.Next.length A,.slice x p0.Prio.length z]] w (Pvb J w r):=by
 unfold jr at h
 refine Jp3 J func77 R ntmps77 R λC=>Jj3<|Jx3 J 2 R λam av L b V=>Tv<|Jb 1 R<|Jj3<|Jg4 tv R (Jh4 (haE V.cells) I32 Z32 R)<|Ob h λK ad h=>Jw3 R call127 (rn (J:=λO=>mp [] 1<|L O) (p0:=p0) (Jm2 (W.stp b) (mp [] 1) R R) (Jm2 (X.stp b) (mp [] 1) R R) (Jm2 (Y.stp b) (mp [] 1) R R) ad) ?_
 rintro _ I ⟨ap,aj,ai,rfl,P,S⟩
 obtain⟨i,t,ae,ah⟩:=Jj P 3 R
 refine Tv<|?_
 have k:=S.mxz ah ae R (R:3+2=5)
 refine Jb 1 R<|Jq<|Jl3 1 R<|Js3 R U28 R R<|Jb 1 R<|Ob h λH ab D=>?_
 clear h
 refine Jt3 [3] (λg j o=>∃p,j=g/\Stp [] i I p o/\H=Sum.inr ()) ?_ ?_
 refine Jv<|Ju3 [3,8,9] (λd g j o=>∃p a,j=(10,vi a)::g/\Stp [] i I p o/\0<=a/\zq ((K.length:Int)-a)=d/\cntM (dW K) d a ()=some H) ⟨_,_,⟨i,0,R,Jo3,(by decide),(by simp),ab⟩,(KM R)⟩ ?_
 rintro d _ ax ⟨q,a,rfl,e,E,f,h⟩
 rcases d with _|d
 have c:=h;obtain⟨af,h⟩:=exq c
 have n:=dcf f
 refine Jf3 R<|Jq<|Jx2 R n<|Jc1<|Jt<|Jt ?_
 cases h
 have h:=c
 refine Jb1 ?_
 cases h
 exact Jw1 _ ⟨q,R,e.wk R,R⟩<|KM R
 obtain⟨af,h,c⟩:=BI h;unfold dW at h
 have n:=dct f
 refine Jf3 R<|Jq<|Jw2 R n<|Js<|Jp<|Jq<|Jv<|Jj3<|Ob h λaz F h=>Jd3 R k.rdc F U28 Z27 ?_
 have m:=k.stp e
 obtain⟨ak,ar,T,Z⟩:=m.gZ F
 refine Jc3 R I27 Z<|Jb 1 R<|Jl3 2 R<|Ob h λaA G h=>Jd3 R m.rdc G U28 Z27 ?_
 obtain⟨al,au,U,aa⟩:=m.gZ G
 refine Jc3 R I27 aa<|Ob h λag ac h=>Jw3 R call128 (fb (J:=Mk q) (Jn3 T) (Jn3 U) ac) ?_
 rintro _ ay ⟨ao,rfl,Q⟩
 obtain⟨s,u,aq⟩:=Ji Q 6 R
 refine Tv<|Jb 1 R ?_
 revert h
 cases an:(!ag)
 refine JF λh=>Jy R<|Js<|Jz<|Jp<|Jg3 R<|wr2 E f k.len_le ▸ ?_
 cases h
 exact Ja2 ⟨s,a+1,R,(e.tr u).wk R,nxz E,nxm f,c⟩ R
 refine JT λh=>Jx R<|Jf3 R<|Ju<|Ja1<|Jw<|Jw ?_
 cases h
 obtain rfl:=Option.some.inj c
 have h:=yL D
 refine Ja1<|Jr2<|Jw<|Jb2 (l:=[.tmp 2]) results77 (Jq2 R R) R ?_
 cases h
 exact⟨s,R,(C.stp<|T4 b t e u)⟩
 rintro _ aw ⟨M,rfl,N,rfl⟩
 have h:=yI D
 refine Jp<|Jl3 1 R<|Js3 R U28 R R<|Jb 2 R<|Ju<|Jb2 (l:=[.tmp 2]) results77 (Jq2 R R) R ?_
 cases h
 exact⟨M,R,(C.stp<|T3 b t N)⟩
theorem mJ {aa ab ac ad ae ai ah af} {p0 : bench} {p1 : ByteArray} {b0} (g0_1 : Rd Clause.rp J w 0 aa ab p0.clauses) (g0_2_0_0 : Rd Ri J w 0 ac ad p0.game.Arena.Owner) (g0_2_0_1 : Rd Rs J w 0 ae ai p0.game.Arena.Next) (g0_2_1 : Rd Ri J w 0 ah af p0.game.Prio) (gb0 : Bc J w 0 b0 58 [vi p0.sig.In, vi p0.sig.Out, .slice aa p0.clauses.length ab, .slice ac p0.game.Arena.Owner.length ad, .slice ae p0.game.Arena.Next.length ai, .slice ah p0.game.Prio.length af]) (gGE0 : Rd Rp.str J w 0 (some ⟨0, 0, none⟩) 2 ec) (gGM : Vm 2 J w) (gGT : Tb prog "internal/strconv.uint64pow10" .u64 Lib.pow10Tab J w) {r : ByteArray} (h : bX p0 p1 = some r) : Ret prog 40 [.pointer (some ⟨b0, 0, none⟩), .string p1] w (fun v w' => ∃ (κ' : Col), v = .string r ∧ Ent J w κ' w') := by
 unfold bX at h
 refine Jp3 J func40 R ntmps40 R λhE=>Jf3 R<|Jq<|Jf3 R<|Jv<|Jj3<|Jf R (bJ R R R)<|Jb 1 R ?_
 revert h
 cases ht1:(eqB p1 (ByteArray.mk #[119,105,110,115]))
 refine JF λh=>Jy R<|Jj3<|Jf R (bJ R R R)<|Jb 1 R ?_
 revert h
 cases ht2:(eqB p1 (ByteArray.mk #[115,116,97,116,101,115]))
 refine JF λh=>Jy R<|Jj3<|Jf R (bJ R R R)<|Jb 1 R ?_
 revert h
 cases ht3:(eqB p1 (ByteArray.mk #[109,97,99,104,105,110,101]))
 refine JF λh=>Jy R<|Jj3<|Jf R (bJ R R R)<|Jb 1 R ?_
 revert h
 cases ht4:(eqB p1 (ByteArray.mk #[99,104,101,99,107,115]))
 refine JF λh=>Jy R<|Jj3<|Jf R (bJ R R R)<|Jb 1 R ?_
 revert h
 cases ht5:(eqB p1 (ByteArray.mk #[99,111,117,110,116,101,114]))
 refine JF λh=>Jy R<|Jj3<|Jf R (bJ R R R)<|Jb 1 R ?_
 revert h
 cases ht6:(eqB p1 (ByteArray.mk #[115,111,108,118,101]))
 refine JF λh=>Jy R<|Jj3<|Jf R (bJ R R R)<|Jb 1 R ?_
 revert h
 cases ht15:(eqB p1 (ByteArray.mk #[119,97,121,115]))
 refine JF λh=>Jy R<|Jj3<|Jf R (bJ R R R)<|Jb 1 R ?_
 revert h
 cases ht44:(eqB p1 (ByteArray.mk #[99,108,101,97,114]))
 refine JF λh=>Jy R<|Js<|Jz<|Jp<|Jf3 R<|Ju<|Jb2 (l:=[.tmp 4]) results40 (Jq2 R R) R ?_
 cases h
 exact⟨J,R,hE⟩
 exact JT λh=>Jx R<|Jq<|nomatch h
 refine JT λh=>Jx R<|Jq<|Jl3 1 R<|Jf R (bh R R)<|Je3 R U58 R Z32<|Jg4 tv R (Jh4 (haE<|gb0.lds 3 3 R) I32 Z32 R)<|Ob h λx130 hx130 h=>Jw3 R call76 (gw (J:=Mk J) (p0:=p0.game) (Jn3 g0_2_0_0) (Jn3 g0_2_0_1) (Jn3 g0_2_1) hx130) ?_
 rintro _ w16 ⟨k17,rfl,e18⟩
 obtain⟨K19,S20,m21⟩:=Ji e18 2 R
 refine Tv<|Jb 1 R ?_
 revert h
 cases ht23:(!x130)
 refine JF λh=>Jy R<|Js<|Jp<|Jl3 1 R<|Jf R (bh R R)<|Je3 R U58 R Z32<|Jg4 tv R (Jh4 (haE ((gb0.stp S20).lds 3 3 R)) I32 Z32 R)<|Ob h λx136 hx136 h=>Jw3 R call77 (pW (J:=Mk K19) (p0:=p0.game) (Jn3<|g0_2_0_0.stp S20) (Jn3<|g0_2_0_1.stp S20) (Jn3<|g0_2_1.stp S20) hx136) ?_
 rintro _ w29 ⟨k30,rfl,e31⟩
 obtain⟨K32,S33,m34⟩:=Ji e31 4 R
 refine Tv<|Ob h λx137 hx137 h=>Jw3 R call72 (sx (J:=Mk K32) hx137) ?_
 rintro _ w36 ⟨k37,rfl,e38⟩
 obtain⟨K39,S40,m41⟩:=Ji e38 6 R
 refine Tv<|Jb 1 R<|Ju<|Ja1<|Jw<|Jb2 (l:=[.tmp 4]) results40 (Jq2 R R) R ?_
 cases h
 exact⟨K39,R,(hE.stp<|T3 S20 S33 S40)⟩
 refine JT λh=>Jx R<|Jf3 R<|Ju<|Jw<|Ja1<|Jw<|Jb2 (l:=[.tmp 4]) results40 (Jq2 R R) R ?_
 cases h
 exact⟨K19,R,(hE.stp S20)⟩
 refine JT λh=>Jx R<|Jl3 1 R<|Ob h λx123 hx123 h=>Jw3 R call75 (mN (J:=Mk J) (p0:=p0) (Jn3 g0_1) (Jn3 g0_2_0_0) (Jn3 g0_2_0_1) (Jn3 g0_2_1) (gb0.map (mp [] 0) R R) (gGE0.map (mp [] 0) R R) (gGT.map (mp [] 0) R R) hx123) ?_
 rintro _ w7 ⟨k8,rfl,e9⟩
 obtain⟨K10,S11,m12⟩:=Ji e9 2 R
 refine Tv<|Jb 1 R<|Ju<|Ja1<|Jw<|Jb2 (l:=[.tmp 4]) results40 (Jq2 R R) R ?_
 cases h
 exact⟨K10,R,(hE.stp S11)⟩
 exact JT λh=>Jx R<|Jq<|nomatch h
 exact JT λh=>Jx R<|Jq<|nomatch h
 exact JT λh=>Jx R<|Jq<|nomatch h
 exact JT λh=>Jx R<|Jq<|nomatch h
 exact JT λh=>Jx R<|Jq<|Jq<|nomatch h
theorem n8 {ah ai aa ab ac af ae ad} {p0 : bench} {p1 : ByteArray} {b0} (g0_1 : Rd Clause.rp J w 0 ah ai p0.clauses) (g0_2_0_0 : Oc E6 2 J w 2 aa ab p0.game.Arena.Owner) (g0_2_0_1 : Oc (Ep.fz Rs) 27 J w 3 ac af p0.game.Arena.Next) (g0_2_1 : Oc E6 2 J w 4 ae ad p0.game.Prio) (gb0 : Bc J w 5 b0 58 [vi p0.sig.In, vi p0.sig.Out, .slice ah p0.clauses.length ai, .slice aa p0.game.Arena.Owner.length ab, .slice ac p0.game.Arena.Next.length af, .slice ae p0.game.Prio.length ad]) (gGE0 : Rd Rp.str J w 0 (some ⟨0, 0, none⟩) 2 ec) (gGE1 : Rd Rp.str J w 0 (some ⟨1, 0, none⟩) 7 nN) (gGM : Vm 2 J w) (gGT : Tb prog "internal/strconv.uint64pow10" .u64 Lib.pow10Tab J w) {r : ByteArray × VI × VV × VI} (h : cE p0 p1 = some r) : Ret prog 21 [.pointer (some ⟨b0, 0, none⟩), .string p1] w (fun v w' => ∃ (κ' : Col) (ma0 : Option Addr) (mu0 : Nat) (ma1 : Option Addr) (mu1 : Nat) (ma2 : Option Addr) (mu2 : Nat), v = .string r.1 ∧ Ent J w κ' w' ∧ Oc E6 2 κ' w' 2 ma0 mu0 r.2.1 ∧ Oc (Ep.fz Rs) 27 κ' w' 3 ma1 mu1 r.2.2.1 ∧ Oc E6 2 κ' w' 4 ma2 mu2 r.2.2.2 ∧ Bc κ' w' 5 b0 58 [vi p0.sig.In, vi p0.sig.Out, .slice ah p0.clauses.length ai, .slice ma0 r.2.1.length mu0, .slice ma1 r.2.2.1.length mu1, .slice ma2 r.2.2.2.length mu2]) := by
 unfold cE at h
 refine Jp3 J func21 R ntmps21 R λhE=>Jf3 R<|Jl3 1 R<|Ob h λx13 hx13 h=>Jw3 R call19 (gu (J:=Mk J) (gGM.map (mp [] 0) R R) hx13) ?_
 rintro _ w1 ⟨k2,aq,ap,rfl,e3,f4⟩
 obtain⟨K5,S6,m7⟩:=Ji e3 6 R
 refine Tv<|?_
 have f9:=f4.mx qe m7 R (R:6+2=8)
 refine Jb 1 R<|Jl3 2 R<|Ob h λx16 hx16 h=>Jd3 R f9.rdc hx16 U38 Z9<|Jc3 R I9 (f9.rdc.gStr hx16)<|Ob h λx18 hx18 h=>Jf R (cc R R R hx18)<|Ob h λx19 hx19 h=>Jw3 R call37 (j8 (J:=Mk K5) hx19) ?_
 rintro _ w10 ⟨k11,rfl,e12⟩
 obtain⟨K13,S14,m15⟩:=Ji e12 9 R
 refine Tv<|Jb 1 R<|Jq<|Jv<|Jl3 1 R<|Ob h λx22 hx22 h=>Jd3 R f9.rdc hx22 U38 Z9 ?_
 have f17:=f9.stp S14
 refine Jc3 R I9 (f17.rdc.gStr hx22)<|Jf R (bJ R R R)<|Jn 1 R<|Ob h λp29 h hK18=>Jk4 [0,1,5,6] 29 p29 K13 w10 4 tv ?_ ?_
 revert h
 cases ht19:(eqB x22 (ByteArray.mk #[99,108,97,117,115,101]))
 refine JF λh=>Jn 4 R ?_
 cases h
 exact Jl4 tv R
 refine JT λh=>Jn 1 R<|Js3 R U38 R R<|Jn 2 R ?_
 cases h
 exact Jl4 tv R
 rintro _ w20 _ ⟨rfl,K21,S22⟩
 have h:=hK18
 refine Jb 1 R ?_
 revert h
 cases ht23:p29
 refine JF λh=>Jy R<|Jl3 1 R<|Ob h λx35 hx35 h=>Jd3 R f17.rdc hx35 U38 Z9 ?_
 have f24:=f17.stp S22
 refine Jc3 R I9 (f24.rdc.gStr hx35)<|Jf R (bJ R R R)<|Jn 1 R<|Ob h λp42 h hK25=>Jk4 [0,1,5,6] 42 p42 K21 w20 4 tv ?_ ?_
 revert h
 cases ht26:(eqB x35 (ByteArray.mk #[118,101,114,116,101,120]))
 refine JF λh=>Jn 4 R ?_
 cases h
 exact Jl4 tv R
 refine JT λh=>Jn 1 R<|Js3 R U38 R R<|Jn 2 R ?_
 cases h
 exact Jl4 tv R
 rintro _ w27 _ ⟨rfl,K28,S29⟩
 have h:=hK25
 refine Jb 1 R ?_
 revert h
 cases ht30:p42
 refine JF λh=>Jy R<|Jl3 1 R<|Js3 R U38 R R<|Jb 2 R ?_
 revert h
 cases ht55:((x13.length:Int)==1)
 refine JF λh=>Jy R<|Jl3 1 R<|Js3 R U38 R R<|Jn 2 R<|Ob h λp62 h hK76=>Jk4 [0,5] 62 p62 K28 w27 5 tv ?_ ?_
 revert h
 cases ht77:((x13.length:Int)==2)
 refine JF λh=>Jn 2 R<|Je4 R<|Jn 2 R ?_
 cases h
 exact Jl4 tv R
 refine JT λh=>Jn 1 R<|Ob h λx59 hx59 h=>Jd3 R f24.rdc hx59 U38 Z9<|Jc3 R I9 ((f24.stp S29).rdc.gStr hx59)<|Jf R (bJ R R R)<|Jn 1 R ?_
 cases h
 exact Jl4 tv R
 rintro _ w79 _ ⟨rfl,K80,S81⟩
 have h:=hK76
 refine Jb 1 R ?_
 revert h
 cases ht82:p62
 refine JF λh=>Jy R<|Jl3 1 R<|Js3 R U38 R R<|Jn 2 R<|Ob h λp77 h hK83=>Jk4 [0,5] 77 p77 K80 w79 5 tv ?_ ?_
 revert h
 cases ht84:((x13.length:Int)==2)
 refine JF λh=>Jn 2 R<|Je4 R<|Jn 2 R ?_
 cases h
 exact Jl4 tv R
 refine JT λh=>Jn 1 R<|Ob h λx74 hx74 h=>Jd3 R f24.rdc hx74 U38 Z9<|Jc3 R I9 ((f24.stp<|S29.tr S81).rdc.gStr hx74)<|Jf R (bJ R R R)<|Jn 1 R ?_
 cases h
 exact Jl4 tv R
 rintro _ w86 _ ⟨rfl,K87,S88⟩
 have h:=hK83
 refine Jb 1 R ?_
 revert h
 cases ht89:p77
 refine JF λh=>Jy R<|Jl3 1 R<|Js3 R U38 R R<|Jn 2 R<|Ob h λp92 h hK90=>Jk4 [0,5] 92 p92 K87 w86 5 tv ?_ ?_
 revert h
 cases ht91:((x13.length:Int)==3)
 refine JF λh=>Jn 2 R<|Je4 R<|Jn 2 R ?_
 cases h
 exact Jl4 tv R
 refine JT λh=>Jn 1 R<|Ob h λx89 hx89 h=>Jd3 R f24.rdc hx89 U38 Z9<|Jc3 R I9 ((f24.stp<|T3 S29 S81 S88).rdc.gStr hx89)<|Jf R (bJ R R R)<|Jn 1 R ?_
 cases h
 exact Jl4 tv R
 rintro _ w93 _ ⟨rfl,K94,S95⟩
 have h:=hK90
 refine Jb 1 R ?_
 revert h
 cases ht96:p92
 refine JF λh=>Jy R<|Jl3 1 R<|Js3 R U38 R R<|Jn 2 R<|Ob h λp137 h hK97=>Jk4 [0,5] 137 p137 K94 w93 5 tv ?_ ?_
 revert h
 cases ht98:((x13.length:Int)==3)
 refine JF λh=>Jn 2 R<|Je4 R<|Jn 2 R ?_
 cases h
 exact Jl4 tv R
 refine JT λh=>Jn 1 R<|Ob h λx134 hx134 h=>Jd3 R f24.rdc hx134 U38 Z9<|Jc3 R I9 ((f24.stp<|T4 S29 S81 S88 S95).rdc.gStr hx134)<|Jf R (bJ R R R)<|Jn 1 R ?_
 cases h
 exact Jl4 tv R
 rintro _ w100 _ ⟨rfl,K101,S102⟩
 have h:=hK97
 refine Jb 1 R ?_
 revert h
 cases ht103:p137
 refine JF λh=>Jy R<|Jl3 1 R<|Js3 R U38 R R<|Jn 2 R<|Ob h λp155 h hK104=>Jk4 [0,5] 155 p155 K101 w100 5 tv ?_ ?_
 revert h
 cases ht105:((x13.length:Int)==3)
 refine JF λh=>Jn 2 R<|Je4 R<|Jn 2 R ?_
 cases h
 exact Jl4 tv R
 refine JT λh=>Jn 1 R<|Ob h λx152 hx152 h=>Jd3 R f24.rdc hx152 U38 Z9<|Jc3 R I9 ((f24.stp<|T5 S29 S81 S88 S95 S102).rdc.gStr hx152)<|Jf R (bJ R R R)<|Jn 1 R ?_
 cases h
 exact Jl4 tv R
 rintro _ w107 _ ⟨rfl,K108,S109⟩
 have h:=hK104
 refine Jb 1 R ?_
 revert h
 cases ht110:p155
 refine JF λh=>Jy R<|Js<|Jz<|Jp<|Jf3 R<|Ju<|Jb2 (l:=[.tmp 4]) results21 (Jq2 R R) R ?_
 cases h
 have S001:=(T9 S6 S14 S22 S29 S81 S88 S95 S102 S109)
 exact⟨K108,aa,ab,ac,af,ae,ad,R,(hE.stp S001),(g0_2_0_0.stp S001),(g0_2_0_1.stp S001),(g0_2_1.stp S001),(gb0.stp S001)⟩
 exact JT λh=>Jx R<|Jq<|nomatch h
 exact JT λh=>Jx R<|Jq<|nomatch h
 exact JT λh=>Jx R<|Jq<|nomatch h
 exact JT λh=>Jx R<|Jq<|nomatch h
 exact JT λh=>Jx R<|Jq<|nomatch h
 refine JT λh=>Jx R<|Jl3 2 R<|Ob h λx52 hx52 h=>?_
 have f57:=g0_2_0_0.stp (T4 S6 S14 S22 S29)
 have f58:=g0_2_0_1.stp (T4 S6 S14 S22 S29)
 have f59:=g0_2_1.stp (T4 S6 S14 S22 S29)
 have f60:=gb0.stp (T4 S6 S14 S22 S29)
 have S002:=(T4 S6 S14 S22 S29)
 refine Jw3 R call40 (mJ (J:=Mk K28) (p0:=p0) (Jn3<|g0_1.stp S002) (Jn3 f57.rdc) (Jn3 f58.rdc) (Jn3 f59.rdc) (f60.map (mp [] 0) R R) ((gGE0.stp S002).map (mp [] 0) R R) ((gGM.stp S002).map (mp [] 0) R R) ((gGT.stp S002).map (mp [] 0) R R) hx52) ?_
 rintro _ w64 ⟨k65,rfl,e66⟩
 obtain⟨K67,S68,m69⟩:=Ji e66 11 R
 refine Tv<|Jb 1 R<|Ju<|Ja1<|Jw<|Jb2 (l:=[.tmp 4]) results21 (Jq2 R R) R ?_
 cases h
 exact⟨K67,aa,ab,ac,af,ae,ad,R,(hE.stp<|T5 S6 S14 S22 S29 S68),(f57.stp S68),(f58.stp S68),(f59.stp S68),(f60.stp S68)⟩
 have S003:=(T4 S6 S14 S22 S29)
 refine JT λh=>Jx R<|Jl3 2 R<|Ob h λx45 hx45 h=>Jw3 R call39 (ma (J:=λb=>mp [(2,2),(3,3),(4,4),(5,5)] 1<|K28 b) (p0:=p0) (Jm2 (g0_1.stp S003) (mp [(2,2),(3,3),(4,4),(5,5)] 1) R R) ((g0_2_0_0.stp S003).map (mp [(2,2),(3,3),(4,4),(5,5)] 1) R R) ((g0_2_0_1.stp S003).map (mp [(2,2),(3,3),(4,4),(5,5)] 1) R R) ((g0_2_1.stp S003).map (mp [(2,2),(3,3),(4,4),(5,5)] 1) R R) ((gb0.stp S003).map (mp [(2,2),(3,3),(4,4),(5,5)] 1) R R) ((gGE0.stp S003).map (mp [(2,2),(3,3),(4,4),(5,5)] 1) R R) ((gGM.stp S003).map (mp [(2,2),(3,3),(4,4),(5,5)] 1) R R) ((gGT.stp S003).map (mp [(2,2),(3,3),(4,4),(5,5)] 1) R R) hx45) ?_
 rintro _ w39 ⟨k40,ao,ak,am,aj,al,an,rfl,e41,f42,f43,f44,f45⟩
 obtain⟨K46,S47,m48,z49⟩:=Jj e41 11 R
 refine Tv<|Jb 1 R<|Ju<|Ja1<|Jw<|Jb2 (l:=[.tmp 4]) results21 (Jq2 R R) R ?_
 cases h
 exact⟨(λb=>ren [(13,2),(14,3),(15,4),(16,5)]<|K46 b),ao,ak,am,aj,al,an,R,((hE.stp<|T5 S6 S14 S22 S29 S47).map (ren [(13,2),(14,3),(15,4),(16,5)]) R R),((f42.mx (aT _) m48 R (R:11+2=13)).map (ren [(13,2),(14,3),(15,4),(16,5)]) R R),((f43.mxz z49 m48 R (R:11+3=14)).map (ren [(13,2),(14,3),(15,4),(16,5)]) R R),((f44.mx (aT _) m48 R (R:11+4=15)).map (ren [(13,2),(14,3),(15,4),(16,5)]) R R),((f45.mx m48 R (R:11+5=16)).map (ren [(13,2),(14,3),(15,4),(16,5)]) R R)⟩
 exact JT λh=>Jx R<|Jq<|nomatch h
theorem su {p0 : ByteArray} (gGE0 : Rd Rp.str J w 0 (some ⟨0, 0, none⟩) 2 ec) (gGE1 : Rd Rp.str J w 0 (some ⟨1, 0, none⟩) 7 nN) (gGM : Vm 2 J w) (gGT : Tb prog "internal/strconv.uint64pow10" .u64 Lib.pow10Tab J w) {r : ByteArray} (h : lW p0 = some r) : Ret prog 11 [.string p0] w (fun v w' => ∃ (κ' : Col), v = .string r ∧ Ent J w κ' w') := by
 unfold lW at h
 refine Jp3 J func11 R ntmps11 R λhE=>Jf3 R<|Jl3 1 R<|Ob h λx9 hx9 h=>Jw3 R call20 (j9 (J:=Mk J) hx9) ?_
 rintro _ w1 ⟨k2,rfl,e3⟩
 obtain⟨K4,S5,m6⟩:=Ji e3 2 R
 refine Tv<|Ob h λx10 hx10 h=>?_
 have f8:=gGM.stp S5
 refine Jw3 R call19 (gu (J:=Mk K4) (f8.map (mp [] 0) R R) hx10) ?_
 rintro _ w9 ⟨k10,aC,aB,rfl,e11,f12⟩
 obtain⟨K13,S14,m15⟩:=Ji e11 4 R
 refine Tv<|?_
 have f17:=f12.mx qe m15 R (R:4+2=6)
 refine Jb 1 R<|Jq<|Jl3 1 R<|Jf R (jX U9 R R)<|Jn 2 R<|Ob h λp18 h hK18=>Jk4 [3] 18 p18 K13 w9 4 tv ?_ ?_
 revert h
 cases ht19:decide (4000<(p0.size:Int))
 refine JF λh=>Jn 1 R<|Js3 R U38 R R<|Jn 2 R ?_
 cases h
 exact Jl4 tv R
 refine JT λh=>Jn 4 R ?_
 cases h
 exact Jl4 tv R
 rintro _ w20 _ ⟨rfl,K21,S22⟩
 have h:=hK18
 refine Jd ?_
 revert h
 cases ht23:p18
 refine JF λh=>Jy R<|Js<|Jp<|Jj3<|Jf R (Jn4 [vi 1,vi 1] R)<|Jf R (Jn4 [vi 1,vi 1,.slice none 0 0,.slice none 0 0,.slice none 0 0,.slice none 0 0] R)<|Jx3 K21 7 R λb21 w25 K26 S27 f28=>Tv<|Jb 1 R<|Jf3 R<|Jq<|Jl3 1 R<|Js3 R U38 R R<|Jb 1 R<|Ob h λq2 hq31 hK30=>?_
 clear h
 refine Jx1 (λL w'=>∃κ',∃s3:ByteArray×VI×VV×VI,∃ar an ao aq ap au,L=[(5,.string s3.1)]/\Stp [7,8,9,10,13,14,15,16] K26 w25 κ' w'/\Oc E6 2 κ' w' 8 ar an s3.2.1/\Oc (Ep.fz<|Rs) 27 κ' w' 9 ao aq s3.2.2.1/\Oc E6 2 κ' w' 10 ap au s3.2.2.2/\Bc κ' w' 7 b21 58 [vi 1,vi 1,.slice none 0 0,.slice ar s3.2.1.length an,.slice ao s3.2.2.1.length aq,.slice ap s3.2.2.2.length au]/\q2=Sum.inr s3) ?_ ?_
 refine Jv<|Ju3 [4,22,23] (λk E L w'=>∃κ' v24,∃s1:ByteArray×VI×VV×VI,∃af ad ac aa ae ab,L=(5,.string s1.1)::(24,vi v24)::E/\Stp [7,8,9,10,13,14,15,16] K26 w25 κ' w'/\Oc E6 2 κ' w' 8 af ad s1.2.1/\Oc (Ep.fz<|Rs) 27 κ' w' 9 ac aa s1.2.2.1/\Oc E6 2 κ' w' 10 ae ab s1.2.2.2/\Bc κ' w' 7 b21 58 [vi 1,vi 1,.slice none 0 0,.slice af s1.2.1.length ad,.slice ac s1.2.2.1.length aa,.slice ae s1.2.2.2.length ab]/\0<=v24/\zq ((x10.length:Int)-v24)=k/\cntM (dG x10) k v24 s1=some q2) ⟨_,_,⟨K26,0,(((ByteArray.mk #[]):ByteArray),([]:VI),([]:VV),([]:VI)),none,0,none,0,none,0,R,Jo3,zC,zC,zC,f28,(by decide),(by simp),hq31⟩,(KM R)⟩ ?_
 rintro k _ w39 ⟨K40,v24,s1,af,ad,ac,aa,ae,ab,rfl,S41,f42,f43,f44,f45,hj29,hJ29,h⟩
 rcases k with _|k
 have hk46:=h;obtain⟨o29,h⟩:=exq hk46
 have hc29:=dcf hJ29
 refine Jf3 R<|Jq<|Jx2 R hc29<|Jc1<|Jt<|Jt ?_
 cases h
 have h:=hk46
 refine Jb1 ?_
 cases h
 exact Jw1 _ ⟨K40,(s1.1,s1.2.1,s1.2.2.1,s1.2.2.2),af,ad,ac,aa,ae,ab,R,S41.wk R,f42,f43,f44,f45,R⟩<|KM R
 obtain⟨o29,h,hk46⟩:=BI h;unfold dG at h
 have hc29:=dct hJ29
 refine Jf3 R<|Jq<|Jw2 R hc29<|Js<|Jp<|Jq<|Jv<|Jj3<|Ob h λx26 hx26 h=>Jd3 R f17.rdc hx26 U38 Z9<|Jc3 R I9 ((f17.stp<|T3 S22 S27 S41).rdc.gStr hx26)<|Jb 1 R<|Jl3 1 R<|Jf R (va R R R)<|Jd<|Ob h λq4 h hK48=>Jt3 [4,22,23,24] (λE L w'=>∃κ' ak aj am ah al ai,L=(5,.string q4.1)::E/\Stp [7,8,9,10,13,14,15,16] K40 w39 κ' w'/\Oc E6 2 κ' w' 8 ak aj q4.2.1/\Oc (Ep.fz<|Rs) 27 κ' w' 9 am ah q4.2.2.1/\Oc E6 2 κ' w' 10 al ai q4.2.2.2/\Bc κ' w' 7 b21 58 [vi 1,vi 1,.slice none 0 0,.slice ak q4.2.1.length aj,.slice am q4.2.2.1.length ah,.slice al q4.2.2.2.length ai]) ?_ ?_
 revert h
 cases ht56:(!(eqB x26 (ByteArray.mk #[])))
 refine JF λh=>Jy R<|Js ?_
 cases h
 exact Jw1 _ ⟨K40,af,ad,ac,aa,ae,ab,R,Jo3,f42,f43,f44,f45⟩<|KM R
 have S001:=(T5 S5 S14 S22 S27 S41)
 refine JT λh=>Jx R<|Jm3 3 R<|Ob h λx33 hx33 h=>Jw3 R call21 (n8 (J:=λb=>mp [(8,2),(9,3),(10,4),(7,5)] 1<|K40 b) (p0:=(⟨(⟨1,1⟩:Sig),([]:List Clause),(⟨(⟨s1.2.1,s1.2.2.1⟩:Arena),s1.2.2.2⟩:Parity)⟩:bench)) Sl.nil (f42.map (mp [(8,2),(9,3),(10,4),(7,5)] 1) R R) (f43.map (mp [(8,2),(9,3),(10,4),(7,5)] 1) R R) (f44.map (mp [(8,2),(9,3),(10,4),(7,5)] 1) R R) (f45.map (mp [(8,2),(9,3),(10,4),(7,5)] 1) R R) ((gGE0.stp S001).map (mp [(8,2),(9,3),(10,4),(7,5)] 1) R R) ((gGE1.stp S001).map (mp [(8,2),(9,3),(10,4),(7,5)] 1) R R) ((f8.stp<|T4 S14 S22 S27 S41).map (mp [(8,2),(9,3),(10,4),(7,5)] 1) R R) ((gGT.stp S001).map (mp [(8,2),(9,3),(10,4),(7,5)] 1) R R) hx33) ?_
 rintro _ w61 ⟨k62,av,ax,aw,az,ay,aA,rfl,e63,f64,f65,f66,f67⟩
 obtain⟨K68,S69,m70,z71⟩:=Jj e63 11 R
 refine Tv<|Ob h λx34 hx34 h=>Jf R (cc R R R hx34)<|Ob h λx35 hx35 h=>Jf R (cc R R R hx35)<|Jc 1 R ?_
 cases h
 exact Jw1 _ ⟨(λb=>ren [(13,8),(14,9),(15,10),(16,7)]<|K68 b),av,ax,aw,az,ay,aA,R,(Jz2 (S69.wk R) [(13,8),(14,9),(15,10),(16,7)] R),((f64.mx (aT _) m70 R (R:11+2=13)).map (ren [(13,8),(14,9),(15,10),(16,7)]) R R),((f65.mxz z71 m70 R (R:11+3=14)).map (ren [(13,8),(14,9),(15,10),(16,7)]) R R),((f66.mx (aT _) m70 R (R:11+4=15)).map (ren [(13,8),(14,9),(15,10),(16,7)]) R R),((f67.mx m70 R (R:11+5=16)).map (ren [(13,8),(14,9),(15,10),(16,7)]) R R)⟩<|KM R
 rintro _ w49 ⟨K50,ak,aj,am,ah,al,ai,rfl,S51,f52,f53,f54,f55⟩
 have h:=hK48
 refine Jz<|Jp<|Jg3 R<|wr2 hj29 hJ29 f17.len_le ▸ ?_
 cases h
 exact Ja2 ⟨K50,v24+1,(q4.1,q4.2.1,q4.2.2.1,q4.2.2.2),ak,aj,am,ah,al,ai,R,(S41.tr S51).wk R,f52,f53,f54,f55,nxz hj29,nxm hJ29,hk46⟩ R
 rintro _ w32 ⟨K33,s3,ar,an,ao,aq,ap,au,rfl,S34,f35,f36,f37,f38,rfl⟩
 have h:=yI hK30
 refine Jp<|Jf3 R<|Ju<|Jb2 (l:=[.tmp 2]) results11 (Jq2 R R) R ?_
 cases h
 exact⟨K33,R,(hE.stp<|T5 S5 S14 S22 S27 S34)⟩
 refine JT λh=>Jx R<|Jf3 R<|Ju<|Jw<|Jb2 (l:=[.tmp 2]) results11 (Jq2 R R) R ?_
 cases h
 exact⟨K21,R,(hE.stp<|T3 S5 S14 S22)⟩
theorem mP {a0 u0} {p0 : VI} (g0 : Rd (Rp.int .u8) J w 0 a0 u0 p0) (gGE0 : Rd Rp.str J w 0 (some ⟨0, 0, none⟩) 2 ec) (gGE1 : Rd Rp.str J w 0 (some ⟨1, 0, none⟩) 7 nN) (gGM : Vm 2 J w) (gGT : Tb prog "internal/strconv.uint64pow10" .u64 Lib.pow10Tab J w) {r : Bool} (h : gz p0 = some r) : Ret prog 3 [.slice a0 p0.length u0] w (Pvb J w r) := by
 unfold gz at h
 refine Jp3 J func3 R ntmps3 R λhE=>Jf3 R<|Jq<|Jl3 1 R<|Ob h λx13 hx13 h=>Jw3 R call4 (uK (J:=Mk J) (Jn3 g0) hx13) ?_
 rintro _ w1 ⟨k2,rfl,e3⟩
 obtain⟨K4,S5,m6⟩:=Ji e3 2 R
 refine Tv<|Jd ?_
 revert h
 cases ht8:x13
 refine JF λh=>Jy R<|Js<|Jp<|Jl3 1 R<|Ob h λx15 hx15 h=>Jw3 R call5 (t7 (J:=λb=>mp [] 1<|K4 b) (Jm2 (g0.stp S5) (mp [] 1) R R) hx15) ?_
 rintro _ w11 ⟨k12,ah,ap,b15,rfl,e13,f14,f15⟩
 obtain⟨K16,S17,m18,z19⟩:=Jj e13 4 R
 refine Tv<|Jb 1 R<|Jl3 1 R<|Ob h λx17 hx17 h=>Jw3 R call6 (rB (J:=λb=>mp [(7,2)] 1<|K16 b) (p0:=x15) (Jm2 (f14.mx z19) (mp [(7,2)] 1) R R) ((f15.mx m18 R (R:4+3=7)).map (mp [(7,2)] 1) R R) hx17) ?_
 rintro _ w22 ⟨k23,al,ai,ak,am,aj,ac,rfl,e24,f25,f26,f27,f28⟩
 obtain⟨K29,S30,m31,z32⟩:=Jj e24 8 R
 refine Tv<|?_
 have f33:=f25.mx (aT _) m31 R (R:8+3=11)
 have f34:=f26.mxz z32 m31 R (R:8+4=12)
 have f35:=f27.mx (aT _) m31 R (R:8+5=13)
 refine Jy3 K29 14 R X32 R λb4 w37 K38 S39 f40=>Tv<|Jm4 K38 14 R Z32 R f40 R λw41 S42 f43=>Tv<|Jd<|Jf3 R<|Jq<|Jf3 R<|Ob h λq2 hq46 hK45=>?_
 clear h
 refine Jt3 [4] (λE L w'=>∃κ',∃s3:ByteArray,L=(5,.string s3)::E/\Stp [] K38 w41 κ' w'/\q2=Sum.inr s3) ?_ ?_
 refine Jv<|Ju3 [4] (λk E L w'=>∃κ' v6,∃s1:ByteArray,L=(5,.string s1)::(6,vi v6)::E/\Stp [] K38 w41 κ' w'/\0<=v6/\zq ((x17.1.Prio.length:Int)-v6)=k/\cntM (cS x17) k v6 s1=some q2) ⟨_,_,⟨K38,0,((ByteArray.mk #[]):ByteArray),R,Jo3,(by decide),(by simp),hq46⟩,(KM R)⟩ ?_
 rintro k _ w50 ⟨K51,v6,s1,rfl,S52,hj44,hJ44,h⟩
 rcases k with _|k
 have hk53:=h;obtain⟨o44,h⟩:=exq hk53
 have hc44:=dcf hJ44
 refine Jq<|Jl3 1 R<|Je3 R U32 R Z27<|Jc3 R I27 ((f43.stp S52).ld 2 R R)<|Js3 R U27 R R<|Jb 1 R<|Jx2 R hc44<|Jc1<|Jt<|Jt ?_
 cases h
 have h:=hk53
 refine Jb1 ?_
 cases h
 exact Jw1 _ ⟨K51,s1,R,S52.wk R,R⟩<|KM R
 obtain⟨o44,h,hk53⟩:=BI h;unfold cS at h
 have hc44:=dct hJ44
 refine Jq<|Jl3 1 R<|Je3 R U32 R Z27 ?_
 have f55:=f43.stp S52
 have S001:=(T3 S39 S42 S52)
 refine Jc3 R I27 (f55.ld 2 R R)<|Js3 R U27 R R<|Jb 1 R<|Jw2 R hc44<|Js<|Jp<|Jq<|Jv<|Jm3 1 R<|Ob h λx26 hx26 h=>Jf R (cc R R R hx26)<|Jg4 tv R (Jh4 (haE f55.cells) I32 Z32 R)<|Jn 1 R<|Ob h λx29 hx29 h=>Jw3 R call7 (nD (J:=Mk K51) (p0:=x17.1) (Jn3 (f33.stp S001).rdc) (Jn3 (f34.stp S001).rdc) (Jn3 (f35.stp S001).rdc) hx29) ?_
 rintro _ w59 ⟨k60,rfl,e61⟩
 obtain⟨K62,S63,m64⟩:=Ji e61 15 R
 refine Tv<|Ob h λx30 hx30 h=>Jf R (cc R R R hx30)<|Ob h λx31 hx31 h=>Jf R (cc R R R hx31)<|Jc 1 R<|Jz<|Jp<|Jg3 R<|wr2 hj44 hJ44 f35.len_le ▸ ?_
 cases h
 exact Ja2 ⟨K62,v6+1,x31,R,(S52.tr S63).wk R,nxz hj44,nxm hJ44,hk53⟩ R
 rintro _ w47 ⟨K48,s3,rfl,S49,rfl⟩
 have h:=yI hK45
 refine Jp<|Jj3 ?_
 have f66:=f43.stp S49
 have S002:=(T3 S39 S42 S49)
 refine Jg4 tv R (Jh4 (haE f66.cells) I32 Z32 R)<|Ob h λx33 hx33 h=>Jw3 R call8 (rQ (J:=Mk K48) (p0:=x17.1) (Jn3 (f33.stp S002).rdc) (Jn3 (f34.stp S002).rdc) (Jn3 (f35.stp S002).rdc) hx33) ?_
 rintro _ w70 ⟨k71,aq,an,ab,aa,rfl,e72,f73,f74⟩
 obtain⟨K75,S76,m77⟩:=Ji e72 15 R
 refine Tv<|?_
 have f79:=f73.mx (aT _) m77 R (R:15+2=17)
 have f80:=f74.mx (aT _) m77 R (R:15+3=18)
 refine Jy3 K75 19 R X36 R λb7 w81 K82 S83 f84=>Tv<|Jm4 K82 19 R Z36 R f84 R λw85 S86 f87=>Tv<|Jd<|Jf3 R<|Jq<|Jf3 R<|Ob h λq5 hq90 hK89=>?_
 clear h
 refine Jt3 [4,5] (λE L w'=>∃κ',∃s6:ByteArray,L=(8,.string s6)::E/\Stp [] K82 w85 κ' w'/\q5=Sum.inr s6) ?_ ?_
 refine Jv<|Ju3 [4,5,7] (λk E L w'=>∃κ' v9,∃s4:ByteArray,L=(8,.string s4)::(9,vi v9)::E/\Stp [] K82 w85 κ' w'/\0<=v9/\zq ((x33.Won.length:Int)-v9)=k/\cntM (co x33) k v9 s4=some q5) ⟨_,_,⟨K82,0,((ByteArray.mk #[]):ByteArray),R,Jo3,(by decide),(by simp),hq90⟩,(KM R)⟩ ?_
 rintro k _ w94 ⟨K95,v9,s4,rfl,S96,hj88,hJ88,h⟩
 rcases k with _|k
 have hk97:=h;obtain⟨o88,h⟩:=exq hk97
 have hc88:=dcf hJ88
 refine Jq<|Jl3 1 R<|Je3 R U36 R Z27<|Jc3 R I27 ((f87.stp S96).ld 0 R R)<|Js3 R U27 R R<|Jb 1 R<|Jx2 R hc88<|Jc1<|Jt<|Jt ?_
 cases h
 have h:=hk97
 refine Jb1 ?_
 cases h
 exact Jw1 _ ⟨K95,s4,R,S96.wk R,R⟩<|KM R
 obtain⟨o88,h,hk97⟩:=BI h;unfold co at h
 have hc88:=dct hJ88
 refine Jq<|Jl3 1 R<|Je3 R U36 R Z27 ?_
 have f99:=f87.stp S96
 refine Jc3 R I27 (f99.ld 0 R R)<|Js3 R U27 R R<|Jb 1 R<|Jw2 R hc88<|Js<|Jp<|Jq<|Jv<|Jq<|Jf3 R<|Ob h λq7 h hK100=>Jt3 [4,5,7,9] (λE L w'=>∃κ',L=(8,.string q7)::E/\Stp [] K95 w94 κ' w') ?_ ?_
 revert h
 cases ht104:decide (0<v9)
 refine JF λh=>Jy R<|Js ?_
 cases h
 exact Jw1 _ ⟨K95,R,Jo3⟩<|KM R
 refine JT λh=>Jx R<|Jm3 1 R<|Ob h λx44 hx44 h=>Jf R (cc R R R hx44)<|Jc 1 R ?_
 cases h
 exact Jw1 _ ⟨K95,R,Jo3⟩<|KM R
 rintro _ w101 ⟨K102,rfl,S103⟩
 have h:=hK100
 refine Jp<|Jl3 1 R<|Jb4 K102 Ep.str 20 [] (parts:=[(0,.const (.string (ByteArray.mk #[101,118,101,110]))),(1,.const (.string (ByteArray.mk #[111,100,100])))]) (cells:=[.string (ByteArray.mk #[101,118,101,110]),.string (ByteArray.mk #[111,100,100])]) (xs:=([(ByteArray.mk #[101,118,101,110]),(ByteArray.mk #[111,100,100])]:List ByteArray)) R Y38 cG R ⟨[.string (ByteArray.mk #[101,118,101,110])],[.string (ByteArray.mk #[111,100,100])],Zl K102 w101 [],Zl K102 w101 [],R,Zl.sp (l1:=[]) (l2:=[]) R,Zl.sr (l1:=[]) (l2:=[]),R,⟨[.string (ByteArray.mk #[111,100,100])],[],Zl K102 w101 [],Zl K102 w101 [],R,Zl.sp (l1:=[]) (l2:=[]) R,Zl.sr (l1:=[]) (l2:=[]),R,R⟩⟩ λaf ad w105 K106 S107 f108=>Tv<|Je3 R U36 R Z27 ?_
 have f109:=f99.stp (S103.tr S107)
 refine Jc3 R I27 (f109.ld 0 R R)<|Jn 1 R<|Ob h λx50 hx50 h=>Jd3 R f79.rdc hx50 U27 Z2<|Jc3 R I2 ((f79.stp<|T5 S83 S86 S96 S103 S107).rdc.gInt hx50)<|Ob h λx52 hx52 h=>Jd3 R f108.rdc hx52 U38 Z9<|Jc3 R I9 (f108.rdc.gStr hx52)<|Ob h λx54 hx54 h=>Jf R (cc R R R hx54)<|Ob h λx55 hx55 h=>Jf R (cc R R R hx55)<|Jb 1 R<|Jj3<|Je3 R U36 R Z27<|Jc3 R I27 (f109.ld 1 R R)<|Jn 1 R<|Ob h λx59 hx59 h=>Jd3 R f80.rdc hx59 U27 Z2 ?_
 have f111:=f80.stp (T5 S83 S86 S96 S103 S107)
 refine Jc3 R I2 (f111.rdc.gInt hx59)<|Jb 1 R<|Ob h λq8 h hK112=>Jt3 [4,5,7,9] (λE L w'=>∃κ',L=(8,.string q8)::E/\Stp [] K106 w105 κ' w') ?_ ?_
 revert h
 cases ht116:decide (x59<0)
 refine JF λh=>Jy R<|Jm3 1 R<|Je3 R U36 R Z27<|Jc3 R I27 (f109.ld 1 R R)<|Jn 1 R<|Ob h λx68 hx68 h=>Jd3 R f111.rdc hx68 U27 Z2<|Jc3 R I2 (f111.rdc.gInt hx68)<|Ob h λx70 hx70 h=>Jw3 R call9 (rA (J:=Mk K106) hx70) ?_
 rintro _ w117 ⟨k118,rfl,e119⟩
 obtain⟨K120,S121,m122⟩:=Ji e119 21 R
 refine Tv<|Ob h λx71 hx71 h=>Jf R (cc R R R hx71)<|Jc 1 R ?_
 cases h
 exact Jw1 _ ⟨K120,R,S121.wk R⟩<|KM R
 refine JT λh=>Jx R<|Jm3 1 R<|Ob h λx63 hx63 h=>Jf R (cc R R R hx63)<|Jc 1 R ?_
 cases h
 exact Jw1 _ ⟨K106,R,Jo3⟩<|KM R
 rintro _ w113 ⟨K114,rfl,S115⟩
 have h:=hK112
 refine Jz<|Jp<|Jg3 R<|wr2 hj88 hJ88 f79.len_le ▸ ?_
 cases h
 exact Ja2 ⟨K114,v9+1,q8,R,(T4 S96 S103 S107 S115).wk R,nxz hj88,nxm hJ88,hk97⟩ R
 rintro _ w91 ⟨K92,s6,rfl,S93,rfl⟩
 have h:=yI hK89
 have S003:=(T10 S5 S17 S30 S39 S42 S49 S76 S83 S86 S93)
 refine Jp<|Jl3 1 R<|Ob h λx73 hx73 h=>Jf R (cc R R R hx73)<|Ob h λx74 hx74 h=>Jw3 R call11 (su (J:=Mk K92) ((gGE0.stp S003).map (mp [] 0) R R) ((gGE1.stp S003).map (mp [] 0) R R) ((gGM.stp S003).map (mp [] 0) R R) ((gGT.stp S003).map (mp [] 0) R R) hx74) ?_
 rintro _ w128 ⟨k129,rfl,e130⟩
 obtain⟨K131,S132,m133⟩:=Ji e130 20 R
 refine Tv<|Ob h λx75 hx75 h=>Jw3 R call10 (sD (J:=Mk K131) hx75) ?_
 rintro _ w135 ⟨k136,ao,ae,rfl,e137,f138⟩
 obtain⟨K139,S140,m141⟩:=Ji e137 22 R
 refine Tv<|?_
 have f143:=f138.mx qe m141 R (R:22+2=24)
 refine Jb 1 R<|Jj3<|Je3 R U32 R Z27<|Jc3 R I27 ((f66.stp<|T6 S76 S83 S86 S93 S132 S140).ld 2 R R)<|Js3 R U27 R R<|Jb 1 R<|Jl3 1 R<|Js3 R U38 R R<|Jn 4 R<|Ob h λp91 h hK145=>Jk4 [10,11] 91 p91 K139 w135 7 tv ?_ ?_
 revert h
 cases ht146:((x75.length:Int)==(IntKind.wrap .i64 ((x17.1.Prio.length:Int)+2)))
 refine JF λh=>Jn 3 R<|Je4 R<|Jn 3 R ?_
 cases h
 exact Jl4 tv R
 refine JT λh=>Jn 2 R<|Ob h λx87 hx87 h=>Jd3 R f143.rdc hx87 U38 Z9<|Jc3 R I9 (f143.rdc.gStr hx87)<|Jn 1 R<|Jf R (bJ R R R)<|Jn 1 R ?_
 cases h
 exact Jl4 tv R
 rintro _ w147 _ ⟨rfl,K148,S149⟩
 have h:=hK145
 refine Jn 1 R<|Ob h λp99 h hK150=>Ju1 [(14,2),(15,2),(16,2),(17,2),(18,1),(19,2),(20,2)] [(21,2)] (λL w'=>L=[(99,.bool p99)]/\∃κ',Stp [] K148 w147 κ' w') tv ?_ ?_
 revert h
 cases ht151:p91
 refine JF λh=>Jn 4 R<|Je4 R<|Jn 2 R ?_
 cases h
 exact Jl4 tv R
 refine JT λh=>Jn 3 R<|Ob h λx96 hx96 h=>Jd3 R f143.rdc hx96 U38 Z9<|Jc3 R I9 ((f143.stp S149).rdc.gStr hx96)<|Jf R (bJ R R R)<|Jn 1 R ?_
 cases h
 exact Jl4 tv R
 rintro _ w153 _ ⟨rfl,K154,S155⟩
 have h:=hK150
 refine Jb 1 R<|Ju<|Jb2 (l:=[.tmp 2]) results3 (Jq2 R R) R ?_
 cases h
 exact⟨K154,R,(hE.stp<|T14 S5 S17 S30 S39 S42 S49 S76 S83 S86 S93 S132 S140 S149 S155)⟩
 refine JT λh=>Jx R<|Jf3 R<|Ju<|Jw<|Jb2 (l:=[.tmp 2]) results3 (Jq2 R R) R ?_
 cases h
 exact⟨K4,R,(hE.stp S5)⟩
end
end Go.Proofs.YtgbippnfaoedmaaGreatDoor
