/- The walks, part 2. By program. -/
import Derived.Test.YtleekpaohfpooaaGreatFns0VF
import Derived.Test.YtleekpaohfpooaaGreatFns1VF
set_option linter.unusedVariables false
set_option linter.unusedSimpArgs false
open Go.IntKind renaming wrap → bM
open Sum renaming inr → cb, inl → eg
open Int renaming toNat → hV
namespace Go.Proofs.YtleekpaohfpooaaGreat
open Go Go.Wk Go.Proofs
set_option maxRecDepth 100000
set_option maxHeartbeats 1000000
variable {w:World}{κ:Col}
theorem p6 {p q}{p0:dice}{p1:Int}{s}(bN:Rd (Rp.int .u8) κ w 0 p q p0.b) (bO:Bc κ w 2 s 65 [.slice p p0.b.length q,vi p0.i,.int .u64 p0.h]){r:(List Clause)×Int×Int}(h:jZ p0 p1=some r):Ret Tryz.prog 18 [.pointer (some ⟨s,0,none⟩),vi p1] w (λv w'=>∃(κ':Col) (aX:Option Addr) (aY:Nat),v= .slice aX r.1.length aY/\Ent κ w κ' w'/\Oc Clause.ep67 67 κ' w' 3 aX aY r.1/\Bc κ' w' 2 s 65 [.slice p p0.b.length q,vi r.2.1,.int .u64 r.2.2]):=by
 unfold jZ at h
 refine Jk3 κ F18 R N18 R λbP=>Je3 R<|Je [1,2] R<|Jx3 (κ:=κ) (E:=Clause.ep67) 3 R Y29 nV R λbg ci w1 a9 ad bA=>Tv<|Jb 1 R<|Jq<|Jg3 [2,2,2,1,2] 3 R<|Ob h λav b4 h=>?_
 have aO:=bN.stp ad
 refine Jr3 R C25 (cW (κ:=λb=>mp [(2,2)] 0<|a9 b) (p0:=p0) (Jl2 aO (mp [(2,2)] 0) R R) ((bO.stp ad).map (mp [(2,2)] 0) R R) b4) ?_
 rintro _ a1 ⟨cG,rfl,bm,bn⟩
 obtain⟨V,Y,cd⟩:=Ji bm 4 R
 refine Tv<|Jb 1 R<|Ob h λaV b1 bW=>?_
 clear h
 refine Jo3 [0] (λE L w'=>∃κ',∃C:(List Clause)×Int×Int×Int,∃P Q,L=(5,.slice P C.1.length Q)::E/\Stp [3,6,9,10,11,12,13,15,18] V a1 κ' w'/\Oc Clause.ep67 67 κ' w' 3 P Q C.1/\Bc κ' w' 6 s 65 [.slice p p0.b.length q,vi C.2.2.1,.int .u64 C.2.2.2]/\aV=cb C) ?_ ?_
 refine Jv<|Jp3 [0] (λk E L w'=>∃κ',∃e:(List Clause)×Int×Int×Int,∃S N,L=(5,.slice S e.1.length N)::(6,vi e.2.1)::E/\Stp [3,6,9,10,11,12,13,15,18] V a1 κ' w'/\Oc Clause.ep67 67 κ' w' 3 S N e.1/\Bc κ' w' 6 s 65 [.slice p p0.b.length q,vi e.2.2.1,.int .u64 e.2.2.2]/\cu (gv p0) k e=some aV) ⟨_,_,⟨V,((([]:List Clause):(List Clause)),av.1,av.2.1,av.2.2),bg,ci,R,Jj3,(bA.stp Y),(bn.mx cd R (R:4+2=6)),b1⟩,(KM R)⟩ ?_
 rintro k _ cQ ⟨aA,e,S,N,rfl,ac,aL,aM,h⟩
 rcases k with _ | k
 cases h
 obtain⟨cH,h,aS⟩:=BI h;unfold gv at h
 refine Jq<|Je3 R ?_
 revert h
 cases cB:decide (0<e.2.1)
 refine JF λh=>Jy R<|Jc1<|Jt<|Jt ?_
 cases h
 have h:=aS
 refine Jb1 ?_
 cases h
 exact Jw1 _ ⟨aA,(e.1,e.2.1,e.2.2.1,e.2.2.2),S,N,R,ac.wk R,aL,aM,R⟩<|KM R
 refine JT λh=>Jx R<|Js<|Jp<|Jq<|Jv<|Jg3 [2,1,2,2,1,1] 1 R<|Ob h λf b5 h=>?_
 have aN:=aO.stp (Y.tr ac)
 refine Jr3 R C25 (cW (κ:=λb=>mp [(6,2)] 0<|aA b) (p0:=(⟨p0.b,e.2.2.1,e.2.2.2⟩:dice)) (Jl2 aN (mp [(6,2)] 0) R R) (aM.map (mp [(6,2)] 0) R R) b5) ?_
 rintro _ cR ⟨cE,rfl,bk,bz⟩
 obtain⟨bb,ae,ce⟩:=Ji bk 7 R
 refine Tv<|Jn 1 R<|Jf R (Ji4 [vi (IntKind.i64.wrap (1+f.1)),.slice none 0 0,.slice none 0 0] R)<|Jt3 (κ:=bb) 10 R X67 R λT cS J K bB=>Tv<|Jh4 (κ:=J) 10 R Z67 R bB R λa0 M bC=>Tv<|Jd<|Jq<|Je3 R<|Ob h λaW b2 bX=>?_
 clear h
 refine Jo3 [0,5,6,7] (λE L w'=>∃κ',∃c:Int×Int×(List Int)×(List Int),∃y x u t,L=E/\Stp [9,10,11,12,15,18] J a0 κ' w'/\Oc E6 2 κ' w' 11 y x c.2.2.1/\Oc E6 2 κ' w' 12 u t c.2.2.2/\Bc κ' w' 9 s 65 [.slice p p0.b.length q,vi c.1,.int .u64 c.2.1]/\Bc κ' w' 10 T 67 [vi (IntKind.i64.wrap (1+f.1)),.slice y c.2.2.1.length x,.slice u c.2.2.2.length t]/\aW=cb c) ?_ ?_
 refine Jv<|Jp3 [0,5,6,7] (λk E L w'=>∃κ' g,∃d:Int×Int×(List Int)×(List Int),∃H G n o,L=(8,vi g)::E/\Stp [9,10,11,12,15,18] J a0 κ' w'/\Oc E6 2 κ' w' 11 H G d.2.2.1/\Oc E6 2 κ' w' 12 n o d.2.2.2/\Bc κ' w' 9 s 65 [.slice p p0.b.length q,vi d.1,.int .u64 d.2.1]/\Bc κ' w' 10 T 67 [vi (IntKind.i64.wrap (1+f.1)),.slice H d.2.2.1.length G,.slice n d.2.2.2.length o]/\0<=g/\hV (4-g)=k/\cntM (gw p0 f) k g d=some aW) ⟨_,_,⟨J,0,(f.2.1,f.2.2,(([]:List Int):(List Int)),(([]:List Int):(List Int))),none,0,none,0,R,Jj3,Ow.nil,Ow.nil,((bz.mx ce R (R:7+2=9)).stp (K.tr M)),bC,(by decide),(by simp),b2⟩,(KM R)⟩ ?_
 rintro k _ cT ⟨aB,g,d,H,G,n,o,rfl,af,am,an,aP,ao,b0,cv,h⟩
 rcases k with _ | k
 have aq:=h;obtain⟨cg,h⟩:=cw (cb (eg d):((List Clause)×Int×Int)⊕((Int×Int×(List Int)×(List Int))⊕(Int×Int×(List Int)×(List Int))))
 have B:decide (g<4)=false:=Jo2 (by omega)
 refine Jq<|Je3 R<|Jw2 R B<|Jc1<|Jt<|Jt ?_
 cases h
 have h:=aq
 refine Jb1 ?_
 cases h
 exact Jw1 _ ⟨aB,(d.1,d.2.1,d.2.2.1,d.2.2.2),H,G,n,o,R,af.wk R,am,an,aP,ao,R⟩<|KM R
 obtain⟨cg,h,aq⟩:=BI h;unfold gw at h
 have B:decide (g<4)=true:=Jn2 (by omega)
 refine Jq<|Je3 R<|Jv2 R B<|Js<|Jp<|Jq<|Jv<|Jq<|Jg3 [2,1,2] 1 R<|Ob h λaw b6 h=>?_
 have aQ:=aN.stp (T4 ae K M af)
 refine Jr3 R C25 (cW (κ:=λb=>mp [(9,2)] 0<|aB b) (p0:=(⟨p0.b,d.1,d.2.1⟩:dice)) (Jl2 aQ (mp [(9,2)] 0) R R) (aP.map (mp [(9,2)] 0) R R) b6) ?_
 rintro _ cl ⟨cF,rfl,bl,bH⟩
 obtain⟨X,i,cf⟩:=Ji bl 13 R
 refine Tv<|Jb 1 R<|Ob h λI h bZ=>Jo3 [0,5,6,7,8] (λE L w'=>∃κ' A z,L=E/\Stp [10,11] X cl κ' w'/\Oc E6 2 κ' w' 11 A z I/\Bc κ' w' 10 T 67 [vi (IntKind.i64.wrap (1+f.1)),.slice A I.length z,.slice n d.2.2.2.length o]) ?_ ?_
 revert h
 cases cC:(aw.1==0)
 refine JF λh=>Jy R<|Js ?_
 cases h
 exact Jw1 _ ⟨X,H,G,R,Jj3,(am.stp i),(ao.stp i)⟩<|KM R
 refine JT λh=>Jx R<|Ja [2,1,2,1,1,2,1] R<|Jd3 R U67 R Z37 ?_
 have aR:=ao.stp i
 refine Jb3 R I37 (aR.ld 1 R R)<|Jn 1 R<|Jd4 (κ:=X) 16 [g] R Y37 bS R λcq co cV bd ag bJ=>Tv<|Ob h λa2 b7 h=>Jy3 (κ:=bd) (E:=E6) 11 [] R Y37 bS R (am.stp<|i.tr ag) (Sl.srcP (bY _) bJ.rdc) bU b7 R λaj ak cX aC aI bK=>Tv<|Jd3 R U67 R Z37<|Ju3 (κ:=aC) 10 (off:=1) (vc:=[.slice aj a2.length ak]) (cs':=[vi (IntKind.i64.wrap (1+f.1)),.slice aj a2.length ak,.slice n d.2.2.2.length o]) R Z37 R (aR.stp<|ag.tr aI) R λcY aJ bL=>Tv<|Jo ?_
 cases h
 exact Jw1 _ ⟨aC,aj,ak,R,(T3 ag aI aJ).wk R,(bK.stp aJ),bL⟩<|KM R
 rintro _ cU ⟨bc,A,z,rfl,F,bI,ap⟩
 have h:=bZ
 refine Jp<|Jg3 [2,1,2,2,2,1,2,2,2,1,2,2,2,2,1,2,2,2] 1 R<|Ob h λax b8 h=>Jr3 R C25 (cW (κ:=λb=>mp [(15,2)] 0<|bc b) (p0:=(⟨p0.b,aw.2.1,aw.2.2⟩:dice)) (Jl2 (aQ.stp<|i.tr F) (mp [(15,2)] 0) R R) (((bH.mx cf R (R:13+2=15)).stp F).map (mp [(15,2)] 0) R R) b8) ?_
 rintro _ aZ ⟨cD,rfl,bj,bo⟩
 obtain⟨ay,j,cc⟩:=Ji bj 16 R
 refine Tv<|Jn 2 R<|Ob h λaU h bQ=>Jf4 [0,5,6,7,8] 52 aU ay aZ [(4,2),(5,1),(6,2),(7,2),(8,2),(9,1),(10,2),(11,2),(12,2),(13,2),(14,1),(15,2),(16,2),(17,2)] [] tv ?_ ?_
 revert h
 cases cx:(ax.1==0)
 refine JF λh=>Jn 1 R<|Jz3 R<|Jn 3 R<|Jz3 R<|Jn 4 R<|Jz3 R<|Jn 3 R ?_
 cases h
 exact Jg4 tv R
 refine JT λh=>Jd3 R U67 R Z2 ?_
 have al:=ap.stp j
 refine Jb3 R I2 (al.ld 0 R R)<|Jn 2 R<|Ob h λaT h bR=>Jf4 [0,5,6,7,8,38,39,40,41,42] 46 aT ay aZ [(8,2),(9,1),(10,2),(11,2)] [(12,2),(13,2),(14,1),(15,2),(16,2),(17,2)] tv ?_ ?_
 revert h
 cases cy:((IntKind.i64.wrap (1+f.1))==2)
 refine JF λh=>Jd3 R U67 R Z2<|Jb3 R I2 (al.ld 0 R R)<|Jn 2 R ?_
 cases h
 exact Jg4 tv R
 refine JT λh=>Jn 1 R<|Jz3 R<|Jn 2 R ?_
 cases h
 exact Jg4 tv R
 rintro _ cj _ ⟨rfl,a4,aD⟩
 have h:=bR
 refine Jn 1 R<|Ob h λch h bT=>Jf4 [0,5,6,7,8,38,39,40,41,42,46,47] 51 ch a4 cj [(13,2),(14,1),(15,2),(16,2)] [(17,2)] tv ?_ ?_
 revert h
 cases cz:aT
 refine JF λh=>Jd3 R U67 R Z2<|Jb3 R I2 ((al.stp aD).ld 0 R R)<|Jn 2 R ?_
 cases h
 exact Jg4 tv R
 refine JT λh=>Jn 1 R<|Jz3 R<|Jn 2 R ?_
 cases h
 exact Jg4 tv R
 rintro _ cI _ ⟨rfl,cn,be⟩
 have h:=bT
 refine Jn 1 R ?_
 cases h
 exact Jv1 _ tv ⟨R,_,(aD.tr be).wk R⟩<|KM R
 rintro _ ck _ ⟨rfl,W,m⟩
 have h:=bQ
 refine Jd<|Ob h λau h bV=>Jo3 [0,5,6,7,8] (λE L w'=>∃κ' ar O,L=E/\Stp [10,12] W ck κ' w'/\Oc E6 2 κ' w' 12 ar O au/\Bc κ' w' 10 T 67 [vi (IntKind.i64.wrap (1+f.1)),.slice A I.length z,.slice ar au.length O]) ?_ ?_
 revert h
 cases cA:aU
 refine JF λh=>Jy R<|Js ?_
 cases h
 exact Jw1 _ ⟨W,n,o,R,Jj3,(an.stp<|T4 i F j m),(ap.stp<|j.tr m)⟩<|KM R
 refine JT λh=>Jx R<|Ja [2,1,2,1,1,2,1] R<|Jd3 R U67 R Z37 ?_
 have aK:=ap.stp (j.tr m)
 refine Jb3 R I37 (aK.ld 2 R R)<|Jn 1 R<|Jd4 (κ:=W) 19 [g] R Y37 bS R λcr cp cK a6 aa br=>Tv<|Ob h λa3 b9 h=>Jy3 (κ:=a6) (E:=E6) 12 [] R Y37 bS R (an.stp<|T5 i F j m aa) (Sl.srcP (bY _) br.rdc) bU b9 R λai ah cL az aE bs=>Tv<|Jd3 R U67 R Z37<|Ju3 (κ:=az) 10 (off:=2) (vc:=[.slice ai a3.length ah]) (cs':=[vi (IntKind.i64.wrap (1+f.1)),.slice A I.length z,.slice ai a3.length ah]) R Z37 R (aK.stp<|aa.tr aE) R λcM aF bt=>Tv<|Jo ?_
 cases h
 exact Jw1 _ ⟨az,ai,ah,R,(T3 aa aE aF).wk R,(bs.stp aF),bt⟩<|KM R
 rintro _ cJ ⟨a5,ar,O,rfl,Z,bp,bq⟩
 have h:=bV
 refine Jz<|Jp<|Jf3 R ?_
 have b3:bM .i64 (g+1)=g+1:=wr1 b0 (Jm2 B) (by decide)
 rw[b3]
 have B:=Jm2 B
 cases h
 exact Jz1 λa ha=>⟨k,_,Ja3 _,⟨(λb=>ren [(18,9)]<|a5 b),g+1,(ax.2.1,ax.2.2,I,au),A,z,ar,O,R,(Jy2 ((T6 af i F j m Z).wk R) [(18,9)] R),((bI.stp<|T3 j m Z).map (ren [(18,9)]) R R),(bp.map (ren [(18,9)]) R R),(((bo.mx cc R (R:16+2=18)).stp (m.tr Z)).map (ren [(18,9)]) R R),(bq.map (ren [(18,9)]) R R),by omega,by omega,aq⟩,(ha.mm R)⟩
 rintro _ U ⟨D,c,y,x,u,t,rfl,aH,bD,bE,bF,bG,rfl⟩
 have h:=yI bX
 refine Jp<|Jh3 [2,1,1,1,2] 1 R<|Jb4 tv R (Jc4 (haE bG.cells) I67 Z67 R)<|Jw3 (κ:=D) (E:=Clause.ep67) 13 [11,12] (parts:=[(0,.tmp 60)]) (cells:=[vi (IntKind.i64.wrap (1+f.1)),.slice y c.2.2.1.length x,.slice u c.2.2.2.length t]) (xs:=([(⟨(IntKind.i64.wrap (1+f.1)),c.2.2.1,c.2.2.2⟩:Clause)]:List Clause)) R Y29 nV R (Je4 ⟨[vi<|IntKind.i64.wrap (1+f.1)],[.slice y c.2.2.1.length x,.slice u c.2.2.2.length t],Zl D U [],Zl D U [11,12],R,Zl.sp (l1:=[]) (l2:=[11,12]) R,Zl.sr (l1:=[]) (l2:=[11,12]),R,⟨[.slice y c.2.2.1.length x],[.slice u c.2.2.2.length t],Zl D U [11],Zl D U [12],R,Zl.sp (l1:=[11]) (l2:=[12]) R,Zl.sr (l1:=[11]) (l2:=[12]),⟨_,_,R,bD⟩,⟨_,_,R,bE⟩⟩⟩) λcs ct cN a7 ab bu=>Tv<|Ob h λcm ca h=>Jy3 (κ:=a7) (E:=Clause.ep67) 3 [13] R Y29 nV R (aL.stp<|T5 ae K M aH ab) bu.src (dG R) ca R λbi bh cO a8 aG bv=>Tv<|Jc 1 R<|Jz<|Jp<|Jf3 R ?_
 cases h
 exact Jz1 λa ha=>⟨k,_,Ja3 _,⟨(λb=>ren [(9,6)]<|a8 b),(cm,((IntKind.i64.wrap<|e.2.1-1):Int),c.1,c.2.1),bi,bh,R,(Jy2 ((T7 ac ae K M aH ab aG).wk R) [(9,6)] R),(bv.map (ren [(9,6)]) R R),((bF.stp<|ab.tr aG).map (ren [(9,6)]) R R),aS⟩,(ha.mm R)⟩
 rintro _ cP ⟨ba,C,P,Q,rfl,bf,bw,bx,rfl⟩
 have h:=yI bW
 refine Jp<|Je3 R<|Ju<|Ja2 (l:=[.tmp 4]) V18 (Jp2 R R) R ?_
 cases h
 exact⟨(λb=>ren [(6,2)]<|ba b),P,Q,R,((bP.stp<|T3 ad Y bf).map (ren [(6,2)]) R R),(bw.map (ren [(6,2)]) R R),(bx.map (ren [(6,2)]) R R)⟩
theorem sG {n o k m}{p0:Clause}{p1:Int}{p2:Int}(N:Rd (Rp.int .i64) κ w 0 n o p0.A) (O:Rd (Rp.int .i64) κ w 0 k m p0.B){r:Int}(h:l8 p0 p1 p2=some r):Ret Tryz.prog 189 [.agg #[vi p0.Kind,.slice n p0.A.length o,.slice k p0.B.length m],vi p1,vi p2] w (Pvi κ w r):=by
 unfold l8 at h
 refine Jk3 κ F189 R N189 R λg=>Je [1,2] R<|Js3 (κ:=κ) 2 R λac w1 v c q=>Tv<|Jb 1 R<|Je [2,1,2,1,1,2] R<|Jd3 R U67 R Z37<|Jb3 R I37 (q.ld 1 R R)<|Jn 1 R<|Ob h λaK S h=>Jr3 R C81 (eN (κ:=Mk v) (Ji3<|N.stp c) S) ?_
 rintro _ aH ⟨k7,rfl,M⟩
 obtain⟨B,a,av⟩:=Ji M 3 R
 refine Tv<|Ob h λaL T h=>Jr3 R C192 (ng (κ:=Mk B) T) ?_
 rintro _ aC ⟨an,rfl,G⟩
 obtain⟨u,b,aw⟩:=Ji G 5 R
 refine Tv<|Jb 1 R<|Je [2,1,2,1,1,2] R<|Jd3 R U67 R Z37 ?_
 have p:=q.stp (a.tr b)
 refine Jb3 R I37 (p.ld 2 R R)<|Jn 1 R<|Ob h λaM U h=>Jr3 R C81 (eN (κ:=Mk u) (Ji3<|O.stp<|T3 c a b) U) ?_
 rintro _ aD ⟨ao,rfl,H⟩
 obtain⟨x,d,ax⟩:=Ji H 7 R
 refine Tv<|Ob h λaa V h=>Jr3 R C192 (ng (κ:=Mk x) V) ?_
 rintro _ t ⟨ap,rfl,I⟩
 obtain⟨f,e,ay⟩:=Ji I 9 R
 refine Tv<|Jb 1 R<|Jq<|Je [2,1] R<|Jd3 R U67 R Z2<|Jb3 R I2 ((p.stp<|d.tr e).ld 0 R R)<|Jd<|Jv<|Je3 R ?_
 revert h
 cases ad:(p0.Kind==1)
 refine JF λh=>Jy R<|Je3 R ?_
 revert h
 cases ae:(p0.Kind==2)
 refine JF λh=>Jy R<|Je3 R ?_
 revert h
 cases ai:(p0.Kind==3)
 refine JF λh=>Jy R<|Je3 R ?_
 revert h
 cases ak:(p0.Kind==4)
 refine JF λh=>Jy R<|Je3 R ?_
 revert h
 cases al:(p0.Kind==5)
 refine JF λh=>Jy R<|Je3 R ?_
 revert h
 cases am:(p0.Kind==6)
 refine JF λh=>Jy R<|Js<|Jz<|Jp<|Je3 R<|Ju<|Ja2 (l:=[.tmp 6]) V189 (Jp2 R R) R ?_
 cases h
 exact⟨f,R,(g.stp<|T5 c a b d e)⟩
 refine JT λh=>Jx R<|Jg3 [2,2,1,2] 2 R<|Ob h λaP Y h=>Jr3 R C247 (mu (κ:=Mk f) Y) ?_
 rintro _ aJ ⟨au,rfl,L⟩
 obtain⟨A,F,aB⟩:=Ji L 11 R
 refine Tv<|Jb 1 R<|Ju<|Ja1<|Jw<|Ja2 (l:=[.tmp 6]) V189 (Jp2 R R) R ?_
 cases h
 exact⟨A,R,(g.stp<|T6 c a b d e F)⟩
 refine JT λh=>Jx R<|Je3 R<|Ju<|Ja1<|Jw<|Ja2 (l:=[.tmp 6]) V189 (Jp2 R R) R ?_
 cases h
 exact⟨f,R,(g.stp<|T5 c a b d e)⟩
 refine JT λh=>Jx R<|Je3 R<|Ju<|Ja1<|Jw<|Ja2 (l:=[.tmp 6]) V189 (Jp2 R R) R ?_
 cases h
 exact⟨f,R,(g.stp<|T5 c a b d e)⟩
 refine JT λh=>Jx R<|Jq<|Je3 R ?_
 revert h
 cases aj:(aa==1)
 refine JF λh=>Jy R<|Js<|Jp<|Jg3 [2,2,1,2] 2 R<|Ob h λaO X h=>Jr3 R C247 (mu (κ:=Mk f) X) ?_
 rintro _ aI ⟨ar,rfl,K⟩
 obtain⟨z,E,aA⟩:=Ji K 11 R
 refine Tv<|Jb 1 R<|Ju<|Ja1<|Jw<|Ja2 (l:=[.tmp 6]) V189 (Jp2 R R) R ?_
 cases h
 exact⟨z,R,(g.stp<|T6 c a b d e E)⟩
 refine JT λh=>Jx R<|Je3 R<|Ju<|Jw<|Ja1<|Jw<|Ja2 (l:=[.tmp 6]) V189 (Jp2 R R) R ?_
 cases h
 exact⟨f,R,(g.stp<|T5 c a b d e)⟩
 refine JT λh=>Jx R<|Jq<|Jg3 [2,2,2,2,2,2,2,2,2,2] 3 R<|Ob h λs h P=>Jf4 [7] 38 s f t [(3,2),(4,2),(5,2),(6,2),(7,2),(8,2),(9,2)] [] tv ?_ ?_
 revert h
 cases af:(p1==2)
 refine JF λh=>Jn 3 R<|Ob h λZ h Q=>Jf4 [7,31] 37 Z f t [(6,2),(7,2),(8,2)] [(9,2)] tv ?_ ?_
 revert h
 cases ag:(p1==1)
 refine JF λh=>Jn 3 R ?_
 cases h
 exact Jg4 tv R
 refine JT λh=>Jn 3 R ?_
 cases h
 exact Jg4 tv R
 rintro _ aF _ ⟨rfl,ab,D⟩
 have h:=Q
 refine Jn 1 R ?_
 cases h
 exact Jv1 _ tv ⟨R,_,D.wk R⟩<|KM R
 refine JT λh=>Jn 7 R ?_
 cases h
 exact Jg4 tv R
 rintro _ aG _ ⟨rfl,i,j⟩
 have h:=P
 refine Jd ?_
 revert h
 cases ah:s
 refine JF λh=>Jy R<|Js<|Jp<|Je3 R<|Ju<|Ja1<|Jw<|Ja2 (l:=[.tmp 6]) V189 (Jp2 R R) R ?_
 cases h
 exact⟨i,R,(g.stp<|T6 c a b d e j)⟩
 refine JT λh=>Jx R<|Je3 R<|Ju<|Jw<|Ja1<|Jw<|Ja2 (l:=[.tmp 6]) V189 (Jp2 R R) R ?_
 cases h
 exact⟨i,R,(g.stp<|T6 c a b d e j)⟩
 refine JT λh=>Jx R<|Jg3 [2,2,2,1,2] 3 R<|Ob h λaN W h=>Jr3 R C247 (mu (κ:=Mk f) W) ?_
 rintro _ aE ⟨aq,rfl,J⟩
 obtain⟨y,C,az⟩:=Ji J 11 R
 refine Tv<|Jb 1 R<|Ju<|Ja1<|Jw<|Ja2 (l:=[.tmp 6]) V189 (Jp2 R R) R ?_
 cases h
 exact⟨y,R,(g.stp<|T6 c a b d e C)⟩
theorem fW {m s}{p0:(List Int)}{p1:Int}(f:Rd (Rp.int .i64) κ w 0 m s p0){r:Bool}(h:eO p0 p1=some r):Ret Tryz.prog 61 [.slice m p0.length s,vi p1] w (Pvb κ w r):=by
 unfold eO at h
 refine Jk3 κ F61 R N61 R λn=>Je3 R<|Jq<|Je3 R ?_
 have x:(p0.length:Int)<=9223372036854775807:=f.len_le
 refine Ob h λq z o=>?_
 clear h
 refine Jx1 (λL w'=>∃κ',L=[]/\Stp [] κ w κ' w'/\q=cb ()) ?_ ?_
 refine Jv<|Jp3 [0,1] (λk E L w'=>∃κ' b,L=(5,vi b)::E/\Stp [] κ w κ' w'/\0<=b/\hV ((p0.length:Int)-b)=k/\cntM (iy p0 p1) k b ()=some q) ⟨_,_,⟨κ,0,R,Jj3,(by decide),(by simp),z⟩,(KM R)⟩ ?_
 rintro k _ M ⟨i,b,rfl,d,y,F,h⟩
 rcases k with _ | k
 have e:=h;obtain⟨C,h⟩:=cw (cb (eg ()):Bool⊕((Unit)⊕(Unit)))
 have c:decide (b<(p0.length:Int))=false:=Jo2 (by omega)
 refine Jq<|Jg3 [2,2,2,2] 2 R<|Jn3 R U37 R R<|Jb 1 R<|Jw2 R c<|Jc1<|Jt<|Jt ?_
 cases h
 have h:=e
 refine Jb1 ?_
 cases h
 exact Jw1 _ ⟨i,R,d.wk R,R⟩ KN
 obtain⟨C,h,e⟩:=BI h;unfold iy at h
 have c:decide (b<(p0.length:Int))=true:=Jn2 (by omega)
 refine Jq<|Jg3 [2,2,2,2] 2 R<|Jn3 R U37 R R<|Jb 1 R<|Jv2 R c<|Js<|Jp<|Jq<|Jv<|Jg3 [2,2,2,1,2,2,1,2] 2 R<|Ob h λN p h=>Jc3 R f p U37 Z2<|Jb3 R I2 ((f.stp d).gInt p)<|Jn 2 R<|Ob h λD B h=>Jr3 R C59 (de (κ:=Mk i) B) ?_
 rintro _ J ⟨H,rfl,v⟩
 obtain⟨g,j,I⟩:=Ji v 2 R
 refine Tv<|Jb 1 R ?_
 revert h
 cases G:(!D)
 refine JF λh=>Jy R<|Js<|Jz<|Jp<|Jf3 R ?_
 have A:bM .i64 (b+1)=b+1:=wr1 y (Jm2 c) x
 rw[A]
 have c:=Jm2 c
 cases h
 exact Jz1 λa ha=>⟨k,_,Ja3 _,⟨g,b+1,R,(d.tr j).wk R,by omega,by omega,e⟩,(ha.mm R)⟩
 refine JT λh=>Jx R<|Je3 R<|Ju<|Ja1<|Jw<|Jw ?_
 cases h
 obtain rfl:=Option.some.inj e
 have h:=yL o
 refine Ja1<|Jq2<|Jw<|Ja2 (l:=[.tmp 4]) V61 (Jp2 R R) R ?_
 cases h
 exact⟨g,R,(n.stp<|d.tr j)⟩
 rintro _ K ⟨t,rfl,u,rfl⟩
 have h:=yI o
 refine Jp<|Je3 R<|Ju<|Ja2 (l:=[.tmp 4]) V61 (Jp2 R R) R ?_
 cases h
 exact⟨t,R,(n.stp u)⟩
theorem jw {p0:Sig}  {r:Int}(h:ec p0=some r):Ret Tryz.prog 129 [.agg #[vi p0.In,vi p0.Out]] w (Pvi κ w r):=by
 unfold ec at h
 refine Jk3 κ F129 R N129 R λg=>Je [1,2] R<|Js3 (κ:=κ) 2 R λj w1 a c f=>Tv<|Jb 1 R<|Je [2,1,1,2] R<|Jd3 R U28 R Z2<|Jb3 R I2 (f.ld 0 R R)<|Ob h λo i h=>Jr3 R C62 (dI (κ:=Mk a) i) ?_
 rintro _ n ⟨k,rfl,e⟩
 obtain⟨b,d,m⟩:=Ji e 3 R
 refine Tv<|Jb 1 R<|Ju<|Ja2 (l:=[.tmp 2]) V129 (Jp2 R R) R ?_
 cases h
 exact⟨b,R,(g.stp<|c.tr d)⟩
theorem tQ {j n}{p0:(List Int)}{p1:Int}(b:Rd (Rp.int .i64) κ w 0 j n p0){r:(List Int)}(h:kb p0 p1=some r):Ret Tryz.prog 96 [.slice j p0.length n,vi p1] w (λv w'=>∃(κ':Col) (G:Option Addr) (H:Nat),v= .slice G r.length H/\Ent κ w κ' w'/\Rd (Rp.int .i64) κ' w' 0 G H r):=by
 unfold kb at h
 refine Jk3 κ F96 R N96 R λu=>Je3 R<|Je3 R<|Jq<|Ob h λF ad ac=>?_
 clear h
 refine Jo3 [0,1] (λE L w'=>∃κ' f,L=(5,vi f)::E/\Stp [] κ w κ' w'/\F=cb f) ?_ ?_
 refine Jv<|Jp3 [0,1] (λk E L w'=>∃κ' c,L=(5,vi c)::E/\Stp [] κ w κ' w'/\cu (gL p0 p1) k c=some F) ⟨_,_,⟨κ,(0:Int),R,Jj3,ad⟩,(KM R)⟩ ?_
 rintro k _ ak ⟨P,c,rfl,i,h⟩
 rcases k with _ | k
 cases h
 obtain⟨az,h,x⟩:=BI h;unfold gL at h
 refine Jq<|Jg3 [2,2,2,2,2,2,2,2,1,2,2,2] 2 R<|Jn3 R U37 R R<|Jn 2 R<|Ob h λC h aa=>Jf4 [0,1,5] 18 C P ak [(5,2),(6,2),(7,2),(8,1),(9,2),(10,2),(11,2)] [] tv ?_ ?_
 revert h
 cases au:decide (c<(p0.length:Int))
 refine JF λh=>Jn 3 R<|Jz3 R<|Jn 3 R ?_
 cases h
 exact Jg4 tv R
 refine JT λh=>Jn 2 R<|Ob h λaF y h=>Jc3 R b y U37 Z2<|Jb3 R I2 ((b.stp i).gInt y)<|Jn 3 R ?_
 cases h
 exact Jg4 tv R
 rintro _ aA _ ⟨rfl,o,q⟩
 have h:=aa
 refine Jd ?_
 revert h
 cases av:C
 refine JF λh=>Jy R<|Jc1<|Jt<|Jt ?_
 cases h
 have h:=x
 refine Jb1 ?_
 cases h
 exact Jw1 _ ⟨o,c,R,(i.tr q).wk R,R⟩<|KM R
 refine JT λh=>Jx R<|Js<|Jp<|Jv<|Jf3 R<|Jz ?_
 cases h
 exact Jz1 λa ha=>⟨k,_,Ja3 _,⟨o,((IntKind.i64.wrap<|c+1):Int),R,(i.tr q).wk R,x⟩,(ha.mm R)⟩
 rintro _ ai ⟨M,f,rfl,d,rfl⟩
 have h:=yI ac
 refine Jp<|Jq<|Jg3 [2,2,2,2,2,2,2,2,1,2,2,2] 2 R<|Jn3 R U37 R R<|Jn 2 R<|Ob h λD h ab=>Jf4 [0,1,5] 32 D M ai [(5,2),(6,2),(7,2),(8,1),(9,2),(10,2),(11,2)] [] tv ?_ ?_
 revert h
 cases aw:decide (f<(p0.length:Int))
 refine JF λh=>Jn 3 R<|Jz3 R<|Jn 3 R ?_
 cases h
 exact Jg4 tv R
 refine JT λh=>Jn 2 R<|Ob h λaG z h=>Jc3 R b z U37 Z2<|Jb3 R I2 ((b.stp d).gInt z)<|Jn 3 R ?_
 cases h
 exact Jg4 tv R
 rintro _ aB _ ⟨rfl,p,e⟩
 have h:=ab
 refine Jd ?_
 revert h
 cases ax:D
 refine JF λh=>Jy R<|Js<|Jp<|Jg3 [2,2,2,1,2,1,1,2] 2 R<|Ob h λaH A h=>Jf R (kM (k1:= .i64) (k2:= .i64) U37 Z2 (.inl ⟨R,R⟩) (.inr ⟨_,R,R⟩) A b.1 R R R) ?_
 have m:=b.stp (d.tr e)
 refine Ob h λaI ae h=>Jr3 R C131 (eb (κ:=Mk p) (Ji3<|m.sub A) ae) ?_
 rintro _ aC ⟨ay,ao,aq,rfl,V,W⟩
 obtain⟨I,s,ah⟩:=Ji V 2 R
 refine Tv<|Jn 1 R<|Jd4 (κ:=I) 5 [p1] R Y37 bS R λam ap aD J g X=>Tv<|Ob h λaJ af h=>Jy3 (κ:=J) (E:=E6) 4 [] R Y37 bS R ((W.mx (cc _) ah R (R:2+2=4)).stp g) (Sl.srcP (bY _) X.rdc) bU af R λan ar aE K t Y=>Tv<|Jb 1 R<|Jg3 [2,2,2,2,1,2] 3 R<|Ob h λaK B h=>Jf R (kM (k1:= .i64) (k2:= .i64) U37 Z2 (.inr ⟨_,R,R⟩) (.inl ⟨R,R⟩) B m.1 R R R)<|Ob h λaL ag h=>Jy3 (κ:=K) (E:=E6) 4 [] R Y37 bS R Y (Sl.srcP (bY _) ((m.stp<|T3 s g t).sub B)) bU ag R λU T aj N Q Z=>Tv<|Jb 1 R<|Ju ?_
 obtain⟨O,S,al⟩:=lr N aj 4
 refine Ja2 (l:=[.tmp 4]) V96 (Jp2 R R) R ?_
 cases h
 exact⟨O,U,T,R,(u.stp<|T7 d e s g t Q S),(Sl.st al Z.rdc)⟩
 refine JT λh=>Jx R<|Je3 R<|Ju<|Jw<|Ja2 (l:=[.tmp 4]) V96 (Jp2 R R) R ?_
 cases h
 exact⟨p,j,n,R,(u.stp<|d.tr e),(b.stp<|d.tr e)⟩
theorem sw {o x}{p0:(List Place)}{p1:Int}{a2 y}{p2:(List Int)}(i:Rd Place.rp κ w 0 o x p0) (F:Rd (Rp.int .i64) κ w 0 a2 y p2){r:Int}(h:lW p0 p1 p2=some r):Ret Tryz.prog 135 [.slice o p0.length x,vi p1,.slice a2 p2.length y] w (Pvi κ w r):=by
 unfold lW at h
 refine Jk3 κ F135 R N135 R λp=>Je3 R<|Jq<|Je3 R ?_
 have H:(p0.length:Int)<=9223372036854775807:=i.len_le
 refine Ob h λv M q=>?_
 clear h
 refine Jx1 (λL w'=>∃κ',L=[]/\Stp [] κ w κ' w'/\v=cb ()) ?_ ?_
 refine Jv<|Jp3 [0,1,2] (λk E L w'=>∃κ' b,L=(7,vi b)::E/\Stp [] κ w κ' w'/\0<=b/\hV ((p0.length:Int)-b)=k/\cntM (jq p0 p1 p2) k b ()=some v) ⟨_,_,⟨κ,0,R,Jj3,(by decide),(by simp),M⟩,(KM R)⟩ ?_
 rintro k _ T ⟨f,b,rfl,d,I,ab,h⟩
 rcases k with _ | k
 have e:=h;obtain⟨S,h⟩:=cw (cb (eg ()):Int⊕((Unit)⊕(Unit)))
 have c:decide (b<(p0.length:Int))=false:=Jo2 (by omega)
 refine Jq<|Jg3 [2,2,2,2] 2 R<|Jn3 R U80 R R<|Jb 1 R<|Jw2 R c<|Jc1<|Jt<|Jt ?_
 cases h
 have h:=e
 refine Jb1 ?_
 cases h
 exact Jw1 _ ⟨f,R,d.wk R,R⟩ KN
 obtain⟨S,h,e⟩:=BI h;unfold jq at h
 have c:decide (b<(p0.length:Int))=true:=Jn2 (by omega)
 refine Jq<|Jg3 [2,2,2,2] 2 R<|Jn3 R U80 R R<|Jb 1 R<|Jv2 R c<|Js<|Jp<|Jq<|Jv<|Jg3 [2,2,2,2,1,2,2,2,2,2,2,2,1,2,1,2] 2 R<|Ob h λU s h=>Jc3 R i s U80 Z88<|Jd3 R U88 R Z2 ?_
 have g:=i.stp d
 obtain⟨Y,N,J⟩:=(g).gSt s
 obtain⟨W,ag,rfl,aa⟩:=Place.un N
 refine Jb3 R I2 (λw' j=>J w' j 0 _ R)<|Jn 3 R<|Ob h λu h G=>Jf4 [0,1,2,7] 29 u f T [(8,2),(9,2),(10,2),(11,2),(12,1),(13,2),(14,1),(15,2)] [] tv ?_ ?_
 revert h
 cases ac:(U.At==p1)
 refine JF λh=>Jn 4 R<|Jz3 R<|Jn 1 R<|Jz3 R<|Jn 1 R ?_
 cases h
 exact Jg4 tv R
 refine JT λh=>Jn 2 R<|Ob h λal t h=>Jc3 R g t U80 Z88<|Jd3 R U88 R Z37 ?_
 obtain⟨Z,O,K⟩:=(g).gSt t
 obtain⟨X,ah,rfl,D⟩:=Place.un O
 refine Jb3 R I37 (λw' j=>K w' j 1 _ R)<|Jn 1 R<|Ob h λam Q h=>Jr3 R C198 (pc (κ:=Mk f) (Ji3 D) (Ji3<|F.stp d) Q) ?_
 rintro _ ai ⟨ae,rfl,C⟩
 obtain⟨V,A,af⟩:=Ji C 2 R
 refine Tv<|Jn 1 R ?_
 cases h
 exact Jv1 _ tv ⟨R,_,A.wk R⟩<|KM R
 rintro _ aj _ ⟨rfl,m,n⟩
 have h:=G
 refine Jd ?_
 revert h
 cases ad:u
 refine JF λh=>Jy R<|Js<|Jz<|Jp<|Jf3 R ?_
 have P:bM .i64 (b+1)=b+1:=wr1 I (Jm2 c) H
 rw[P]
 have c:=Jm2 c
 cases h
 exact Jz1 λa ha=>⟨k,_,Ja3 _,⟨m,b+1,R,(d.tr n).wk R,by omega,by omega,e⟩,(ha.mm R)⟩
 refine JT λh=>Jx R<|Je3 R<|Ju<|Ja1<|Jw<|Jw ?_
 cases h
 obtain rfl:=Option.some.inj e
 have h:=yL q
 refine Ja1<|Jq2<|Jw<|Ja2 (l:=[.tmp 6]) V135 (Jp2 R R) R ?_
 cases h
 exact⟨m,R,(p.stp<|d.tr n)⟩
 rintro _ ak ⟨z,rfl,B,rfl⟩
 have h:=yI q
 refine Jp<|Je3 R<|Ju<|Ja2 (l:=[.tmp 6]) V135 (Jp2 R R) R ?_
 cases h
 exact⟨z,R,(p.stp B)⟩
theorem sy {z K}{p0:(List Pair)}{a1 M}{p1:(List Int)}{p2:Int}(A:Rd Pair.rp κ w 0 z K p0) (t:Rd (Rp.int .i64) κ w 0 a1 M p1){r:Int}(h:lY p0 p1 p2=some r):Ret Tryz.prog 137 [.slice z p0.length K,.slice a1 p1.length M,vi p2] w (Pvi κ w r):=by
 unfold lY at h
 refine Jk3 κ F137 R N137 R λu=>Je3 R<|Je3 R<|Je3 R<|Jq<|Je3 R ?_
 have ab:(p1.length:Int)<=9223372036854775807:=t.len_le
 refine Ob h λH af X=>?_
 clear h
 refine Jx1 (λL w'=>∃κ',∃d:Int×Int,L=[(7,vi d.1),(8,vi d.2)]/\Stp [] κ w κ' w'/\H=cb d) ?_ ?_
 refine Jv<|Jp3 [0,1,2] (λk E L w'=>∃κ' b,∃c:Int×Int,L=(7,vi c.1)::(8,vi c.2)::(9,vi b)::E/\Stp [] κ w κ' w'/\0<=b/\hV ((p1.length:Int)-b)=k/\cntM (js p0 p1 p2) k b c=some H) ⟨_,_,⟨κ,0,(((-1):Int),((-1):Int)),R,Jj3,(by decide),(by simp),af⟩,(KM R)⟩ ?_
 rintro k _ aS ⟨y,b,c,rfl,f,ac,aB,h⟩
 rcases k with _ | k
 have v:=h;obtain⟨al,h⟩:=cw (cb (eg c):Int⊕((Int×Int)⊕(Int×Int)))
 have e:decide (b<(p1.length:Int))=false:=Jo2 (by omega)
 refine Jq<|Jg3 [2,2,2,2] 2 R<|Jn3 R U37 R R<|Jb 1 R<|Jw2 R e<|Jc1<|Jt<|Jt ?_
 cases h
 have h:=v
 refine Jb1 ?_
 cases h
 exact Jw1 _ ⟨y,(c.1,c.2),R,f.wk R,R⟩<|KM R
 obtain⟨al,h,v⟩:=BI h;unfold js at h
 have e:decide (b<(p1.length:Int))=true:=Jn2 (by omega)
 refine Jq<|Jg3 [2,2,2,2] 2 R<|Jn3 R U37 R R<|Jb 1 R<|Jv2 R e<|Js<|Jp<|Jq<|Jv<|Jq<|Jg3 [2,2,2,2,1,2,2,1,2,1] 3 R<|Ob h λaT B h=>Jc3 R t B U37 Z2 ?_
 have q:=t.stp f
 refine Jb3 R I2 (q.gInt B)<|Ob h λaU C h=>Jc3 R A C U69 Z127<|Jd3 R U127 R Z37 ?_
 have s:=A.stp f
 obtain⟨ax,ag,ad⟩:=(s).gSt C
 obtain⟨ar,aL,au,aM,rfl,V,az⟩:=Pair.un ag
 refine Jb3 R I37 (λw' x=>ad w' x 0 _ R)<|Jn 1 R<|Ob h λap aj h=>Jr3 R C197 (nf (κ:=Mk y) (Ji3 V) aj) ?_
 rintro _ am ⟨aH,rfl,T⟩
 obtain⟨g,m,aJ⟩:=Ji T 2 R
 refine Tv<|Jd<|Ob h λI h Y=>Jo3 [0,1,2,8,9] (λE L w'=>∃κ',L=(7,vi I)::E/\Stp [] g am κ' w') ?_ ?_
 revert h
 cases aC:ap
 refine JF λh=>Jy R<|Js ?_
 cases h
 exact Jw1 _ ⟨g,R,Jj3⟩<|KM R
 refine JT λh=>Jx R<|Jf3 R ?_
 cases h
 exact Jw1 _ ⟨g,R,Jj3⟩<|KM R
 rintro _ aP ⟨N,rfl,n⟩
 have h:=Y
 refine Jp<|Jg3 [2,2,2,2,1,2,2,1,2,1] 3 R<|Ob h λaV D h=>Jc3 R q D U37 Z2<|Jb3 R I2 ((q.stp<|m.tr n).gInt D)<|Ob h λaW F h=>Jc3 R s F U69 Z127<|Jd3 R U127 R Z37 ?_
 obtain⟨ay,ah,ae⟩:=((s.stp (m.tr n))).gSt F
 obtain⟨av,aN,aw,aO,rfl,aA,W⟩:=Pair.un ah
 refine Jb3 R I37 (λw' x=>ae w' x 1 _ R)<|Jn 1 R<|Ob h λaq ak h=>Jr3 R C197 (nf (κ:=Mk N) (Ji3 W) ak) ?_
 rintro _ an ⟨aI,rfl,U⟩
 obtain⟨i,Q,aK⟩:=Ji U 4 R
 refine Tv<|Jd<|Ob h λJ h Z=>Jo3 [0,1,2,7,9] (λE L w'=>∃κ',L=(8,vi J)::E/\Stp [] i an κ' w') ?_ ?_
 revert h
 cases aD:aq
 refine JF λh=>Jy R<|Js ?_
 cases h
 exact Jw1 _ ⟨i,R,Jj3⟩<|KM R
 refine JT λh=>Jx R<|Jf3 R ?_
 cases h
 exact Jw1 _ ⟨i,R,Jj3⟩<|KM R
 rintro _ aQ ⟨O,rfl,S⟩
 have h:=Z
 refine Jz<|Jp<|Jf3 R ?_
 have ai:bM .i64 (b+1)=b+1:=wr1 ac (Jm2 e) ab
 rw[ai]
 have e:=Jm2 e
 cases h
 exact Jz1 λa ha=>⟨k,_,Ja3 _,⟨O,b+1,(I,J),R,(T5 f m n Q S).wk R,by omega,by omega,v⟩,(ha.mm R)⟩
 rintro _ ao ⟨P,d,rfl,p,rfl⟩
 have h:=yI X
 refine Jp<|Jq<|Jv<|Jg3 [2,2,2,2,2,2,2] 3 R<|Ob h λG h aa=>Jf4 [7,8] 44 G P ao [(3,2),(4,2),(5,2)] [(6,2)] tv ?_ ?_
 revert h
 cases aE:decide (d.1<0)
 refine JF λh=>Jn 3 R ?_
 cases h
 exact Jg4 tv R
 refine JT λh=>Jn 3 R ?_
 cases h
 exact Jg4 tv R
 rintro _ aR _ ⟨rfl,j,o⟩
 have h:=aa
 refine Jb 1 R ?_
 revert h
 cases aF:G
 refine JF λh=>Jy R<|Je3 R ?_
 revert h
 cases aG:decide (d.2<d.1)
 refine JF λh=>Jy R<|Js<|Jz<|Jp<|Je3 R<|Ju<|Ja2 (l:=[.tmp 6]) V137 (Jp2 R R) R ?_
 cases h
 exact⟨j,R,(u.stp<|p.tr o)⟩
 refine JT λh=>Jx R<|Je3 R<|Ju<|Ja1<|Jw<|Ja2 (l:=[.tmp 6]) V137 (Jp2 R R) R ?_
 cases h
 exact⟨j,R,(u.stp<|p.tr o)⟩
 refine JT λh=>Jx R<|Je3 R<|Ju<|Ja1<|Jw<|Ja2 (l:=[.tmp 6]) V137 (Jp2 R R) R ?_
 cases h
 exact⟨j,R,(u.stp<|p.tr o)⟩
theorem sL {v y t z u x}{p0:Parity}{a1 J}{p1:(List Int)}(ad:Rd (Rp.int .i64) κ w 0 v y p0.Arena.Owner) (B:Rd (Rp.sl (Rp.int .i64)) κ w 0 t z p0.Arena.Next) (ae:Rd (Rp.int .i64) κ w 0 u x p0.Prio) (o:Rd (Rp.int .i64) κ w 0 a1 J p1){r:Bool}(h:mh p0 p1=some r):Ret Tryz.prog 273 [.agg #[.slice v p0.Arena.Owner.length y,.slice t p0.Arena.Next.length z,.slice u p0.Prio.length x],.slice a1 p1.length J] w (Pvb κ w r):=by
 unfold mh at h
 refine Jk3 κ F273 R N273 R λp=>Je [1,2] R<|Js3 (κ:=κ) 2 R λac w1 i f A=>Tv<|Jb 1 R<|Jq<|Jg3 [2,2,2,1,2,2] 1 R<|Jn3 R U37 R R<|Jd3 R U79 R Z37<|Jb3 R I37 (A.ld 2 R R)<|Jn3 R U37 R R<|Jb 1 R ?_
 revert h
 cases ai:((p1.length:Int) !=(p0.Prio.length:Int))
 refine JF λh=>Jy R<|Js<|Jp<|Jq<|Je3 R ?_
 have Q:(p1.length:Int)<=9223372036854775807:=o.len_le
 refine Ob h λI U C=>?_
 clear h
 refine Jx1 (λL w'=>∃κ',L=[]/\Stp [] i w1 κ' w'/\I=cb ()) ?_ ?_
 refine Jv<|Jp3 [1,2] (λk E L w'=>∃κ' b,L=(5,vi b)::E/\Stp [] i w1 κ' w'/\0<=b/\hV ((p1.length:Int)-b)=k/\cntM (jA p0 p1) k b ()=some I) ⟨_,_,⟨i,0,R,Jj3,(by decide),(by simp),U⟩,(KM R)⟩ ?_
 rintro k _ an ⟨g,b,rfl,c,S,af,h⟩
 rcases k with _ | k
 have j:=h;obtain⟨X,h⟩:=cw (cb (eg ()):Bool⊕((Unit)⊕(Unit)))
 have d:decide (b<(p1.length:Int))=false:=Jo2 (by omega)
 refine Jq<|Jg3 [2,2,2,2] 2 R<|Jn3 R U37 R R<|Jb 1 R<|Jw2 R d<|Jc1<|Jt<|Jt ?_
 cases h
 have h:=j
 refine Jb1 ?_
 cases h
 exact Jw1 _ ⟨g,R,c.wk R,R⟩ KN
 obtain⟨X,h,j⟩:=BI h;unfold jA at h
 have d:decide (b<(p1.length:Int))=true:=Jn2 (by omega)
 refine Jq<|Jg3 [2,2,2,2] 2 R<|Jn3 R U37 R R<|Jb 1 R<|Jv2 R d<|Js<|Jp<|Jq<|Jv<|Jq<|Js1 (κ:=g) [0,2] none [(0,2),(1,2),(2,2),(3,0),(4,2),(5,2),(6,2),(7,2),(9,2),(12,2),(13,2),(14,2),(8,0),(10,2),(11,0),(15,0),(16,1),(17,2),(18,2)] [] (by kernel_rfl) (by kernel_rfl) λY e=>Jn 2 R<|Ob h λZ D h=>Jc3 R o D U37 Z2 ?_
 have n:=o.stp (T3 f c e)
 refine Jg R (Jc2 I2 R R<|hvC (n.gInt D) R)<|Jn 2 R<|Ob h λH h P=>Jf4 [1,2,5] 36 H g Y [(6,2),(7,2),(9,2),(12,2),(13,2),(14,2),(8,0),(10,2),(11,0),(15,0),(16,1),(17,2),(18,2)] [] (Cl.refl _ _ _) ?_ ?_
 revert h
 cases ag:(Z !=(-1))
 refine JF λh=>Jn 6 R<|Ja4 R<|Jn 1 R<|Ja4 R<|Ja4 R<|Jz3 R<|Jn 2 R ?_
 cases h
 exact Jv1 _ (Cl.refl _ _ _) ⟨R,_,Jj3⟩<|KM R
 refine JT λh=>Jd3 R U79 R Z75<|Jd3 R U75 R Z31<|Jn 3 R<|Ob h λar G h=>Jc3 R n G U37 Z2<|Jg R (Jc2 I31 R R<|hvC ((A.stp<|c.tr e).ld 1 R R) R)<|Ob h λaq F h=>Jc3 R B F U31 Z37 ?_
 obtain⟨ab,al,O,T⟩:=(B.stp (T3 f c e)).gSl F
 refine Jg R (Jc2 I37 R R<|hvC T R)<|Jg R (Jc2 I2 R R<|hvC (n.gInt G) R)<|Ob h λau W h=>Jr3 R C284 (sJ (κ:=Mk g) (Ji3 O) W) ?_
 rintro _ ao ⟨aj,rfl,N⟩
 obtain⟨aa,m,ak⟩:=Ji N 3 R
 refine⟨(m.cl R),Jn 2 R ?_⟩
 cases h
 exact Jv1 _ (m.cl R) ⟨R,_,m.wk R⟩<|KM R
 rintro _ ap _ ⟨rfl,q,s⟩
 have h:=P
 refine Jt1<|Jd ?_
 revert h
 cases ah:H
 refine JF λh=>Jy R<|Js<|Jz<|Jp<|Jf3 R ?_
 have V:bM .i64 (b+1)=b+1:=wr1 S (Jm2 d) Q
 rw[V]
 have d:=Jm2 d
 cases h
 exact Jz1 λa ha=>⟨k,_,Ja3 _,⟨q,b+1,R,(T3 c e s).wk R,by omega,by omega,j⟩,(ha.mm R)⟩
 refine JT λh=>Jx R<|Je3 R<|Ju<|Ja1<|Jw<|Jw ?_
 cases h
 obtain rfl:=Option.some.inj j
 have h:=yL C
 refine Ja1<|Jq2<|Jw<|Ja2 (l:=[.tmp 4]) V273 (Jp2 R R) R ?_
 cases h
 exact⟨q,R,(p.stp<|T4 f c e s)⟩
 rintro _ am ⟨K,rfl,M,rfl⟩
 have h:=yI C
 refine Jp<|Je3 R<|Ju<|Ja2 (l:=[.tmp 4]) V273 (Jp2 R R) R ?_
 cases h
 exact⟨K,R,(p.stp<|f.tr M)⟩
 refine JT λh=>Jx R<|Je3 R<|Ju<|Jw<|Ja2 (l:=[.tmp 4]) V273 (Jp2 R R) R ?_
 cases h
 exact⟨i,R,(p.stp f)⟩
theorem p7 {f e}{p0:dice}{p1:Int}{p2:Int}{g}(X:Rd (Rp.int .u8) κ w 0 f e p0.b) (Y:Bc κ w 2 g 65 [.slice f p0.b.length e,vi p0.i,.int .u64 p0.h]){r:(List Int)×Int×Int}(h:nv p0 p1 p2=some r):Ret Tryz.prog 26 [.pointer (some ⟨g,0,none⟩),vi p1,vi p2] w (λv w'=>∃(κ':Col) (D:Option Addr) (F:Nat),v= .slice D r.1.length F/\Ent κ w κ' w'/\Oc E6 2 κ' w' 3 D F r.1/\Bc κ' w' 2 g 65 [.slice f p0.b.length e,vi r.2.1,.int .u64 r.2.2]):=by
 unfold nv at h
 refine Jk3 κ F26 R N26 R λZ=>Je3 R<|Je [1,2] R<|Jx3 (κ:=κ) (E:=E6) 3 R Y37 bS R λM af w1 o q W=>Tv<|Jb 1 R<|Jq<|Ob h λC ab aa=>?_
 clear h
 refine Jo3 [0] (λE L w'=>∃κ',∃d:Int×(List Int)×Int×Int,∃j m,L=(7,.slice j d.2.1.length m)::E/\Stp [2,3,6] o w1 κ' w'/\Oc E6 2 κ' w' 3 j m d.2.1/\Bc κ' w' 2 g 65 [.slice f p0.b.length e,vi d.2.2.1,.int .u64 d.2.2.2]/\C=cb d) ?_ ?_
 refine Jv<|Jp3 [0,1] (λk E L w'=>∃κ',∃c:Int×(List Int)×Int×Int,∃n i,L=(2,vi c.1)::(7,.slice n c.2.1.length i)::E/\Stp [2,3,6] o w1 κ' w'/\Oc E6 2 κ' w' 3 n i c.2.1/\Bc κ' w' 2 g 65 [.slice f p0.b.length e,vi c.2.2.1,.int .u64 c.2.2.2]/\cu (kJ p0 p1) k c=some C) ⟨_,_,⟨o,(p2,(([]:List Int):(List Int)),p0.i,p0.h),M,af,R,Jj3,W,(Y.stp q),ab⟩,(KM R)⟩ ?_
 rintro k _ am ⟨u,c,n,i,rfl,p,z,A,h⟩
 rcases k with _ | k
 cases h
 obtain⟨al,h,B⟩:=BI h;unfold kJ at h
 refine Jq<|Je3 R ?_
 revert h
 cases aj:decide (0<c.1)
 refine JF λh=>Jy R<|Jc1<|Jt<|Jt ?_
 cases h
 have h:=B
 refine Jb1 ?_
 cases h
 exact Jw1 _ ⟨u,(c.1,c.2.1,c.2.2.1,c.2.2.2),n,i,R,p.wk R,z,A,R⟩<|KM R
 refine JT λh=>Jx R<|Js<|Jp<|Jq<|Jv<|Jh3 [2,2,2,1,1,1,2] 3 R<|Ob h λt ac h=>Jr3 R C25 (cW (κ:=λb=>mp [(2,2)] 0<|u b) (p0:=(⟨p0.b,c.2.2.1,c.2.2.2⟩:dice)) (Jl2 (X.stp<|q.tr p) (mp [(2,2)] 0) R R) (A.map (mp [(2,2)] 0) R R) ac) ?_
 rintro _ an ⟨ak,rfl,P,T⟩
 obtain⟨G,x,ae⟩:=Ji P 4 R
 refine Tv<|Jd4 (κ:=G) 7 [t.1] R Y37 bS R λai ah ao H s U=>Tv<|Ob h λag ad h=>Jy3 (κ:=H) (E:=E6) 3 [] R Y37 bS R (z.stp<|x.tr s) (Sl.srcP (bY _) U.rdc) bU ad R λO N ap I y V=>Tv<|Jc 1 R<|Jz<|Jp<|Jf3 R ?_
 cases h
 exact Jz1 λa ha=>⟨k,_,Ja3 _,⟨(λb=>ren [(6,2)]<|I b),(((IntKind.i64.wrap<|c.1-1):Int),ag,t.2.1,t.2.2),O,N,R,(Jy2 ((T4 p x s y).wk R) [(6,2)] R),(V.map (ren [(6,2)]) R R),(((T.mx ae R (R:4+2=6)).stp (s.tr y)).map (ren [(6,2)]) R R),B⟩,(ha.mm R)⟩
 rintro _ aq ⟨J,d,j,m,rfl,K,Q,S,rfl⟩
 have h:=yI aa
 refine Jp<|Je3 R<|Ju<|Ja2 (l:=[.tmp 6]) V26 (Jp2 R R) R ?_
 cases h
 exact⟨J,j,m,R,(Z.stp<|q.tr K),Q,S⟩
theorem ch {a b}{p0:(List Int)}{p1:Int}(f:Rd (Rp.int .i64) κ w 0 a b p0){r:Bool}(h:bW p0 p1=some r):Ret Tryz.prog 89 [.slice a p0.length b,vi p1] w (Pvb κ w r):=by
 unfold bW at h
 refine Jk3 κ F89 R N89 R λg=>Je3 R<|Jg3 [2,2,1,2,2] 2 R<|Ob h λm i h=>Jr3 R C49 (jb (κ:=Mk κ) (Ji3 f) i) ?_
 rintro _ w1 ⟨j,rfl,e⟩
 obtain⟨c,d,k⟩:=Ji e 2 R
 refine Tv<|Jb 2 R<|Ju<|Ja2 (l:=[.tmp 4]) V89 (Jp2 R R) R ?_
 cases h
 exact⟨c,R,(g.stp d)⟩
theorem fY (n:Nat):∀{w:World}{κ:Col}{p0:Int}{a1 N}{p1:(List (List Int))}{t x}{m:(List Int)}{i l}{c0:(List Bool)}{G O}{c1:(List Bool)}{j y z A}(J:Rd (Rp.sl (Rp.int .i64)) κ w 0 a1 N p1) (X:Oc E6 2 κ w 2 t x m) (K:Oc Ep.bool 4 κ w 3 i l c0) (M:Rd Rp.bool κ w 0 G O c1) (Y:Bc κ w 4 j 37 [.slice t m.length x]) (C:Bc κ w 0 y 178 [.slice i c0.length l]) (Z:Bc κ w 0 z 178 [.slice G c1.length O]) (aa:Bc κ w 0 A 226 [.func (.func 218) #[] #[.pointer (some ⟨y,0,none⟩),.pointer (some ⟨z,0,none⟩),.pointer (some ⟨A,0,none⟩)]]){r:(List Int)×(List Bool)}(h:bV n p0 p1 m c0 c1=some r),Ret Tryz.prog 218 [vi p0,.slice a1 p1.length N,.func (.func 219) #[] #[.pointer (some ⟨j,0,none⟩)],.pointer (some ⟨y,0,none⟩),.pointer (some ⟨z,0,none⟩),.pointer (some ⟨A,0,none⟩)] w (λv w'=>∃(κ':Col) (ap:Option Addr) (aq:Nat),v= .tuple #[]/\Ent κ w κ' w'/\Oc E6 2 κ' w' 2 ap aq r.1/\Oc Ep.bool 4 κ' w' 3 i l r.2/\c0.length=r.2.length/\Bc κ' w' 4 j 37 [.slice ap r.1.length aq]):=by
 induction n with
 | zero=>
  intro w κ p0 a1 N p1 t x m i l c0 G O c1 j y z A J X K M Y C Z aa r h
  cases h
 | succ n bc=>
  intro w κ p0 a1 N p1 t x m i l c0 G O c1 j y z A J X K M Y C Z aa r h
  have h:cC (bV n) p0 p1 m c0 c1=some r:=h
  unfold cC at h
  refine Jk3 κ F218 R N218 R λaV=>Je [1,2,2,1] R<|Jb3 R I178 (C.ld 0 R R)<|Jn 1 R<|Ob h λbs a9 h=>Jc3 R K.rdc a9 U178 Z4<|Ob h λav an h=>Jk1 (κ:=κ) (E:=Ep.bool) 3 [] R R R R R R R R Z4 R R R R K an λw1 P f aM=>Tv<|?_
  have a5:c0.length=av.length:=(Jt2 an).2.2.2.symm
  refine Jd<|Jq<|Jg3 [2,2,2,1,2,2] 2 R<|Ob h λF aj h=>Jc3 R J aj U31 Z37 ?_
  have ai:=J.stp f
  obtain⟨bh,bn,W,a2⟩:=ai.gSl aj
  refine Jb3 R I37 a2<|Jn3 R U37 R R<|Jb 1 R ?_
  have aZ:(F.length:Int)<=9223372036854775807:=W.len_le
  refine Ob h λau a7 aW=>?_
  clear h
  refine Jo3 [0,2,3,4,5] (λE L w'=>∃κ',∃q:(List Int)×(List Bool),∃S T,L=E/\Stp [2,3,4,7,8,9] P w1 κ' w'/\Oc E6 2 κ' w' 2 S T q.1/\Oc Ep.bool 4 κ' w' 3 i l q.2/\c0.length=q.2.length/\Bc κ' w' 4 j 37 [.slice S q.1.length T]/\au=cb q) ?_ ?_
  refine Jv<|Jp3 [0,1,2,3,4,5,17,18] (λk E L w'=>∃κ' d,∃g:(List Int)×(List Bool),∃u s,L=(19,vi d)::E/\Stp [2,3,4,7,8,9] P w1 κ' w'/\Oc E6 2 κ' w' 2 u s g.1/\Oc Ep.bool 4 κ' w' 3 i l g.2/\c0.length=g.2.length/\Bc κ' w' 4 j 37 [.slice u g.1.length s]/\0<=d/\hV ((F.length:Int)-d)=k/\cntM (cz (bV n) p1 c1 F) k d g=some au) ⟨_,_,⟨P,0,(m,av),t,x,R,Jj3,(X.stp f),aM,a5,(Y.stp f),(by decide),(by simp),a7⟩,(KM R)⟩ ?_
  rintro k _ be ⟨ad,d,g,u,s,rfl,e,U,B,D,V,a0,bi,h⟩
  rcases k with _ | k
  have ab:=h;obtain⟨bd,h⟩:=cw (cb (eg g):((List Int)×(List Bool))⊕(((List Int)×(List Bool))⊕((List Int)×(List Bool))))
  have o:decide (d<(F.length:Int))=false:=Jo2 (by omega)
  refine Je3 R<|Jq<|Jw2 R o<|Jc1<|Jt<|Jt ?_
  cases h
  have h:=ab
  refine Jb1 ?_
  cases h
  exact Jw1 _ ⟨ad,(g.1,g.2),u,s,R,e.wk R,U,B,D,V,R⟩<|KM R
  obtain⟨bd,h,ab⟩:=BI h;unfold cz at h
  have o:decide (d<(F.length:Int))=true:=Jn2 (by omega)
  refine Je3 R<|Jq<|Jv2 R o<|Js<|Jp<|Jq<|Jv<|Je [2,1,2] R<|Ob h λbt ak h=>Jc3 R W ak U37 Z2<|Jb3 R I2 ((W.stp e).gInt ak)<|Jb 1 R<|Je [1,2,2,1,2,1,2,2,1,2,2] R ?_
  have af:=Z.stp (f.tr e)
  refine Jb3 R I178 (af.ld 0 R R)<|Jn 1 R<|Ob h λbg al h=>Jc3 R M al U178 Z4 ?_
  have ag:=M.stp (f.tr e)
  refine Jb3 R I4 (ag.gBool al)<|Jn 1 R<|Ob h λar h aX=>Jf4 [0,1,2,3,4,5,10,17,18,19] 33 ar ad be [(5,1),(6,2),(7,2),(8,1),(9,2),(10,2)] [] tv ?_ ?_
  revert h
  cases bj:bg
  refine JF λh=>Jz3 R<|Jn 2 R<|Jz3 R<|Jn 2 R ?_
  cases h
  exact Jg4 tv R
  refine JT λh=>Jb3 R I178 ((C.stp<|f.tr e).ld 0 R R)<|Jn 1 R<|Ob h λbu am h=>Jf R (Jf2 B.rdc am U178 Z4 R R D R)<|Jb3 R I4 (B.rdc.gBool am)<|Jn 2 R ?_
  cases h
  exact Jg4 tv R
  rintro _ bf _ ⟨rfl,Q,c⟩
  have h:=aX
  refine Jd<|Ob h λp h aY=>Jo3 [0,1,2,3,4,5,17,18,19] (λE L w'=>∃κ' H I,L=E/\Stp [2,3,4,7,8,9] Q bf κ' w'/\Oc E6 2 κ' w' 2 H I p.1/\Oc Ep.bool 4 κ' w' 3 i l p.2/\c0.length=p.2.length/\Bc κ' w' 4 j 37 [.slice H p.1.length I]) ?_ ?_
  revert h
  cases bk:ar
  refine JF λh=>Jy R<|Js ?_
  cases h
  exact Jw1 _ ⟨Q,u,s,R,Jj3,(U.stp c),(B.stp c),D,(V.stp c)⟩<|KM R
  refine JT λh=>Jx R<|Ja [1,2,2,2,1] R ?_
  have ah:=aa.stp (T3 f e c)
  refine Jb3 R I226 (ah.ld 0 R R)<|Jn 3 R<|Ob h λbv ba h=>WO.callV R R R R R R R R C218 (bc (κ:=λb=>mp [(2,2),(3,3),(4,4)] 0<|Q b) (Jl2 (ai.stp<|e.tr c) (mp [(2,2),(3,3),(4,4)] 0) R R) ((U.stp c).map (mp [(2,2),(3,3),(4,4)] 0) R R) ((B.stp c).map (mp [(2,2),(3,3),(4,4)] 0) R R) (Jl2 (ag.stp c) (mp [(2,2),(3,3),(4,4)] 0) R R) ((V.stp c).map (mp [(2,2),(3,3),(4,4)] 0) R R) (Bc.cast ((C.stp<|T3 f e c).map (mp [(2,2),(3,3),(4,4)] 0) R R) (by simp only[D])) ((af.stp c).map (mp [(2,2),(3,3),(4,4)] 0) R R) (ah.map (mp [(2,2),(3,3),(4,4)] 0) R R) ba) ?_
  rintro _ bq ⟨bl,aE,aF,rfl,aH,aQ,aR,a6,aS⟩
  obtain⟨ay,aC,ac⟩:=Ji aH 5 R
  refine Tv<|Jo ?_
  cases h
  exact Jw1 _ ⟨(λb=>ren [(7,2),(8,3),(9,4)]<|ay b),aE,aF,R,(Jy2 (aC.wk R) [(7,2),(8,3),(9,4)] R),((aQ.mx (cc _) ac R (R:5+2=7)).map (ren [(7,2),(8,3),(9,4)]) R R),((aR.mx eS ac R (R:5+3=8)).map (ren [(7,2),(8,3),(9,4)]) R R),(D.trans a6),((aS.mx ac R (R:5+4=9)).map (ren [(7,2),(8,3),(9,4)]) R R)⟩<|KM R
  rintro _ bp ⟨ax,H,I,rfl,aB,aN,aO,a4,aP⟩
  have h:=aY
  refine Jz<|Jp<|Jf3 R ?_
  have a8:bM .i64 (d+1)=d+1:=wr1 a0 (Jm2 o) aZ
  rw[a8]
  have o:=Jm2 o
  cases h
  exact Jz1 λa ha=>⟨k,_,Ja3 _,⟨ax,d+1,(p.1,p.2),H,I,R,(T3 e c aB).wk R,aN,aO,a4,aP,by omega,by omega,ab⟩,(ha.mm R)⟩
  rintro _ bo ⟨aw,q,S,T,rfl,aA,aJ,aK,a3,aL,rfl⟩
  have h:=yI aW
  refine Jp<|Jh3 [2,2,1] 2 R<|Ob h λbw bb h=>WO.callV R R R R R R R R C219 (pV (κ:=λb=>mp [(2,2),(4,3)] 0<|aw b) (aJ.map (mp [(2,2),(4,3)] 0) R R) (aL.map (mp [(2,2),(4,3)] 0) R R) bb) ?_
  rintro _ br ⟨bm,aD,aG,rfl,aI,aT,aU⟩
  obtain⟨az,ae,ao⟩:=Ji aI 5 R
  refine Tv<|Jo<|DN.end0 V218 ?_
  cases h
  exact⟨(λb=>ren [(7,2),(8,4)]<|az b),aD,aG,R,((aV.stp<|T3 f aA ae).map (ren [(7,2),(8,4)]) R R),((aT.mx (cc _) ao R (R:5+2=7)).map (ren [(7,2),(8,4)]) R R),((aK.stp ae).map (ren [(7,2),(8,4)]) R R),a3,((aU.mx ao R (R:5+3=8)).map (ren [(7,2),(8,4)]) R R)⟩
theorem fZ (n:Nat):∀{w:World}{κ:Col}{p0:Int}{a1 N}{p1:(List (List Int))}{t x}{m:(List Int)}{i l}{c0:(List Bool)}{G O}{c1:(List Bool)}{j y z A}(J:Rd (Rp.sl (Rp.int .i64)) κ w 0 a1 N p1) (X:Oc E6 2 κ w 2 t x m) (K:Oc Ep.bool 4 κ w 3 i l c0) (M:Rd Rp.bool κ w 0 G O c1) (Y:Bc κ w 4 j 37 [.slice t m.length x]) (C:Bc κ w 0 y 178 [.slice i c0.length l]) (Z:Bc κ w 0 z 178 [.slice G c1.length O]) (aa:Bc κ w 0 A 226 [.func (.func 218) #[] #[.pointer (some ⟨y,0,none⟩),.pointer (some ⟨z,0,none⟩),.pointer (some ⟨A,0,none⟩)]]){r:(List Int)×(List Bool)}(h:cv n p0 p1 m c0 c1=some r),Ret Tryz.prog 218 [vi p0,.slice a1 p1.length N,.func (.func 220) #[] #[.pointer (some ⟨j,0,none⟩)],.pointer (some ⟨y,0,none⟩),.pointer (some ⟨z,0,none⟩),.pointer (some ⟨A,0,none⟩)] w (λv w'=>∃(κ':Col) (ap:Option Addr) (aq:Nat),v= .tuple #[]/\Ent κ w κ' w'/\Oc E6 2 κ' w' 2 ap aq r.1/\Oc Ep.bool 4 κ' w' 3 i l r.2/\c0.length=r.2.length/\Bc κ' w' 4 j 37 [.slice ap r.1.length aq]):=by
 induction n with
 | zero=>
  intro w κ p0 a1 N p1 t x m i l c0 G O c1 j y z A J X K M Y C Z aa r h
  cases h
 | succ n bc=>
  intro w κ p0 a1 N p1 t x m i l c0 G O c1 j y z A J X K M Y C Z aa r h
  have h:cO (cv n) p0 p1 m c0 c1=some r:=h
  unfold cO at h
  refine Jk3 κ F218 R N218 R λaV=>Je [1,2,2,1] R<|Jb3 R I178 (C.ld 0 R R)<|Jn 1 R<|Ob h λbs a9 h=>Jc3 R K.rdc a9 U178 Z4<|Ob h λav an h=>Jk1 (κ:=κ) (E:=Ep.bool) 3 [] R R R R R R R R Z4 R R R R K an λw1 P f aM=>Tv<|?_
  have a5:c0.length=av.length:=(Jt2 an).2.2.2.symm
  refine Jd<|Jq<|Jg3 [2,2,2,1,2,2] 2 R<|Ob h λF aj h=>Jc3 R J aj U31 Z37 ?_
  have ai:=J.stp f
  obtain⟨bh,bn,W,a2⟩:=ai.gSl aj
  refine Jb3 R I37 a2<|Jn3 R U37 R R<|Jb 1 R ?_
  have aZ:(F.length:Int)<=9223372036854775807:=W.len_le
  refine Ob h λau a7 aW=>?_
  clear h
  refine Jo3 [0,2,3,4,5] (λE L w'=>∃κ',∃q:(List Int)×(List Bool),∃S T,L=E/\Stp [2,3,4,7,8,9] P w1 κ' w'/\Oc E6 2 κ' w' 2 S T q.1/\Oc Ep.bool 4 κ' w' 3 i l q.2/\c0.length=q.2.length/\Bc κ' w' 4 j 37 [.slice S q.1.length T]/\au=cb q) ?_ ?_
  refine Jv<|Jp3 [0,1,2,3,4,5,17,18] (λk E L w'=>∃κ' d,∃g:(List Int)×(List Bool),∃u s,L=(19,vi d)::E/\Stp [2,3,4,7,8,9] P w1 κ' w'/\Oc E6 2 κ' w' 2 u s g.1/\Oc Ep.bool 4 κ' w' 3 i l g.2/\c0.length=g.2.length/\Bc κ' w' 4 j 37 [.slice u g.1.length s]/\0<=d/\hV ((F.length:Int)-d)=k/\cntM (c8 (cv n) p1 c1 F) k d g=some au) ⟨_,_,⟨P,0,(m,av),t,x,R,Jj3,(X.stp f),aM,a5,(Y.stp f),(by decide),(by simp),a7⟩,(KM R)⟩ ?_
  rintro k _ be ⟨ad,d,g,u,s,rfl,e,U,B,D,V,a0,bi,h⟩
  rcases k with _ | k
  have ab:=h;obtain⟨bd,h⟩:=cw (cb (eg g):((List Int)×(List Bool))⊕(((List Int)×(List Bool))⊕((List Int)×(List Bool))))
  have o:decide (d<(F.length:Int))=false:=Jo2 (by omega)
  refine Je3 R<|Jq<|Jw2 R o<|Jc1<|Jt<|Jt ?_
  cases h
  have h:=ab
  refine Jb1 ?_
  cases h
  exact Jw1 _ ⟨ad,(g.1,g.2),u,s,R,e.wk R,U,B,D,V,R⟩<|KM R
  obtain⟨bd,h,ab⟩:=BI h;unfold c8 at h
  have o:decide (d<(F.length:Int))=true:=Jn2 (by omega)
  refine Je3 R<|Jq<|Jv2 R o<|Js<|Jp<|Jq<|Jv<|Je [2,1,2] R<|Ob h λbt ak h=>Jc3 R W ak U37 Z2<|Jb3 R I2 ((W.stp e).gInt ak)<|Jb 1 R<|Je [1,2,2,1,2,1,2,2,1,2,2] R ?_
  have af:=Z.stp (f.tr e)
  refine Jb3 R I178 (af.ld 0 R R)<|Jn 1 R<|Ob h λbg al h=>Jc3 R M al U178 Z4 ?_
  have ag:=M.stp (f.tr e)
  refine Jb3 R I4 (ag.gBool al)<|Jn 1 R<|Ob h λar h aX=>Jf4 [0,1,2,3,4,5,10,17,18,19] 33 ar ad be [(5,1),(6,2),(7,2),(8,1),(9,2),(10,2)] [] tv ?_ ?_
  revert h
  cases bj:bg
  refine JF λh=>Jz3 R<|Jn 2 R<|Jz3 R<|Jn 2 R ?_
  cases h
  exact Jg4 tv R
  refine JT λh=>Jb3 R I178 ((C.stp<|f.tr e).ld 0 R R)<|Jn 1 R<|Ob h λbu am h=>Jf R (Jf2 B.rdc am U178 Z4 R R D R)<|Jb3 R I4 (B.rdc.gBool am)<|Jn 2 R ?_
  cases h
  exact Jg4 tv R
  rintro _ bf _ ⟨rfl,Q,c⟩
  have h:=aX
  refine Jd<|Ob h λp h aY=>Jo3 [0,1,2,3,4,5,17,18,19] (λE L w'=>∃κ' H I,L=E/\Stp [2,3,4,7,8,9] Q bf κ' w'/\Oc E6 2 κ' w' 2 H I p.1/\Oc Ep.bool 4 κ' w' 3 i l p.2/\c0.length=p.2.length/\Bc κ' w' 4 j 37 [.slice H p.1.length I]) ?_ ?_
  revert h
  cases bk:ar
  refine JF λh=>Jy R<|Js ?_
  cases h
  exact Jw1 _ ⟨Q,u,s,R,Jj3,(U.stp c),(B.stp c),D,(V.stp c)⟩<|KM R
  refine JT λh=>Jx R<|Ja [1,2,2,2,1] R ?_
  have ah:=aa.stp (T3 f e c)
  refine Jb3 R I226 (ah.ld 0 R R)<|Jn 3 R<|Ob h λbv ba h=>WO.callV R R R R R R R R C218 (bc (κ:=λb=>mp [(2,2),(3,3),(4,4)] 0<|Q b) (Jl2 (ai.stp<|e.tr c) (mp [(2,2),(3,3),(4,4)] 0) R R) ((U.stp c).map (mp [(2,2),(3,3),(4,4)] 0) R R) ((B.stp c).map (mp [(2,2),(3,3),(4,4)] 0) R R) (Jl2 (ag.stp c) (mp [(2,2),(3,3),(4,4)] 0) R R) ((V.stp c).map (mp [(2,2),(3,3),(4,4)] 0) R R) (Bc.cast ((C.stp<|T3 f e c).map (mp [(2,2),(3,3),(4,4)] 0) R R) (by simp only[D])) ((af.stp c).map (mp [(2,2),(3,3),(4,4)] 0) R R) (ah.map (mp [(2,2),(3,3),(4,4)] 0) R R) ba) ?_
  rintro _ bq ⟨bl,aE,aF,rfl,aH,aQ,aR,a6,aS⟩
  obtain⟨ay,aC,ac⟩:=Ji aH 5 R
  refine Tv<|Jo ?_
  cases h
  exact Jw1 _ ⟨(λb=>ren [(7,2),(8,3),(9,4)]<|ay b),aE,aF,R,(Jy2 (aC.wk R) [(7,2),(8,3),(9,4)] R),((aQ.mx (cc _) ac R (R:5+2=7)).map (ren [(7,2),(8,3),(9,4)]) R R),((aR.mx eS ac R (R:5+3=8)).map (ren [(7,2),(8,3),(9,4)]) R R),(D.trans a6),((aS.mx ac R (R:5+4=9)).map (ren [(7,2),(8,3),(9,4)]) R R)⟩<|KM R
  rintro _ bp ⟨ax,H,I,rfl,aB,aN,aO,a4,aP⟩
  have h:=aY
  refine Jz<|Jp<|Jf3 R ?_
  have a8:bM .i64 (d+1)=d+1:=wr1 a0 (Jm2 o) aZ
  rw[a8]
  have o:=Jm2 o
  cases h
  exact Jz1 λa ha=>⟨k,_,Ja3 _,⟨ax,d+1,(p.1,p.2),H,I,R,(T3 e c aB).wk R,aN,aO,a4,aP,by omega,by omega,ab⟩,(ha.mm R)⟩
  rintro _ bo ⟨aw,q,S,T,rfl,aA,aJ,aK,a3,aL,rfl⟩
  have h:=yI aW
  refine Jp<|Jh3 [2,2,1] 2 R<|Ob h λbw bb h=>WO.callV R R R R R R R R C220 (pW (κ:=λb=>mp [(2,2),(4,3)] 0<|aw b) (aJ.map (mp [(2,2),(4,3)] 0) R R) (aL.map (mp [(2,2),(4,3)] 0) R R) bb) ?_
  rintro _ br ⟨bm,aD,aG,rfl,aI,aT,aU⟩
  obtain⟨az,ae,ao⟩:=Ji aI 5 R
  refine Tv<|Jo<|DN.end0 V218 ?_
  cases h
  exact⟨(λb=>ren [(7,2),(8,4)]<|az b),aD,aG,R,((aV.stp<|T3 f aA ae).map (ren [(7,2),(8,4)]) R R),((aT.mx (cc _) ao R (R:5+2=7)).map (ren [(7,2),(8,4)]) R R),((aK.stp ae).map (ren [(7,2),(8,4)]) R R),a3,((aU.mx ao R (R:5+3=8)).map (ren [(7,2),(8,4)]) R R)⟩
theorem oJ {m s}{p0:(List Int)}{a1 t}{p1:(List Int)}(f:Rd (Rp.int .i64) κ w 0 m s p0) (y:Rd (Rp.int .i64) κ w 0 a1 t p1){r:Bool}(h:i8 p0 p1=some r):Ret Tryz.prog 152 [.slice m p0.length s,.slice a1 p1.length t] w (Pvb κ w r):=by
 unfold i8 at h
 refine Jk3 κ F152 R N152 R λn=>Je3 R<|Jq<|Je3 R ?_
 have z:(p0.length:Int)<=9223372036854775807:=f.len_le
 refine Ob h λq B o=>?_
 clear h
 refine Jx1 (λL w'=>∃κ',L=[]/\Stp [] κ w κ' w'/\q=cb ()) ?_ ?_
 refine Jv<|Jp3 [0,1] (λk E L w'=>∃κ' b,L=(5,vi b)::E/\Stp [] κ w κ' w'/\0<=b/\hV ((p0.length:Int)-b)=k/\cntM (fF p0 p1) k b ()=some q) ⟨_,_,⟨κ,0,R,Jj3,(by decide),(by simp),B⟩,(KM R)⟩ ?_
 rintro k _ O ⟨i,b,rfl,d,A,H,h⟩
 rcases k with _ | k
 have e:=h;obtain⟨F,h⟩:=cw (cb (eg ()):Bool⊕((Unit)⊕(Unit)))
 have c:decide (b<(p0.length:Int))=false:=Jo2 (by omega)
 refine Jq<|Jg3 [2,2,2,2] 2 R<|Jn3 R U37 R R<|Jb 1 R<|Jw2 R c<|Jc1<|Jt<|Jt ?_
 cases h
 have h:=e
 refine Jb1 ?_
 cases h
 exact Jw1 _ ⟨i,R,d.wk R,R⟩ KN
 obtain⟨F,h,e⟩:=BI h;unfold fF at h
 have c:decide (b<(p0.length:Int))=true:=Jn2 (by omega)
 refine Jq<|Jg3 [2,2,2,2] 2 R<|Jn3 R U37 R R<|Jb 1 R<|Jv2 R c<|Js<|Jp<|Jq<|Jv<|Jg3 [2,2,2,2,1,1,2] 3 R<|Ob h λP p h=>Jc3 R f p U37 Z2<|Jb3 R I2 ((f.stp d).gInt p)<|Ob h λG D h=>Jr3 R C81 (eN (κ:=Mk i) (Ji3<|y.stp d) D) ?_
 rintro _ M ⟨J,rfl,x⟩
 obtain⟨g,j,K⟩:=Ji x 2 R
 refine Tv<|Jb 1 R ?_
 revert h
 cases I:(!G)
 refine JF λh=>Jy R<|Js<|Jz<|Jp<|Jf3 R ?_
 have C:bM .i64 (b+1)=b+1:=wr1 A (Jm2 c) z
 rw[C]
 have c:=Jm2 c
 cases h
 exact Jz1 λa ha=>⟨k,_,Ja3 _,⟨g,b+1,R,(d.tr j).wk R,by omega,by omega,e⟩,(ha.mm R)⟩
 refine JT λh=>Jx R<|Je3 R<|Ju<|Ja1<|Jw<|Jw ?_
 cases h
 obtain rfl:=Option.some.inj e
 have h:=yL o
 refine Ja1<|Jq2<|Jw<|Ja2 (l:=[.tmp 4]) V152 (Jp2 R R) R ?_
 cases h
 exact⟨g,R,(n.stp<|d.tr j)⟩
 rintro _ N ⟨u,rfl,v,rfl⟩
 have h:=yI o
 refine Jp<|Je3 R<|Ju<|Ja2 (l:=[.tmp 4]) V152 (Jp2 R R) R ?_
 cases h
 exact⟨u,R,(n.stp v)⟩
end Go.Proofs.YtleekpaohfpooaaGreat
