/- The walks, part 2. By program. -/
import Derived.Test.YtleekpaohfpooaaGreatFns0FW
import Derived.Test.YtleekpaohfpooaaGreatFns1FW
set_option linter.unusedVariables false
set_option linter.unusedSimpArgs false
open Go.IntKind renaming wrap → cb
open Sum renaming inr → eg, inl → gs
open Int renaming toNat → n6
namespace Go.Proofs.YtleekpaohfpooaaGreat
open Go Go.Wk Go.Proofs
set_option maxRecDepth 100000
set_option maxHeartbeats 1000000
variable {w:World}{κ:Col}
theorem pD {q o}{p0:dice}{p1:Int}{s}(bN:Rd (Rp.int .u8) κ w 0 q o p0.b) (bO:Bc κ w 2 s 65 [.slice q p0.b.length o,vi p0.i,.int .u64 p0.h]){r:(List Clause)×Int×Int}(h:jq p0 p1=some r):Ret Tryz.prog 18 [.pointer (some ⟨s,0,none⟩),vi p1] w (λv w'=>∃(κ':Col) (aX:Option Addr) (aY:Nat),v= .slice aX r.1.length aY/\Ent κ w κ' w'/\Oc Clause.ep67 67 κ' w' 3 aX aY r.1/\Bc κ' w' 2 s 65 [.slice q p0.b.length o,vi r.2.1,.int .u64 r.2.2]):=by
 unfold jq at h
 refine Jk3 κ F18 R N18 R λhE=>Je3 R<|Je [1,2] R<|Jx3 (κ:=κ) (E:=Clause.ep67) 3 R Y29 ni R λbh cg w1 ba ad bB=>Tv<|Jb 1 R<|Jq<|Jg3 [2,2,2,1,2] 3 R<|Ob h λav b2 h=>?_
 have aO:=bN.stp ad
 refine Jr3 R C25 (gH (κ:=λb=>mp [(2,2)] 0<|ba b) (p0:=p0) (Jl2 aO (mp [(2,2)] 0) R R) ((bO.stp ad).map (mp [(2,2)] 0) R R) b2) ?_
 rintro _ a1 ⟨cE,rfl,bn,bo⟩
 obtain⟨V,Y,ca⟩:=Ji bn 4 R
 refine Tv<|Jb 1 R<|Ob h λaV bY bT=>?_
 clear h
 refine Jo3 [0] (λE L w'=>∃κ',∃C:(List Clause)×Int×Int×Int,∃N S,L=(5,.slice N C.1.length S)::E/\Stp [3,6,9,10,11,12,13,15,18] V a1 κ' w'/\Oc Clause.ep67 67 κ' w' 3 N S C.1/\Bc κ' w' 6 s 65 [.slice q p0.b.length o,vi C.2.2.1,.int .u64 C.2.2.2]/\aV=eg C) ?_ ?_
 refine Jv<|Jp3 [0] (λk E L w'=>∃κ',∃e:(List Clause)×Int×Int×Int,∃Q P,L=(5,.slice Q e.1.length P)::(6,vi e.2.1)::E/\Stp [3,6,9,10,11,12,13,15,18] V a1 κ' w'/\Oc Clause.ep67 67 κ' w' 3 Q P e.1/\Bc κ' w' 6 s 65 [.slice q p0.b.length o,vi e.2.2.1,.int .u64 e.2.2.2]/\bU (fq p0) k e=some aV) ⟨_,_,⟨V,((([]:List Clause):(List Clause)),av.1,av.2.1,av.2.2),bh,cg,R,Jj3,(bB.stp Y),(bo.mx ca R (R:4+2=6)),bY⟩,(KM R)⟩ ?_
 rintro k _ cO ⟨aA,e,Q,P,rfl,ac,aL,aM,h⟩
 rcases k with _ | k
 cases h
 obtain⟨cF,h,aS⟩:=BI h;unfold fq at h
 refine Jq<|Je3 R ?_
 revert h
 cases cz:decide (0<e.2.1)
 refine JF λh=>Jy R<|Jc1<|Jt<|Jt ?_
 cases h
 have h:=aS
 refine Jb1 ?_
 cases h
 exact Jw1 _ ⟨aA,(e.1,e.2.1,e.2.2.1,e.2.2.2),Q,P,R,ac.wk R,aL,aM,R⟩<|KM R
 refine JT λh=>Jx R<|Js<|Jp<|Jq<|Jv<|Jg3 [2,1,2,2,1,1] 1 R<|Ob h λf b3 h=>?_
 have aN:=aO.stp (Y.tr ac)
 refine Jr3 R C25 (gH (κ:=λb=>mp [(6,2)] 0<|aA b) (p0:=(⟨p0.b,e.2.2.1,e.2.2.2⟩:dice)) (Jl2 aN (mp [(6,2)] 0) R R) (aM.map (mp [(6,2)] 0) R R) b3) ?_
 rintro _ cP ⟨cC,rfl,bl,bA⟩
 obtain⟨bc,ae,cc⟩:=Ji bl 7 R
 refine Tv<|Jn 1 R<|Jf R (Ji4 [vi (IntKind.i64.wrap (1+f.1)),.slice none 0 0,.slice none 0 0] R)<|Jt3 (κ:=bc) 10 R X67 R λT cQ J K bC=>Tv<|Jh4 (κ:=J) 10 R Z67 R bC R λa0 M bD=>Tv<|Jd<|Jq<|Je3 R<|Ob h λaW b0 bV=>?_
 clear h
 refine Jo3 [0,5,6,7] (λE L w'=>∃κ',∃c:Int×Int×(List Int)×(List Int),∃x y A t,L=E/\Stp [9,10,11,12,15,18] J a0 κ' w'/\Oc E6 2 κ' w' 11 x y c.2.2.1/\Oc E6 2 κ' w' 12 A t c.2.2.2/\Bc κ' w' 9 s 65 [.slice q p0.b.length o,vi c.1,.int .u64 c.2.1]/\Bc κ' w' 10 T 67 [vi (IntKind.i64.wrap (1+f.1)),.slice x c.2.2.1.length y,.slice A c.2.2.2.length t]/\aW=eg c) ?_ ?_
 refine Jv<|Jp3 [0,5,6,7] (λk E L w'=>∃κ' g,∃d:Int×Int×(List Int)×(List Int),∃G H n p,L=(8,vi g)::E/\Stp [9,10,11,12,15,18] J a0 κ' w'/\Oc E6 2 κ' w' 11 G H d.2.2.1/\Oc E6 2 κ' w' 12 n p d.2.2.2/\Bc κ' w' 9 s 65 [.slice q p0.b.length o,vi d.1,.int .u64 d.2.1]/\Bc κ' w' 10 T 67 [vi (IntKind.i64.wrap (1+f.1)),.slice G d.2.2.1.length H,.slice n d.2.2.2.length p]/\0<=g/\n6 (4-g)=k/\cntM (ft p0 f) k g d=some aW) ⟨_,_,⟨J,0,(f.2.1,f.2.2,(([]:List Int):(List Int)),(([]:List Int):(List Int))),none,0,none,0,R,Jj3,Ow.nil,Ow.nil,((bA.mx cc R (R:7+2=9)).stp (K.tr M)),bD,(by decide),(by simp),b0⟩,(KM R)⟩ ?_
 rintro k _ cR ⟨aB,g,d,G,H,n,p,rfl,af,am,an,aP,ao,bX,cu,h⟩
 rcases k with _ | k
 have aq:=h;obtain⟨ce,h⟩:=cn (eg (gs d):((List Clause)×Int×Int)⊕((Int×Int×(List Int)×(List Int))⊕(Int×Int×(List Int)×(List Int))))
 have B:decide (g<4)=false:=Jo2 (by omega)
 refine Jq<|Je3 R<|Jw2 R B<|Jc1<|Jt<|Jt ?_
 cases h
 have h:=aq
 refine Jb1 ?_
 cases h
 exact Jw1 _ ⟨aB,(d.1,d.2.1,d.2.2.1,d.2.2.2),G,H,n,p,R,af.wk R,am,an,aP,ao,R⟩<|KM R
 obtain⟨ce,h,aq⟩:=BI h;unfold ft at h
 have B:decide (g<4)=true:=Jn2 (by omega)
 refine Jq<|Je3 R<|Jv2 R B<|Js<|Jp<|Jq<|Jv<|Jq<|Jg3 [2,1,2] 1 R<|Ob h λaw b4 h=>?_
 have aQ:=aN.stp (T4 ae K M af)
 refine Jr3 R C25 (gH (κ:=λb=>mp [(9,2)] 0<|aB b) (p0:=(⟨p0.b,d.1,d.2.1⟩:dice)) (Jl2 aQ (mp [(9,2)] 0) R R) (aP.map (mp [(9,2)] 0) R R) b4) ?_
 rintro _ cj ⟨cD,rfl,bm,bI⟩
 obtain⟨X,i,cd⟩:=Ji bm 13 R
 refine Tv<|Jb 1 R<|Ob h λI h bW=>Jo3 [0,5,6,7,8] (λE L w'=>∃κ' u z,L=E/\Stp [10,11] X cj κ' w'/\Oc E6 2 κ' w' 11 u z I/\Bc κ' w' 10 T 67 [vi (IntKind.i64.wrap (1+f.1)),.slice u I.length z,.slice n d.2.2.2.length p]) ?_ ?_
 revert h
 cases cA:(aw.1==0)
 refine JF λh=>Jy R<|Js ?_
 cases h
 exact Jw1 _ ⟨X,G,H,R,Jj3,(am.stp i),(ao.stp i)⟩<|KM R
 refine JT λh=>Jx R<|Ja [2,1,2,1,1,2,1] R<|Jd3 R U67 R Z37 ?_
 have aR:=ao.stp i
 refine Jb3 R I37 (aR.ld 1 R R)<|Jn 1 R<|Jd4 (κ:=X) 16 [g] R Y37 a8 R λcm cs cT be ag bK=>Tv<|Ob h λa2 b5 h=>Jy3 (κ:=be) (E:=E6) 11 [] R Y37 a8 R (am.stp<|i.tr ag) (Sl.srcP (co _) bK.rdc) bZ b5 R λai aj cU aC aI bL=>Tv<|Jd3 R U67 R Z37<|Ju3 (κ:=aC) 10 (off:=1) (vc:=[.slice ai a2.length aj]) (cs':=[vi (IntKind.i64.wrap (1+f.1)),.slice ai a2.length aj,.slice n d.2.2.2.length p]) R Z37 R (aR.stp<|ag.tr aI) R λcV aJ bM=>Tv<|Jo ?_
 cases h
 exact Jw1 _ ⟨aC,ai,aj,R,(T3 ag aI aJ).wk R,(bL.stp aJ),bM⟩<|KM R
 rintro _ cS ⟨bd,u,z,rfl,F,bJ,ap⟩
 have h:=bW
 refine Jp<|Jg3 [2,1,2,2,2,1,2,2,2,1,2,2,2,2,1,2,2,2] 1 R<|Ob h λax b6 h=>Jr3 R C25 (gH (κ:=λb=>mp [(15,2)] 0<|bd b) (p0:=(⟨p0.b,aw.2.1,aw.2.2⟩:dice)) (Jl2 (aQ.stp<|i.tr F) (mp [(15,2)] 0) R R) (((bI.mx cd R (R:13+2=15)).stp F).map (mp [(15,2)] 0) R R) b6) ?_
 rintro _ aZ ⟨cB,rfl,bk,bp⟩
 obtain⟨ay,j,b9⟩:=Ji bk 16 R
 refine Tv<|Jn 2 R<|Ob h λaU h bP=>Jf4 [0,5,6,7,8] 52 aU ay aZ [(4,2),(5,1),(6,2),(7,2),(8,2),(9,1),(10,2),(11,2),(12,2),(13,2),(14,1),(15,2),(16,2),(17,2)] [] tv ?_ ?_
 revert h
 cases cv:(ax.1==0)
 refine JF λh=>Jn 1 R<|Jz3 R<|Jn 3 R<|Jz3 R<|Jn 4 R<|Jz3 R<|Jn 3 R ?_
 cases h
 exact Jg4 tv R
 refine JT λh=>Jd3 R U67 R Z2 ?_
 have al:=ap.stp j
 refine Jb3 R I2 (al.ld 0 R R)<|Jn 2 R<|Ob h λaT h bQ=>Jf4 [0,5,6,7,8,38,39,40,41,42] 46 aT ay aZ [(8,2),(9,1),(10,2),(11,2)] [(12,2),(13,2),(14,1),(15,2),(16,2),(17,2)] tv ?_ ?_
 revert h
 cases cw:((IntKind.i64.wrap (1+f.1))==2)
 refine JF λh=>Jd3 R U67 R Z2<|Jb3 R I2 (al.ld 0 R R)<|Jn 2 R ?_
 cases h
 exact Jg4 tv R
 refine JT λh=>Jn 1 R<|Jz3 R<|Jn 2 R ?_
 cases h
 exact Jg4 tv R
 rintro _ ch _ ⟨rfl,a4,aD⟩
 have h:=bQ
 refine Jn 1 R<|Ob h λcf h bR=>Jf4 [0,5,6,7,8,38,39,40,41,42,46,47] 51 cf a4 ch [(13,2),(14,1),(15,2),(16,2)] [(17,2)] tv ?_ ?_
 revert h
 cases cx:aT
 refine JF λh=>Jd3 R U67 R Z2<|Jb3 R I2 ((al.stp aD).ld 0 R R)<|Jn 2 R ?_
 cases h
 exact Jg4 tv R
 refine JT λh=>Jn 1 R<|Jz3 R<|Jn 2 R ?_
 cases h
 exact Jg4 tv R
 rintro _ cG _ ⟨rfl,cl,bf⟩
 have h:=bR
 refine Jn 1 R ?_
 cases h
 exact Jv1 _ tv ⟨R,_,(aD.tr bf).wk R⟩<|KM R
 rintro _ ci _ ⟨rfl,W,m⟩
 have h:=bP
 refine Jd<|Ob h λau h bS=>Jo3 [0,5,6,7,8] (λE L w'=>∃κ' O ar,L=E/\Stp [10,12] W ci κ' w'/\Oc E6 2 κ' w' 12 O ar au/\Bc κ' w' 10 T 67 [vi (IntKind.i64.wrap (1+f.1)),.slice u I.length z,.slice O au.length ar]) ?_ ?_
 revert h
 cases cy:aU
 refine JF λh=>Jy R<|Js ?_
 cases h
 exact Jw1 _ ⟨W,n,p,R,Jj3,(an.stp<|T4 i F j m),(ap.stp<|j.tr m)⟩<|KM R
 refine JT λh=>Jx R<|Ja [2,1,2,1,1,2,1] R<|Jd3 R U67 R Z37 ?_
 have aK:=ap.stp (j.tr m)
 refine Jb3 R I37 (aK.ld 2 R R)<|Jn 1 R<|Jd4 (κ:=W) 19 [g] R Y37 a8 R λcr cq cI a6 aa bs=>Tv<|Ob h λa3 b7 h=>Jy3 (κ:=a6) (E:=E6) 12 [] R Y37 a8 R (an.stp<|T5 i F j m aa) (Sl.srcP (co _) bs.rdc) bZ b7 R λah ak cJ az aE bt=>Tv<|Jd3 R U67 R Z37<|Ju3 (κ:=az) 10 (off:=2) (vc:=[.slice ah a3.length ak]) (cs':=[vi (IntKind.i64.wrap (1+f.1)),.slice u I.length z,.slice ah a3.length ak]) R Z37 R (aK.stp<|aa.tr aE) R λcK aF bu=>Tv<|Jo ?_
 cases h
 exact Jw1 _ ⟨az,ah,ak,R,(T3 aa aE aF).wk R,(bt.stp aF),bu⟩<|KM R
 rintro _ cH ⟨a5,O,ar,rfl,Z,bq,br⟩
 have h:=bS
 refine Jz<|Jp<|Jf3 R ?_
 have b1:cb .i64 (g+1)=g+1:=wr1 bX (Jm2 B) (by decide)
 rw[b1]
 have B:=Jm2 B
 cases h
 exact Jz1 λa ha=>⟨k,_,Ja3 _,⟨(λb=>ren [(18,9)]<|a5 b),g+1,(ax.2.1,ax.2.2,I,au),u,z,O,ar,R,(Jy2 ((T6 af i F j m Z).wk R) [(18,9)] R),((bJ.stp<|T3 j m Z).map (ren [(18,9)]) R R),(bq.map (ren [(18,9)]) R R),(((bp.mx b9 R (R:16+2=18)).stp (m.tr Z)).map (ren [(18,9)]) R R),(br.map (ren [(18,9)]) R R),by omega,by omega,aq⟩,(ha.mm R)⟩
 rintro _ U ⟨D,c,x,y,A,t,rfl,aH,bE,bF,bG,bH,rfl⟩
 have h:=yI bV
 refine Jp<|Jh3 [2,1,1,1,2] 1 R<|Jb4 tv R (Jc4 (haE bH.cells) I67 Z67 R)<|Jw3 (κ:=D) (E:=Clause.ep67) 13 [11,12] (parts:=[(0,.tmp 60)]) (cells:=[vi (IntKind.i64.wrap (1+f.1)),.slice x c.2.2.1.length y,.slice A c.2.2.2.length t]) (xs:=([(⟨(IntKind.i64.wrap (1+f.1)),c.2.2.1,c.2.2.2⟩:Clause)]:List Clause)) R Y29 ni R (Je4 ⟨[vi<|IntKind.i64.wrap (1+f.1)],[.slice x c.2.2.1.length y,.slice A c.2.2.2.length t],Zl D U [],Zl D U [11,12],R,Zl.sp (l1:=[]) (l2:=[11,12]) R,Zl.sr (l1:=[]) (l2:=[11,12]),R,⟨[.slice x c.2.2.1.length y],[.slice A c.2.2.2.length t],Zl D U [11],Zl D U [12],R,Zl.sp (l1:=[11]) (l2:=[12]) R,Zl.sr (l1:=[11]) (l2:=[12]),⟨_,_,R,bE⟩,⟨_,_,R,bF⟩⟩⟩) λcp ct cL a7 ab bv=>Tv<|Ob h λck b8 h=>Jy3 (κ:=a7) (E:=Clause.ep67) 3 [13] R Y29 ni R (aL.stp<|T5 ae K M aH ab) bv.src (cZ R) b8 R λbi bj cM a9 aG bw=>Tv<|Jc 1 R<|Jz<|Jp<|Jf3 R ?_
 cases h
 exact Jz1 λa ha=>⟨k,_,Ja3 _,⟨(λb=>ren [(9,6)]<|a9 b),(ck,((IntKind.i64.wrap<|e.2.1-1):Int),c.1,c.2.1),bi,bj,R,(Jy2 ((T7 ac ae K M aH ab aG).wk R) [(9,6)] R),(bw.map (ren [(9,6)]) R R),((bG.stp<|ab.tr aG).map (ren [(9,6)]) R R),aS⟩,(ha.mm R)⟩
 rintro _ cN ⟨bb,C,N,S,rfl,bg,bx,bz,rfl⟩
 have h:=yI bT
 refine Jp<|Je3 R<|Ju<|Ja2 (l:=[.tmp 4]) V18 (Jp2 R R) R ?_
 cases h
 exact⟨(λb=>ren [(6,2)]<|bb b),N,S,R,((hE.stp<|T3 ad Y bg).map (ren [(6,2)]) R R),(bx.map (ren [(6,2)]) R R),(bz.map (ren [(6,2)]) R R)⟩
theorem cu {a b}{p0:(List Int)}{p1:Int}(f:Rd (Rp.int .i64) κ w 0 a b p0){r:Bool}(h:cc p0 p1=some r):Ret Tryz.prog 89 [.slice a p0.length b,vi p1] w (Pvb κ w r):=by
 unfold cc at h
 refine Jk3 κ F89 R N89 R λhE=>Je3 R<|Jg3 [2,2,1,2,2] 2 R<|Ob h λk g h=>Jr3 R C49 (lE (κ:=Mk κ) (Ji3 f) g) ?_
 rintro _ w1 ⟨i,rfl,e⟩
 obtain⟨c,d,j⟩:=Ji e 2 R
 refine Tv<|Jb 2 R<|Ju<|Ja2 (l:=[.tmp 4]) V89 (Jp2 R R) R ?_
 cases h
 exact⟨c,R,(hE.stp d)⟩
theorem fd (n:Nat):∀{w:World}{κ:Col}{p0:Int}{a1 N}{p1:(List (List Int))}{x u}{m:(List Int)}{i l}{c0:(List Bool)}{G O}{c1:(List Bool)}{j y z A}(J:Rd (Rp.sl (Rp.int .i64)) κ w 0 a1 N p1) (X:Oc E6 2 κ w 2 x u m) (K:Oc Ep.bool 4 κ w 3 i l c0) (M:Rd Rp.bool κ w 0 G O c1) (Y:Bc κ w 4 j 37 [.slice x m.length u]) (C:Bc κ w 0 y 178 [.slice i c0.length l]) (Z:Bc κ w 0 z 178 [.slice G c1.length O]) (aa:Bc κ w 0 A 226 [.func (.func 218) #[] #[.pointer (some ⟨y,0,none⟩),.pointer (some ⟨z,0,none⟩),.pointer (some ⟨A,0,none⟩)]]){r:(List Int)×(List Bool)}(h:cj n p0 p1 m c0 c1=some r),Ret Tryz.prog 218 [vi p0,.slice a1 p1.length N,.func (.func 220) #[] #[.pointer (some ⟨j,0,none⟩)],.pointer (some ⟨y,0,none⟩),.pointer (some ⟨z,0,none⟩),.pointer (some ⟨A,0,none⟩)] w (λv w'=>∃(κ':Col) (ap:Option Addr) (aq:Nat),v= .tuple #[]/\Ent κ w κ' w'/\Oc E6 2 κ' w' 2 ap aq r.1/\Oc Ep.bool 4 κ' w' 3 i l r.2/\c0.length=r.2.length/\Bc κ' w' 4 j 37 [.slice ap r.1.length aq]):=by
 induction n with
 | zero=>
  intro w κ p0 a1 N p1 x u m i l c0 G O c1 j y z A J X K M Y C Z aa r h
  cases h
 | succ n bb=>
  intro w κ p0 a1 N p1 x u m i l c0 G O c1 j y z A J X K M Y C Z aa r h
  have h:cE (cj n) p0 p1 m c0 c1=some r:=h
  unfold cE at h
  refine Jk3 κ F218 R N218 R λhE=>Je [1,2,2,1] R<|Jb3 R I178 (C.ld 0 R R)<|Jn 1 R<|Ob h λbr a8 h=>Jc3 R K.rdc a8 U178 Z4<|Ob h λav an h=>Jk1 (κ:=κ) (E:=Ep.bool) 3 [] R R R R R R R R Z4 R R R R K an λw1 P f aM=>Tv<|?_
  have a4:c0.length=av.length:=(Jt2 an).2.2.2.symm
  refine Jd<|Jq<|Jg3 [2,2,2,1,2,2] 2 R<|Ob h λF aj h=>Jc3 R J aj U31 Z37 ?_
  have ai:=J.stp f
  obtain⟨bg,bm,W,a0⟩:=ai.gSl aj
  refine Jb3 R I37 a0<|Jn3 R U37 R R<|Jb 1 R ?_
  have aY:(F.length:Int)<=9223372036854775807:=W.len_le
  refine Ob h λau a6 aV=>?_
  clear h
  refine Jo3 [0,2,3,4,5] (λE L w'=>∃κ',∃q:(List Int)×(List Bool),∃S T,L=E/\Stp [2,3,4,7,8,9] P w1 κ' w'/\Oc E6 2 κ' w' 2 S T q.1/\Oc Ep.bool 4 κ' w' 3 i l q.2/\c0.length=q.2.length/\Bc κ' w' 4 j 37 [.slice S q.1.length T]/\au=eg q) ?_ ?_
  refine Jv<|Jp3 [0,1,2,3,4,5,17,18] (λk E L w'=>∃κ' d,∃g:(List Int)×(List Bool),∃t s,L=(19,vi d)::E/\Stp [2,3,4,7,8,9] P w1 κ' w'/\Oc E6 2 κ' w' 2 t s g.1/\Oc Ep.bool 4 κ' w' 3 i l g.2/\c0.length=g.2.length/\Bc κ' w' 4 j 37 [.slice t g.1.length s]/\0<=d/\n6 ((F.length:Int)-d)=k/\cntM (cK (cj n) p1 c1 F) k d g=some au) ⟨_,_,⟨P,0,(m,av),x,u,R,Jj3,(X.stp f),aM,a4,(Y.stp f),(by decide),(by simp),a6⟩,(KM R)⟩ ?_
  rintro k _ bd ⟨ad,d,g,t,s,rfl,e,U,B,D,V,aZ,bh,h⟩
  rcases k with _ | k
  have ab:=h;obtain⟨bc,h⟩:=cn (eg (gs g):((List Int)×(List Bool))⊕(((List Int)×(List Bool))⊕((List Int)×(List Bool))))
  have o:decide (d<(F.length:Int))=false:=Jo2 (by omega)
  refine Je3 R<|Jq<|Jw2 R o<|Jc1<|Jt<|Jt ?_
  cases h
  have h:=ab
  refine Jb1 ?_
  cases h
  exact Jw1 _ ⟨ad,(g.1,g.2),t,s,R,e.wk R,U,B,D,V,R⟩<|KM R
  obtain⟨bc,h,ab⟩:=BI h;unfold cK at h
  have o:decide (d<(F.length:Int))=true:=Jn2 (by omega)
  refine Je3 R<|Jq<|Jv2 R o<|Js<|Jp<|Jq<|Jv<|Je [2,1,2] R<|Ob h λbs ak h=>Jc3 R W ak U37 Z2<|Jb3 R I2 ((W.stp e).gInt ak)<|Jb 1 R<|Je [1,2,2,1,2,1,2,2,1,2,2] R ?_
  have af:=Z.stp (f.tr e)
  refine Jb3 R I178 (af.ld 0 R R)<|Jn 1 R<|Ob h λbf al h=>Jc3 R M al U178 Z4 ?_
  have ag:=M.stp (f.tr e)
  refine Jb3 R I4 (ag.gBool al)<|Jn 1 R<|Ob h λar h aW=>Jf4 [0,1,2,3,4,5,10,17,18,19] 33 ar ad bd [(5,1),(6,2),(7,2),(8,1),(9,2),(10,2)] [] tv ?_ ?_
  revert h
  cases bi:bf
  refine JF λh=>Jz3 R<|Jn 2 R<|Jz3 R<|Jn 2 R ?_
  cases h
  exact Jg4 tv R
  refine JT λh=>Jb3 R I178 ((C.stp<|f.tr e).ld 0 R R)<|Jn 1 R<|Ob h λbt am h=>Jf R (Jf2 B.rdc am U178 Z4 R R D R)<|Jb3 R I4 (B.rdc.gBool am)<|Jn 2 R ?_
  cases h
  exact Jg4 tv R
  rintro _ be _ ⟨rfl,Q,c⟩
  have h:=aW
  refine Jd<|Ob h λp h aX=>Jo3 [0,1,2,3,4,5,17,18,19] (λE L w'=>∃κ' H I,L=E/\Stp [2,3,4,7,8,9] Q be κ' w'/\Oc E6 2 κ' w' 2 H I p.1/\Oc Ep.bool 4 κ' w' 3 i l p.2/\c0.length=p.2.length/\Bc κ' w' 4 j 37 [.slice H p.1.length I]) ?_ ?_
  revert h
  cases bj:ar
  refine JF λh=>Jy R<|Js ?_
  cases h
  exact Jw1 _ ⟨Q,t,s,R,Jj3,(U.stp c),(B.stp c),D,(V.stp c)⟩<|KM R
  refine JT λh=>Jx R<|Ja [1,2,2,2,1] R ?_
  have ah:=aa.stp (T3 f e c)
  refine Jb3 R I226 (ah.ld 0 R R)<|Jn 3 R<|Ob h λbu a9 h=>WO.callV R R R R R R R R C218 (bb (κ:=λb=>mp [(2,2),(3,3),(4,4)] 0<|Q b) (Jl2 (ai.stp<|e.tr c) (mp [(2,2),(3,3),(4,4)] 0) R R) ((U.stp c).map (mp [(2,2),(3,3),(4,4)] 0) R R) ((B.stp c).map (mp [(2,2),(3,3),(4,4)] 0) R R) (Jl2 (ag.stp c) (mp [(2,2),(3,3),(4,4)] 0) R R) ((V.stp c).map (mp [(2,2),(3,3),(4,4)] 0) R R) (Bc.cast ((C.stp<|T3 f e c).map (mp [(2,2),(3,3),(4,4)] 0) R R) (by simp only[D])) ((af.stp c).map (mp [(2,2),(3,3),(4,4)] 0) R R) (ah.map (mp [(2,2),(3,3),(4,4)] 0) R R) a9) ?_
  rintro _ bp ⟨bk,aG,aD,rfl,aH,aQ,aR,a5,aS⟩
  obtain⟨ay,aC,ac⟩:=Ji aH 5 R
  refine Tv<|Jo ?_
  cases h
  exact Jw1 _ ⟨(λb=>ren [(7,2),(8,3),(9,4)]<|ay b),aG,aD,R,(Jy2 (aC.wk R) [(7,2),(8,3),(9,4)] R),((aQ.mx (bX _) ac R (R:5+2=7)).map (ren [(7,2),(8,3),(9,4)]) R R),((aR.mx dV ac R (R:5+3=8)).map (ren [(7,2),(8,3),(9,4)]) R R),(D.trans a5),((aS.mx ac R (R:5+4=9)).map (ren [(7,2),(8,3),(9,4)]) R R)⟩<|KM R
  rintro _ bo ⟨ax,H,I,rfl,aB,aN,aO,a3,aP⟩
  have h:=aX
  refine Jz<|Jp<|Jf3 R ?_
  have a7:cb .i64 (d+1)=d+1:=wr1 aZ (Jm2 o) aY
  rw[a7]
  have o:=Jm2 o
  cases h
  exact Jz1 λa ha=>⟨k,_,Ja3 _,⟨ax,d+1,(p.1,p.2),H,I,R,(T3 e c aB).wk R,aN,aO,a3,aP,by omega,by omega,ab⟩,(ha.mm R)⟩
  rintro _ bn ⟨aw,q,S,T,rfl,aA,aJ,aK,a2,aL,rfl⟩
  have h:=yI aV
  refine Jp<|Jh3 [2,2,1] 2 R<|Ob h λbv ba h=>WO.callV R R R R R R R R C220 (py (κ:=λb=>mp [(2,2),(4,3)] 0<|aw b) (aJ.map (mp [(2,2),(4,3)] 0) R R) (aL.map (mp [(2,2),(4,3)] 0) R R) ba) ?_
  rintro _ bq ⟨bl,aE,aF,rfl,aI,aT,aU⟩
  obtain⟨az,ae,ao⟩:=Ji aI 5 R
  refine Tv<|Jo<|DN.end0 V218 ?_
  cases h
  exact⟨(λb=>ren [(7,2),(8,4)]<|az b),aE,aF,R,((hE.stp<|T3 f aA ae).map (ren [(7,2),(8,4)]) R R),((aT.mx (bX _) ao R (R:5+2=7)).map (ren [(7,2),(8,4)]) R R),((aK.stp ae).map (ren [(7,2),(8,4)]) R R),a2,((aU.mx ao R (R:5+3=8)).map (ren [(7,2),(8,4)]) R R)⟩
theorem r9 {j k n m}{p0:Clause}{p1:Int}{p2:Int}(M:Rd (Rp.int .i64) κ w 0 j k p0.A) (N:Rd (Rp.int .i64) κ w 0 n m p0.B){r:Int}(h:lh p0 p1 p2=some r):Ret Tryz.prog 189 [.agg #[vi p0.Kind,.slice j p0.A.length k,.slice n p0.B.length m],vi p1,vi p2] w (Pvi κ w r):=by
 unfold lh at h
 refine Jk3 κ F189 R N189 R λhE=>Je [1,2] R<|Js3 (κ:=κ) 2 R λab w1 u c p=>Tv<|Jb 1 R<|Je [2,1,2,1,1,2] R<|Jd3 R U67 R Z37<|Jb3 R I37 (p.ld 1 R R)<|Jn 1 R<|Ob h λaJ Q h=>Jr3 R C81 (jc (κ:=Mk u) (Ji3<|M.stp c) Q) ?_
 rintro _ aG ⟨k7,rfl,L⟩
 obtain⟨A,a,au⟩:=Ji L 3 R
 refine Tv<|Ob h λaK S h=>Jr3 R C192 (mA (κ:=Mk A) S) ?_
 rintro _ aB ⟨am,rfl,F⟩
 obtain⟨t,b,av⟩:=Ji F 5 R
 refine Tv<|Jb 1 R<|Je [2,1,2,1,1,2] R<|Jd3 R U67 R Z37 ?_
 have o:=p.stp (a.tr b)
 refine Jb3 R I37 (o.ld 2 R R)<|Jn 1 R<|Ob h λaL T h=>Jr3 R C81 (jc (κ:=Mk t) (Ji3<|N.stp<|T3 c a b) T) ?_
 rintro _ aC ⟨an,rfl,G⟩
 obtain⟨v,d,aw⟩:=Ji G 7 R
 refine Tv<|Ob h λZ U h=>Jr3 R C192 (mA (κ:=Mk v) U) ?_
 rintro _ s ⟨ao,rfl,H⟩
 obtain⟨f,e,ax⟩:=Ji H 9 R
 refine Tv<|Jb 1 R<|Jq<|Je [2,1] R<|Jd3 R U67 R Z2<|Jb3 R I2 ((o.stp<|d.tr e).ld 0 R R)<|Jd<|Jv<|Je3 R ?_
 revert h
 cases ac:(p0.Kind==1)
 refine JF λh=>Jy R<|Je3 R ?_
 revert h
 cases ad:(p0.Kind==2)
 refine JF λh=>Jy R<|Je3 R ?_
 revert h
 cases ah:(p0.Kind==3)
 refine JF λh=>Jy R<|Je3 R ?_
 revert h
 cases aj:(p0.Kind==4)
 refine JF λh=>Jy R<|Je3 R ?_
 revert h
 cases ak:(p0.Kind==5)
 refine JF λh=>Jy R<|Je3 R ?_
 revert h
 cases al:(p0.Kind==6)
 refine JF λh=>Jy R<|Js<|Jz<|Jp<|Je3 R<|Ju<|Ja2 (l:=[.tmp 6]) V189 (Jp2 R R) R ?_
 cases h
 exact⟨f,R,(hE.stp<|T5 c a b d e)⟩
 refine JT λh=>Jx R<|Jg3 [2,2,1,2] 2 R<|Ob h λaO X h=>Jr3 R C247 (lP (κ:=Mk f) X) ?_
 rintro _ aI ⟨ar,rfl,K⟩
 obtain⟨z,E,aA⟩:=Ji K 11 R
 refine Tv<|Jb 1 R<|Ju<|Ja1<|Jw<|Ja2 (l:=[.tmp 6]) V189 (Jp2 R R) R ?_
 cases h
 exact⟨z,R,(hE.stp<|T6 c a b d e E)⟩
 refine JT λh=>Jx R<|Je3 R<|Ju<|Ja1<|Jw<|Ja2 (l:=[.tmp 6]) V189 (Jp2 R R) R ?_
 cases h
 exact⟨f,R,(hE.stp<|T5 c a b d e)⟩
 refine JT λh=>Jx R<|Je3 R<|Ju<|Ja1<|Jw<|Ja2 (l:=[.tmp 6]) V189 (Jp2 R R) R ?_
 cases h
 exact⟨f,R,(hE.stp<|T5 c a b d e)⟩
 refine JT λh=>Jx R<|Jq<|Je3 R ?_
 revert h
 cases ai:(Z==1)
 refine JF λh=>Jy R<|Js<|Jp<|Jg3 [2,2,1,2] 2 R<|Ob h λaN W h=>Jr3 R C247 (lP (κ:=Mk f) W) ?_
 rintro _ aH ⟨aq,rfl,J⟩
 obtain⟨y,D,az⟩:=Ji J 11 R
 refine Tv<|Jb 1 R<|Ju<|Ja1<|Jw<|Ja2 (l:=[.tmp 6]) V189 (Jp2 R R) R ?_
 cases h
 exact⟨y,R,(hE.stp<|T6 c a b d e D)⟩
 refine JT λh=>Jx R<|Je3 R<|Ju<|Jw<|Ja1<|Jw<|Ja2 (l:=[.tmp 6]) V189 (Jp2 R R) R ?_
 cases h
 exact⟨f,R,(hE.stp<|T5 c a b d e)⟩
 refine JT λh=>Jx R<|Jq<|Jg3 [2,2,2,2,2,2,2,2,2,2] 3 R<|Ob h λq h O=>Jf4 [7] 38 q f s [(3,2),(4,2),(5,2),(6,2),(7,2),(8,2),(9,2)] [] tv ?_ ?_
 revert h
 cases ae:(p1==2)
 refine JF λh=>Jn 3 R<|Ob h λY h P=>Jf4 [7,31] 37 Y f s [(6,2),(7,2),(8,2)] [(9,2)] tv ?_ ?_
 revert h
 cases af:(p1==1)
 refine JF λh=>Jn 3 R ?_
 cases h
 exact Jg4 tv R
 refine JT λh=>Jn 3 R ?_
 cases h
 exact Jg4 tv R
 rintro _ aE _ ⟨rfl,aa,C⟩
 have h:=P
 refine Jn 1 R ?_
 cases h
 exact Jv1 _ tv ⟨R,_,C.wk R⟩<|KM R
 refine JT λh=>Jn 7 R ?_
 cases h
 exact Jg4 tv R
 rintro _ aF _ ⟨rfl,g,i⟩
 have h:=O
 refine Jd ?_
 revert h
 cases ag:q
 refine JF λh=>Jy R<|Js<|Jp<|Je3 R<|Ju<|Ja1<|Jw<|Ja2 (l:=[.tmp 6]) V189 (Jp2 R R) R ?_
 cases h
 exact⟨g,R,(hE.stp<|T6 c a b d e i)⟩
 refine JT λh=>Jx R<|Je3 R<|Ju<|Jw<|Ja1<|Jw<|Ja2 (l:=[.tmp 6]) V189 (Jp2 R R) R ?_
 cases h
 exact⟨g,R,(hE.stp<|T6 c a b d e i)⟩
 refine JT λh=>Jx R<|Jg3 [2,2,2,1,2] 3 R<|Ob h λaM V h=>Jr3 R C247 (lP (κ:=Mk f) V) ?_
 rintro _ aD ⟨ap,rfl,I⟩
 obtain⟨x,B,ay⟩:=Ji I 11 R
 refine Tv<|Jb 1 R<|Ju<|Ja1<|Jw<|Ja2 (l:=[.tmp 6]) V189 (Jp2 R R) R ?_
 cases h
 exact⟨x,R,(hE.stp<|T6 c a b d e B)⟩
theorem kQ {m q}{p0:(List Int)}{p1:Int}(f:Rd (Rp.int .i64) κ w 0 m q p0){r:Bool}(h:gO p0 p1=some r):Ret Tryz.prog 61 [.slice m p0.length q,vi p1] w (Pvb κ w r):=by
 unfold gO at h
 refine Jk3 κ F61 R N61 R λhE=>Je3 R<|Jq<|Je3 R ?_
 have v:(p0.length:Int)<=9223372036854775807:=f.len_le
 refine Ob h λp y n=>?_
 clear h
 refine Jx1 (λL w'=>∃κ',L=[]/\Stp [] κ w κ' w'/\p=eg ()) ?_ ?_
 refine Jv<|Jp3 [0,1] (λk E L w'=>∃κ' b,L=(5,vi b)::E/\Stp [] κ w κ' w'/\0<=b/\n6 ((p0.length:Int)-b)=k/\cntM (gw p0 p1) k b ()=some p) ⟨_,_,⟨κ,0,R,Jj3,(by decide),(by simp),y⟩,(KM R)⟩ ?_
 rintro k _ K ⟨i,b,rfl,d,x,D,h⟩
 rcases k with _ | k
 have e:=h;obtain⟨B,h⟩:=cn (eg (gs ()):Bool⊕((Unit)⊕(Unit)))
 have c:decide (b<(p0.length:Int))=false:=Jo2 (by omega)
 refine Jq<|Jg3 [2,2,2,2] 2 R<|Jn3 R U37 R R<|Jb 1 R<|Jw2 R c<|Jc1<|Jt<|Jt ?_
 cases h
 have h:=e
 refine Jb1 ?_
 cases h
 exact Jw1 _ ⟨i,R,d.wk R,R⟩ KN
 obtain⟨B,h,e⟩:=BI h;unfold gw at h
 have c:decide (b<(p0.length:Int))=true:=Jn2 (by omega)
 refine Jq<|Jg3 [2,2,2,2] 2 R<|Jn3 R U37 R R<|Jb 1 R<|Jv2 R c<|Js<|Jp<|Jq<|Jv<|Jg3 [2,2,2,1,2,2,1,2] 2 R<|Ob h λM o h=>Jc3 R f o U37 Z2<|Jb3 R I2 ((f.stp d).gInt o)<|Jn 2 R<|Ob h λC A h=>Jr3 R C59 (cP (κ:=Mk i) A) ?_
 rintro _ I ⟨G,rfl,u⟩
 obtain⟨g,j,H⟩:=Ji u 2 R
 refine Tv<|Jb 1 R ?_
 revert h
 cases F:(!C)
 refine JF λh=>Jy R<|Js<|Jz<|Jp<|Jf3 R ?_
 have z:cb .i64 (b+1)=b+1:=wr1 x (Jm2 c) v
 rw[z]
 have c:=Jm2 c
 cases h
 exact Jz1 λa ha=>⟨k,_,Ja3 _,⟨g,b+1,R,(d.tr j).wk R,by omega,by omega,e⟩,(ha.mm R)⟩
 refine JT λh=>Jx R<|Je3 R<|Ju<|Ja1<|Jw<|Jw ?_
 cases h
 obtain rfl:=Option.some.inj e
 have h:=yL n
 refine Ja1<|Jq2<|Jw<|Ja2 (l:=[.tmp 4]) V61 (Jp2 R R) R ?_
 cases h
 exact⟨g,R,(hE.stp<|d.tr j)⟩
 rintro _ J ⟨s,rfl,t,rfl⟩
 have h:=yI n
 refine Jp<|Je3 R<|Ju<|Ja2 (l:=[.tmp 4]) V61 (Jp2 R R) R ?_
 cases h
 exact⟨s,R,(hE.stp t)⟩
theorem tw {j n}{p0:(List Int)}{p1:Int}(b:Rd (Rp.int .i64) κ w 0 j n p0){r:(List Int)}(h:jz p0 p1=some r):Ret Tryz.prog 96 [.slice j p0.length n,vi p1] w (λv w'=>∃(κ':Col) (F:Option Addr) (G:Nat),v= .slice F r.length G/\Ent κ w κ' w'/\Rd (Rp.int .i64) κ' w' 0 F G r):=by
 unfold jz at h
 refine Jk3 κ F96 R N96 R λhE=>Je3 R<|Je3 R<|Jq<|Ob h λD ac ab=>?_
 clear h
 refine Jo3 [0,1] (λE L w'=>∃κ' f,L=(5,vi f)::E/\Stp [] κ w κ' w'/\D=eg f) ?_ ?_
 refine Jv<|Jp3 [0,1] (λk E L w'=>∃κ' c,L=(5,vi c)::E/\Stp [] κ w κ' w'/\bU (fN p0 p1) k c=some D) ⟨_,_,⟨κ,(0:Int),R,Jj3,ac⟩,(KM R)⟩ ?_
 rintro k _ aj ⟨O,c,rfl,i,h⟩
 rcases k with _ | k
 cases h
 obtain⟨ay,h,u⟩:=BI h;unfold fN at h
 refine Jq<|Jg3 [2,2,2,2,2,2,2,2,1,2,2,2] 2 R<|Jn3 R U37 R R<|Jn 2 R<|Ob h λB h Z=>Jf4 [0,1,5] 18 B O aj [(5,2),(6,2),(7,2),(8,1),(9,2),(10,2),(11,2)] [] tv ?_ ?_
 revert h
 cases ar:decide (c<(p0.length:Int))
 refine JF λh=>Jn 3 R<|Jz3 R<|Jn 3 R ?_
 cases h
 exact Jg4 tv R
 refine JT λh=>Jn 2 R<|Ob h λaE x h=>Jc3 R b x U37 Z2<|Jb3 R I2 ((b.stp i).gInt x)<|Jn 3 R ?_
 cases h
 exact Jg4 tv R
 rintro _ az _ ⟨rfl,o,q⟩
 have h:=Z
 refine Jd ?_
 revert h
 cases au:B
 refine JF λh=>Jy R<|Jc1<|Jt<|Jt ?_
 cases h
 have h:=u
 refine Jb1 ?_
 cases h
 exact Jw1 _ ⟨o,c,R,(i.tr q).wk R,R⟩<|KM R
 refine JT λh=>Jx R<|Js<|Jp<|Jv<|Jf3 R<|Jz ?_
 cases h
 exact Jz1 λa ha=>⟨k,_,Ja3 _,⟨o,((IntKind.i64.wrap<|c+1):Int),R,(i.tr q).wk R,u⟩,(ha.mm R)⟩
 rintro _ ah ⟨K,f,rfl,d,rfl⟩
 have h:=yI ab
 refine Jp<|Jq<|Jg3 [2,2,2,2,2,2,2,2,1,2,2,2] 2 R<|Jn3 R U37 R R<|Jn 2 R<|Ob h λC h aa=>Jf4 [0,1,5] 32 C K ah [(5,2),(6,2),(7,2),(8,1),(9,2),(10,2),(11,2)] [] tv ?_ ?_
 revert h
 cases av:decide (f<(p0.length:Int))
 refine JF λh=>Jn 3 R<|Jz3 R<|Jn 3 R ?_
 cases h
 exact Jg4 tv R
 refine JT λh=>Jn 2 R<|Ob h λaF y h=>Jc3 R b y U37 Z2<|Jb3 R I2 ((b.stp d).gInt y)<|Jn 3 R ?_
 cases h
 exact Jg4 tv R
 rintro _ aA _ ⟨rfl,p,e⟩
 have h:=aa
 refine Jd ?_
 revert h
 cases aw:C
 refine JF λh=>Jy R<|Js<|Jp<|Jg3 [2,2,2,1,2,1,1,2] 2 R<|Ob h λaG z h=>Jf R (nW (k1:= .i64) (k2:= .i64) U37 Z2 (.inl ⟨R,R⟩) (.inr ⟨_,R,R⟩) z b.1 R R R) ?_
 have m:=b.stp (d.tr e)
 refine Ob h λaH ad h=>Jr3 R C131 (dF (κ:=Mk p) (Ji3<|m.sub z) ad) ?_
 rintro _ aB ⟨ax,al,ao,rfl,U,V⟩
 obtain⟨H,s,ag⟩:=Ji U 2 R
 refine Tv<|Jn 1 R<|Jd4 (κ:=H) 5 [p1] R Y37 a8 R λan am aC I g W=>Tv<|Ob h λaI ae h=>Jy3 (κ:=I) (E:=E6) 4 [] R Y37 a8 R ((V.mx (bX _) ag R (R:2+2=4)).stp g) (Sl.srcP (co _) W.rdc) bZ ae R λap aq aD J t X=>Tv<|Jb 1 R<|Jg3 [2,2,2,2,1,2] 3 R<|Ob h λaJ A h=>Jf R (nW (k1:= .i64) (k2:= .i64) U37 Z2 (.inr ⟨_,R,R⟩) (.inl ⟨R,R⟩) A m.1 R R R)<|Ob h λaK af h=>Jy3 (κ:=J) (E:=E6) 4 [] R Y37 a8 R X (Sl.srcP (co _) ((m.stp<|T3 s g t).sub A)) bZ af R λS T ai M P Y=>Tv<|Jb 1 R<|Ju ?_
 obtain⟨N,Q,ak⟩:=kB M ai 4
 refine Ja2 (l:=[.tmp 4]) V96 (Jp2 R R) R ?_
 cases h
 exact⟨N,S,T,R,(hE.stp<|T7 d e s g t P Q),(Sl.st ak Y.rdc)⟩
 refine JT λh=>Jx R<|Je3 R<|Ju<|Jw<|Ja2 (l:=[.tmp 4]) V96 (Jp2 R R) R ?_
 cases h
 exact⟨p,j,n,R,(hE.stp<|d.tr e),(b.stp<|d.tr e)⟩
theorem rX {o v}{p0:(List Place)}{p1:Int}{a2 x}{p2:(List Int)}(i:Rd Place.rp κ w 0 o v p0) (D:Rd (Rp.int .i64) κ w 0 a2 x p2){r:Int}(h:la p0 p1 p2=some r):Ret Tryz.prog 135 [.slice o p0.length v,vi p1,.slice a2 p2.length x] w (Pvi κ w r):=by
 unfold la at h
 refine Jk3 κ F135 R N135 R λhE=>Je3 R<|Jq<|Je3 R ?_
 have G:(p0.length:Int)<=9223372036854775807:=i.len_le
 refine Ob h λu K p=>?_
 clear h
 refine Jx1 (λL w'=>∃κ',L=[]/\Stp [] κ w κ' w'/\u=eg ()) ?_ ?_
 refine Jv<|Jp3 [0,1,2] (λk E L w'=>∃κ' b,L=(7,vi b)::E/\Stp [] κ w κ' w'/\0<=b/\n6 ((p0.length:Int)-b)=k/\cntM (iC p0 p1 p2) k b ()=some u) ⟨_,_,⟨κ,0,R,Jj3,(by decide),(by simp),K⟩,(KM R)⟩ ?_
 rintro k _ S ⟨f,b,rfl,d,H,aa,h⟩
 rcases k with _ | k
 have e:=h;obtain⟨Q,h⟩:=cn (eg (gs ()):Int⊕((Unit)⊕(Unit)))
 have c:decide (b<(p0.length:Int))=false:=Jo2 (by omega)
 refine Jq<|Jg3 [2,2,2,2] 2 R<|Jn3 R U80 R R<|Jb 1 R<|Jw2 R c<|Jc1<|Jt<|Jt ?_
 cases h
 have h:=e
 refine Jb1 ?_
 cases h
 exact Jw1 _ ⟨f,R,d.wk R,R⟩ KN
 obtain⟨Q,h,e⟩:=BI h;unfold iC at h
 have c:decide (b<(p0.length:Int))=true:=Jn2 (by omega)
 refine Jq<|Jg3 [2,2,2,2] 2 R<|Jn3 R U80 R R<|Jb 1 R<|Jv2 R c<|Js<|Jp<|Jq<|Jv<|Jg3 [2,2,2,2,1,2,2,2,2,2,2,2,1,2,1,2] 2 R<|Ob h λT q h=>Jc3 R i q U80 Z88<|Jd3 R U88 R Z2 ?_
 have g:=i.stp d
 obtain⟨X,M,I⟩:=(g).gSt q
 obtain⟨V,af,rfl,Z⟩:=Place.un M
 refine Jb3 R I2 (λw' j=>I w' j 0 _ R)<|Jn 3 R<|Ob h λt h F=>Jf4 [0,1,2,7] 29 t f S [(8,2),(9,2),(10,2),(11,2),(12,1),(13,2),(14,1),(15,2)] [] tv ?_ ?_
 revert h
 cases ab:(T.At==p1)
 refine JF λh=>Jn 4 R<|Jz3 R<|Jn 1 R<|Jz3 R<|Jn 1 R ?_
 cases h
 exact Jg4 tv R
 refine JT λh=>Jn 2 R<|Ob h λak s h=>Jc3 R g s U80 Z88<|Jd3 R U88 R Z37 ?_
 obtain⟨Y,N,J⟩:=(g).gSt s
 obtain⟨W,ag,rfl,C⟩:=Place.un N
 refine Jb3 R I37 (λw' j=>J w' j 1 _ R)<|Jn 1 R<|Ob h λal P h=>Jr3 R C198 (oA (κ:=Mk f) (Ji3 C) (Ji3<|D.stp d) P) ?_
 rintro _ ah ⟨ad,rfl,B⟩
 obtain⟨U,z,ae⟩:=Ji B 2 R
 refine Tv<|Jn 1 R ?_
 cases h
 exact Jv1 _ tv ⟨R,_,z.wk R⟩<|KM R
 rintro _ ai _ ⟨rfl,m,n⟩
 have h:=F
 refine Jd ?_
 revert h
 cases ac:t
 refine JF λh=>Jy R<|Js<|Jz<|Jp<|Jf3 R ?_
 have O:cb .i64 (b+1)=b+1:=wr1 H (Jm2 c) G
 rw[O]
 have c:=Jm2 c
 cases h
 exact Jz1 λa ha=>⟨k,_,Ja3 _,⟨m,b+1,R,(d.tr n).wk R,by omega,by omega,e⟩,(ha.mm R)⟩
 refine JT λh=>Jx R<|Je3 R<|Ju<|Ja1<|Jw<|Jw ?_
 cases h
 obtain rfl:=Option.some.inj e
 have h:=yL p
 refine Ja1<|Jq2<|Jw<|Ja2 (l:=[.tmp 6]) V135 (Jp2 R R) R ?_
 cases h
 exact⟨m,R,(hE.stp<|d.tr n)⟩
 rintro _ aj ⟨y,rfl,A,rfl⟩
 have h:=yI p
 refine Jp<|Je3 R<|Ju<|Ja2 (l:=[.tmp 6]) V135 (Jp2 R R) R ?_
 cases h
 exact⟨y,R,(hE.stp A)⟩
theorem rZ {y J}{p0:(List Pair)}{a1 K}{p1:(List Int)}{p2:Int}(z:Rd Pair.rp κ w 0 y J p0) (t:Rd (Rp.int .i64) κ w 0 a1 K p1){r:Int}(h:lc p0 p1 p2=some r):Ret Tryz.prog 137 [.slice y p0.length J,.slice a1 p1.length K,vi p2] w (Pvi κ w r):=by
 unfold lc at h
 refine Jk3 κ F137 R N137 R λhE=>Je3 R<|Je3 R<|Je3 R<|Jq<|Je3 R ?_
 have aa:(p1.length:Int)<=9223372036854775807:=t.len_le
 refine Ob h λG ae W=>?_
 clear h
 refine Jx1 (λL w'=>∃κ',∃d:Int×Int,L=[(7,vi d.1),(8,vi d.2)]/\Stp [] κ w κ' w'/\G=eg d) ?_ ?_
 refine Jv<|Jp3 [0,1,2] (λk E L w'=>∃κ' b,∃c:Int×Int,L=(7,vi c.1)::(8,vi c.2)::(9,vi b)::E/\Stp [] κ w κ' w'/\0<=b/\n6 ((p1.length:Int)-b)=k/\cntM (iE p0 p1 p2) k b c=some G) ⟨_,_,⟨κ,0,(((-1):Int),((-1):Int)),R,Jj3,(by decide),(by simp),ae⟩,(KM R)⟩ ?_
 rintro k _ aR ⟨x,b,c,rfl,f,ab,aA,h⟩
 rcases k with _ | k
 have u:=h;obtain⟨ak,h⟩:=cn (eg (gs c):Int⊕((Int×Int)⊕(Int×Int)))
 have e:decide (b<(p1.length:Int))=false:=Jo2 (by omega)
 refine Jq<|Jg3 [2,2,2,2] 2 R<|Jn3 R U37 R R<|Jb 1 R<|Jw2 R e<|Jc1<|Jt<|Jt ?_
 cases h
 have h:=u
 refine Jb1 ?_
 cases h
 exact Jw1 _ ⟨x,(c.1,c.2),R,f.wk R,R⟩<|KM R
 obtain⟨ak,h,u⟩:=BI h;unfold iE at h
 have e:decide (b<(p1.length:Int))=true:=Jn2 (by omega)
 refine Jq<|Jg3 [2,2,2,2] 2 R<|Jn3 R U37 R R<|Jb 1 R<|Jv2 R e<|Js<|Jp<|Jq<|Jv<|Jq<|Jg3 [2,2,2,2,1,2,2,1,2,1] 3 R<|Ob h λaS A h=>Jc3 R t A U37 Z2 ?_
 have q:=t.stp f
 refine Jb3 R I2 (q.gInt A)<|Ob h λaT B h=>Jc3 R z B U69 Z127<|Jd3 R U127 R Z37 ?_
 have s:=z.stp f
 obtain⟨aw,af,ac⟩:=(s).gSt B
 obtain⟨aq,aK,ar,aL,rfl,U,ay⟩:=Pair.un af
 refine Jb3 R I37 (λw' v=>ac w' v 0 _ R)<|Jn 1 R<|Ob h λao ai h=>Jr3 R C197 (mw (κ:=Mk x) (Ji3 U) ai) ?_
 rintro _ al ⟨aG,rfl,S⟩
 obtain⟨g,m,aI⟩:=Ji S 2 R
 refine Tv<|Jd<|Ob h λH h X=>Jo3 [0,1,2,8,9] (λE L w'=>∃κ',L=(7,vi H)::E/\Stp [] g al κ' w') ?_ ?_
 revert h
 cases aB:ao
 refine JF λh=>Jy R<|Js ?_
 cases h
 exact Jw1 _ ⟨g,R,Jj3⟩<|KM R
 refine JT λh=>Jx R<|Jf3 R ?_
 cases h
 exact Jw1 _ ⟨g,R,Jj3⟩<|KM R
 rintro _ aO ⟨M,rfl,n⟩
 have h:=X
 refine Jp<|Jg3 [2,2,2,2,1,2,2,1,2,1] 3 R<|Ob h λaU C h=>Jc3 R q C U37 Z2<|Jb3 R I2 ((q.stp<|m.tr n).gInt C)<|Ob h λaV D h=>Jc3 R s D U69 Z127<|Jd3 R U127 R Z37 ?_
 obtain⟨ax,ag,ad⟩:=((s.stp (m.tr n))).gSt D
 obtain⟨au,aM,av,aN,rfl,az,V⟩:=Pair.un ag
 refine Jb3 R I37 (λw' v=>ad w' v 1 _ R)<|Jn 1 R<|Ob h λap aj h=>Jr3 R C197 (mw (κ:=Mk M) (Ji3 V) aj) ?_
 rintro _ am ⟨aH,rfl,T⟩
 obtain⟨i,P,aJ⟩:=Ji T 4 R
 refine Tv<|Jd<|Ob h λI h Y=>Jo3 [0,1,2,7,9] (λE L w'=>∃κ',L=(8,vi I)::E/\Stp [] i am κ' w') ?_ ?_
 revert h
 cases aC:ap
 refine JF λh=>Jy R<|Js ?_
 cases h
 exact Jw1 _ ⟨i,R,Jj3⟩<|KM R
 refine JT λh=>Jx R<|Jf3 R ?_
 cases h
 exact Jw1 _ ⟨i,R,Jj3⟩<|KM R
 rintro _ aP ⟨N,rfl,Q⟩
 have h:=Y
 refine Jz<|Jp<|Jf3 R ?_
 have ah:cb .i64 (b+1)=b+1:=wr1 ab (Jm2 e) aa
 rw[ah]
 have e:=Jm2 e
 cases h
 exact Jz1 λa ha=>⟨k,_,Ja3 _,⟨N,b+1,(H,I),R,(T5 f m n P Q).wk R,by omega,by omega,u⟩,(ha.mm R)⟩
 rintro _ an ⟨O,d,rfl,p,rfl⟩
 have h:=yI W
 refine Jp<|Jq<|Jv<|Jg3 [2,2,2,2,2,2,2] 3 R<|Ob h λF h Z=>Jf4 [7,8] 44 F O an [(3,2),(4,2),(5,2)] [(6,2)] tv ?_ ?_
 revert h
 cases aD:decide (d.1<0)
 refine JF λh=>Jn 3 R ?_
 cases h
 exact Jg4 tv R
 refine JT λh=>Jn 3 R ?_
 cases h
 exact Jg4 tv R
 rintro _ aQ _ ⟨rfl,j,o⟩
 have h:=Z
 refine Jb 1 R ?_
 revert h
 cases aE:F
 refine JF λh=>Jy R<|Je3 R ?_
 revert h
 cases aF:decide (d.2<d.1)
 refine JF λh=>Jy R<|Js<|Jz<|Jp<|Je3 R<|Ju<|Ja2 (l:=[.tmp 6]) V137 (Jp2 R R) R ?_
 cases h
 exact⟨j,R,(hE.stp<|p.tr o)⟩
 refine JT λh=>Jx R<|Je3 R<|Ju<|Ja1<|Jw<|Ja2 (l:=[.tmp 6]) V137 (Jp2 R R) R ?_
 cases h
 exact⟨j,R,(hE.stp<|p.tr o)⟩
 refine JT λh=>Jx R<|Je3 R<|Ju<|Ja1<|Jw<|Ja2 (l:=[.tmp 6]) V137 (Jp2 R R) R ?_
 cases h
 exact⟨j,R,(hE.stp<|p.tr o)⟩
theorem kH {p0:Sig}  {r:Int}(h:iJ p0=some r):Ret Tryz.prog 60 [.agg #[vi p0.In,vi p0.Out]] w (Pvi κ w r):=by
 unfold iJ at h
 refine Jk3 κ F60 R N60 R λhE=>Je [1,2] R<|Js3 (κ:=κ) 2 R λi w1 a c f=>Tv<|Jb 1 R<|Je [2,1,1,2] R<|Jd3 R U28 R Z2<|Jb3 R I2 (f.ld 0 R R)<|Ob h λn g h=>Jr3 R C62 (dh (κ:=Mk a) g) ?_
 rintro _ m ⟨j,rfl,e⟩
 obtain⟨b,d,k⟩:=Ji e 3 R
 refine Tv<|Jb 1 R<|Ju<|Ja2 (l:=[.tmp 2]) V60 (Jp2 R R) R ?_
 cases h
 exact⟨b,R,(hE.stp<|c.tr d)⟩
theorem qy {y D B v}{p0:Machine}{C z x A}{p1:Machine}(q:Rd (Rp.sl (Rp.int .i64)) κ w 0 y D p0.Next) (J:Rd (Rp.sl (Rp.int .i64)) κ w 0 B v p0.Out) (K:Rd (Rp.sl (Rp.int .i64)) κ w 0 C z p1.Next) (M:Rd (Rp.sl (Rp.int .i64)) κ w 0 x A p1.Out){r:Bool}(h:ny p0 p1=some r):Ret Tryz.prog 69 [.agg #[.slice y p0.Next.length D,.slice B p0.Out.length v],.agg #[.slice C p1.Next.length z,.slice x p1.Out.length A]] w (Pvb κ w r):=by
 unfold ny at h
 refine Jk3 κ F69 R N69 R λhE=>Je [1,1,2] R<|Js3 (κ:=κ) 2 R λaB w1 X g ad=>Tv<|Js3 (κ:=X) 3 R λaC V j f I=>Tv<|Jb 1 R<|Jq<|Je [2,1,2,2,1,2,2] R<|Jd3 R U33 R Z31 ?_
 have p:=ad.stp f
 refine Jb3 R I31 (p.ld 0 R R)<|Jn3 R U31 R R<|Jd3 R U33 R Z31<|Jb3 R I31 (I.ld 0 R R)<|Jn3 R U31 R R<|Jb 1 R ?_
 revert h
 cases aE:((p0.Next.length:Int) !=(p1.Next.length:Int))
 refine JF λh=>Jy R<|Js<|Jp<|Jq<|Je3 R ?_
 have ah:(p0.Next.length:Int)<=9223372036854775807:=q.len_le
 refine Ob h λU an N=>?_
 clear h
 refine Jx1 (λL w'=>∃κ',L=[]/\Stp [] j V κ' w'/\U=eg ()) ?_ ?_
 refine Jv<|Jp3 [2,3] (λk E L w'=>∃κ' c,L=(5,vi c)::E/\Stp [] j V κ' w'/\0<=c/\n6 ((p0.Next.length:Int)-c)=k/\cntM (kR p0 p1) k c ()=some U) ⟨_,_,⟨j,0,R,Jj3,(by decide),(by simp),an⟩,(KM R)⟩ ?_
 rintro k _ aQ ⟨n,c,rfl,b,ai,aD,h⟩
 rcases k with _ | k
 have m:=h;obtain⟨ar,h⟩:=cn (eg (gs ()):Bool⊕((Unit)⊕(Unit)))
 have i:decide (c<(p0.Next.length:Int))=false:=Jo2 (by omega)
 refine Jq<|Jg3 [2,2,1,2,2] 1 R<|Jd3 R U33 R Z31<|Jb3 R I31 ((p.stp b).ld 0 R R)<|Jn3 R U31 R R<|Jb 1 R<|Jw2 R i<|Jc1<|Jt<|Jt ?_
 cases h
 have h:=m
 refine Jb1 ?_
 cases h
 exact Jw1 _ ⟨n,R,b.wk R,R⟩ KN
 obtain⟨ar,h,m⟩:=BI h;unfold kR at h
 have i:decide (c<(p0.Next.length:Int))=true:=Jn2 (by omega)
 refine Jq<|Jg3 [2,2,1,2,2] 1 R<|Jd3 R U33 R Z31 ?_
 have F:=p.stp b
 refine Jb3 R I31 (F.ld 0 R R)<|Jn3 R U31 R R<|Jb 1 R<|Jv2 R i<|Js<|Jp<|Jq<|Jv<|Jq<|Js1 (κ:=n) [0,2,3] none [(0,2),(2,2),(5,2),(7,2),(1,0),(3,2),(4,0),(6,0),(8,2),(9,0),(10,1),(11,2),(12,2),(13,2),(15,2),(18,2),(20,2),(14,0),(16,2),(17,0),(19,0),(21,2),(22,0),(23,1),(24,2),(25,2)] [] (by kernel_rfl) (by kernel_rfl) λaR e=>Jd3 R U33 R Z31<|Jn 1 R<|Jd3 R U33 R Z31<|Jn 1 R ?_
 have G:=F.stp e
 refine Jg R (Jc2 I31 R R<|hvC (G.ld 0 R R) R)<|Ob h λaU O h=>Jc3 R q O U31 Z37 ?_
 obtain⟨ax,aL,ab,aj⟩:=(q.stp (T4 g f b e)).gSl O
 refine Jg R (Jc2 I37 R R<|hvC aj R) ?_
 have H:=I.stp (b.tr e)
 refine Jg R (Jc2 I31 R R<|hvC (H.ld 0 R R) R)<|Ob h λaV P h=>Jc3 R K P U31 Z37 ?_
 obtain⟨ay,aM,ac,ak⟩:=(K.stp (T4 g f b e)).gSl P
 refine Jg R (Jc2 I37 R R<|hvC ak R)<|Ob h λav ap h=>Jr3 R C144 (kI (κ:=Mk n) (Ji3 ab) (Ji3 ac) ap) ?_
 rintro _ au ⟨aH,rfl,Z⟩
 obtain⟨s,d,aJ⟩:=Ji Z 4 R
 refine⟨(d.cl R),Jn 2 R<|Ob h λT h ag=>Jf4 [2,3,5] 45 T s au [(13,2),(15,2),(18,2),(20,2),(14,0),(16,2),(17,0),(19,0),(21,2),(22,0),(23,1),(24,2),(25,2)] [] (d.cl R) ?_ ?_⟩
 revert h
 cases aF:(!av)
 refine JF λh=>Jd3 R U33 R Z31<|Jn 1 R<|Jd3 R U33 R Z31<|Jn 1 R<|Jg R (Jc2 I31 R R<|hvC (G.ld 1 R R) R)<|Ob h λaW Q h=>Jc3 R J Q U31 Z37 ?_
 obtain⟨az,aN,ae,al⟩:=(J.stp (T4 g f b e)).gSl Q
 refine Jg R (Jc2 I37 R R<|hvC al R)<|Jg R (Jc2 I31 R R<|hvC (H.ld 1 R R) R)<|Ob h λaX S h=>Jc3 R M S U31 Z37 ?_
 obtain⟨aA,aO,af,am⟩:=(M.stp (T4 g f b e)).gSl S
 refine Jg R (Jc2 I37 R R<|hvC am R)<|Ob h λaY aq h=>Jr3 R C144 (kI (κ:=Mk s) (Ji3<|ae.stp d) (Ji3<|af.stp d) aq) ?_
 rintro _ aS ⟨aI,rfl,aa⟩
 obtain⟨aw,o,aK⟩:=Ji aa 6 R
 refine⟨((d.tr o).cl R),Jn 2 R ?_⟩
 cases h
 exact Jv1 _ ((d.tr o).cl R) ⟨R,_,o.wk R⟩<|KM R
 refine JT λh=>Jn 4 R<|Ja4 R<|Jn 1 R<|Ja4 R<|Ja4 R<|Jn 1 R<|Ja4 R<|Jz3 R<|Jn 2 R ?_
 cases h
 exact Jv1 _ (d.cl R) ⟨R,_,Jj3⟩<|KM R
 rintro _ aT _ ⟨rfl,t,u⟩
 have h:=ag
 refine Jt1<|Jd ?_
 revert h
 cases aG:T
 refine JF λh=>Jy R<|Js<|Jz<|Jp<|Jf3 R ?_
 have ao:cb .i64 (c+1)=c+1:=wr1 ai (Jm2 i) ah
 rw[ao]
 have i:=Jm2 i
 cases h
 exact Jz1 λa ha=>⟨k,_,Ja3 _,⟨t,c+1,R,(T4 b e d u).wk R,by omega,by omega,m⟩,(ha.mm R)⟩
 refine JT λh=>Jx R<|Je3 R<|Ju<|Ja1<|Jw<|Jw ?_
 cases h
 obtain rfl:=Option.some.inj m
 have h:=yL N
 refine Ja1<|Jq2<|Jw<|Ja2 (l:=[.tmp 4]) V69 (Jp2 R R) R ?_
 cases h
 exact⟨t,R,(hE.stp<|T6 g f b e d u)⟩
 rintro _ aP ⟨W,rfl,Y,rfl⟩
 have h:=yI N
 refine Jp<|Je3 R<|Ju<|Ja2 (l:=[.tmp 4]) V69 (Jp2 R R) R ?_
 cases h
 exact⟨W,R,(hE.stp<|T3 g f Y)⟩
 refine JT λh=>Jx R<|Je3 R<|Ju<|Jw<|Ja2 (l:=[.tmp 4]) V69 (Jp2 R R) R ?_
 cases h
 exact⟨j,R,(hE.stp<|g.tr f)⟩
theorem oa {K H M I J F G D}{p0:l30Graph}{a1 S}{p1:(List Int)}(aD:Rd (Rp.int .i64) κ w 0 K H p0.of) (y:Rd (Rp.int .i64) κ w 0 M I p0.by0) (aE:Rd (Rp.sl (Rp.int .i64)) κ w 0 J F p0.next) (aF:Rd (Rp.sl (Rp.int .i64)) κ w 0 G D p0.letters) (al:Rd (Rp.int .i64) κ w 0 a1 S p1){r:(List Int)}(h:jU p0 p1=some r):Ret Tryz.prog 206 [.agg #[.slice K p0.of.length H,.slice M p0.by0.length I,.slice J p0.next.length F,.slice G p0.letters.length D],.slice a1 p1.length S] w (Pvs E6 2 κ w r):=by
 unfold jU at h
 refine Jk3 κ F206 R N206 R λhE=>Je [1,2] R<|Js3 (κ:=κ) 2 R λaC w1 V v O=>Tv<|Jb 1 R<|Je [1,2] R<|Jx3 (κ:=V) (E:=E6) 3 R Y37 a8 R λac ay T t g ak=>Tv<|Jb 1 R<|Jq<|Je3 R ?_
 have ao:(p0.by0.length:Int)<=9223372036854775807:=y.len_le
 refine Ob h λQ aq am=>?_
 clear h
 refine Jx1 (λL w'=>∃κ',∃q:(List Int),∃m p,L=[(5,.slice m q.length p)]/\Stp [3] t T κ' w'/\Oc E6 2 κ' w' 3 m p q/\Q=eg q) ?_ ?_
 refine Jv<|Jp3 [1,2] (λk E L w'=>∃κ' c,∃f:(List Int),∃j i,L=(5,.slice j f.length i)::(6,vi c)::E/\Stp [3] t T κ' w'/\Oc E6 2 κ' w' 3 j i f/\0<=c/\n6 ((p0.by0.length:Int)-c)=k/\cntM (iO p0 p1) k c f=some Q) ⟨_,_,⟨t,0,(([]:List Int):(List Int)),ac,ay,R,Jj3,ak,(by decide),(by simp),aq⟩,(KM R)⟩ ?_
 rintro k _ aL ⟨B,c,f,j,i,rfl,d,x,ap,aG,h⟩
 rcases k with _ | k
 have z:=h;obtain⟨ax,h⟩:=cn (eg (gs f):(List Int)⊕(((List Int))⊕((List Int))))
 have e:decide (c<(p0.by0.length:Int))=false:=Jo2 (by omega)
 refine Jq<|Jg3 [2,2,1,2,2] 1 R<|Jd3 R U216 R Z37<|Jb3 R I37 ((O.stp<|g.tr d).ld 1 R R)<|Jn3 R U37 R R<|Jb 1 R<|Jw2 R e<|Jc1<|Jt<|Jt ?_
 cases h
 have h:=z
 refine Jb1 ?_
 cases h
 exact Jw1 _ ⟨B,f,j,i,R,d.wk R,x,R⟩<|KM R
 obtain⟨ax,h,z⟩:=BI h;unfold iO at h
 have e:decide (c<(p0.by0.length:Int))=true:=Jn2 (by omega)
 refine Jq<|Jg3 [2,2,1,2,2] 1 R<|Jd3 R U216 R Z37 ?_
 have N:=O.stp (g.tr d)
 refine Jb3 R I37 (N.ld 1 R R)<|Jn3 R U37 R R<|Jb 1 R<|Jv2 R e<|Js<|Jp<|Jq<|Jv<|Jg3 [2,2,1,2,2,1,1] 1 R<|Jd3 R U216 R Z37<|Jb3 R I37 (N.ld 1 R R)<|Jn 1 R<|Ob h λaP P h=>Jc3 R y P U37 Z2<|Jb3 R I2 ((y.stp<|T3 v g d).gInt P)<|Ob h λaA av h=>Jr3 R C81 (jc (κ:=Mk B) (Ji3<|al.stp<|T3 v g d) av) ?_
 rintro _ az ⟨aI,rfl,af⟩
 obtain⟨s,u,aJ⟩:=Ji af 4 R
 refine Tv<|Jd<|Ob h λA h an=>Jo3 [1,2,6] (λE L w'=>∃κ' n o,L=(5,.slice n A.length o)::E/\Stp [3] s az κ' w'/\Oc E6 2 κ' w' 3 n o A) ?_ ?_
 revert h
 cases aH:aA
 refine JF λh=>Jy R<|Js ?_
 cases h
 exact Jw1 _ ⟨s,j,i,R,Jj3,(x.stp u)⟩<|KM R
 refine JT λh=>Jx R<|Jh3 [2,2,1,1,2] 2 R<|Jd4 (κ:=s) 6 [c] R Y37 a8 R λar aB aN X C ai=>Tv<|Ob h λaQ aw h=>Jy3 (κ:=X) (E:=E6) 3 [] R Y37 a8 R (x.stp<|u.tr C) (Sl.srcP (co _) ai.rdc) bZ aw R λad ae aO Y ab aj=>Tv<|Jc 1 R ?_
 cases h
 exact Jw1 _ ⟨Y,ad,ae,R,(C.tr ab).wk R,aj⟩<|KM R
 rintro _ aM ⟨W,n,o,rfl,aa,ah⟩
 have h:=an
 refine Jz<|Jp<|Jf3 R ?_
 have au:cb .i64 (c+1)=c+1:=wr1 ap (Jm2 e) ao
 rw[au]
 have e:=Jm2 e
 cases h
 exact Jz1 λa ha=>⟨k,_,Ja3 _,⟨W,c+1,A,n,o,R,(T3 d u aa).wk R,ah,by omega,by omega,z⟩,(ha.mm R)⟩
 rintro _ aK ⟨U,q,m,p,rfl,Z,ag,rfl⟩
 have h:=yI am
 refine Jp<|Je3 R<|Ju<|Ja2 (l:=[.tmp 4]) V206 (Jp2 R R) R ?_
 cases h
 exact⟨(λb=>ren [(3,2)]<|U b),m,p,R,((hE.stp<|T3 v g Z).map (ren [(3,2)]) R R),(ag.map (ren [(3,2)]) R R)⟩
theorem tz {p0:Int}{a1 x}{p1:(List Int)}(P:Rd (Rp.int .i64) κ w 0 a1 x p1){r:(List Bool)}(h:lu p0 p1=some r):Ret Tryz.prog 207 [vi p0,.slice a1 p1.length x] w (Pvs Ep.bool 4 κ w r):=by
 unfold lu at h
 refine Jk3 κ F207 R N207 R λhE=>Je3 R<|Je [1,2] R<|Jx3 (κ:=κ) (E:=Ep.bool) 2 R Y178 dI R λG aa w1 m t O=>Tv<|Jb 1 R<|Jq<|Je3 R<|Ob h λ_ V h=>?_
 have S:=kN V
 refine Ob h λv U Q=>?_
 clear h
 refine Jx1 (λL w'=>∃κ',∃j:(List Bool),∃f i,L=[(5,.slice f j.length i)]/\Stp [2] m w1 κ' w'/\Oc Ep.bool 4 κ' w' 2 f i j/\v=eg j) ?_ ?_
 refine Jv<|Jp3 [0,1] (λk E L w'=>∃κ' b,∃d:(List Bool),∃g e,L=(5,.slice g d.length e)::(6,vi b)::E/\Stp [2] m w1 κ' w'/\Oc Ep.bool 4 κ' w' 2 g e d/\0<=b/\n6 (p0-b)=k/\cntM (jF p1) k b d=some v) ⟨_,_,⟨m,0,(([]:List Bool):(List Bool)),G,aa,R,Jj3,O,(by decide),(by simp),U⟩,(KM R)⟩ ?_
 rintro k _ ah ⟨p,b,d,g,e,rfl,n,u,T,ae,h⟩
 rcases k with _ | k
 have o:=h;obtain⟨Z,h⟩:=cn (eg (gs d):(List Bool)⊕(((List Bool))⊕((List Bool))))
 have c:decide (b<p0)=false:=Jo2 (by omega)
 refine Jq<|Je3 R<|Jw2 R c<|Jc1<|Jt<|Jt ?_
 cases h
 have h:=o
 refine Jb1 ?_
 cases h
 exact Jw1 _ ⟨p,d,g,e,R,n.wk R,u,R⟩<|KM R
 obtain⟨Z,h,o⟩:=BI h;unfold jF at h
 have c:decide (b<p0)=true:=Jn2 (by omega)
 refine Jq<|Je3 R<|Jv2 R c<|Js<|Jp<|Jq<|Jv<|Jh3 [2,2,2,1,2,1,1,2] 3 R<|Ob h λy X h=>Jr3 R C81 (jc (κ:=Mk p) (Ji3<|P.stp<|t.tr n) X) ?_
 rintro _ ai ⟨af,rfl,J⟩
 obtain⟨z,q,ag⟩:=Ji J 3 R
 refine Tv<|Jn 1 R<|Jw3 (κ:=z) (E:=Ep.bool) 5 [] (parts:=[(0,.tmp 17)]) (cells:=[.bool (!y)]) (xs:=([(!y)]:List Bool)) R Y178 dI R (Je4 R) λac ad aj A s M=>Tv<|Ob h λab Y h=>Jy3 (κ:=A) (E:=Ep.bool) 2 [] R Y178 dI R (u.stp<|q.tr s) (Sl.srcP yg M.rdc) bZ Y R λI H ak B F N=>Tv<|Jc 1 R<|Jz<|Jp<|Jf3 R ?_
 have W:cb .i64 (b+1)=b+1:=wr1 T (Jm2 c) S
 rw[W]
 have c:=Jm2 c
 cases h
 exact Jz1 λa ha=>⟨k,_,Ja3 _,⟨B,b+1,ab,I,H,R,(T4 n q s F).wk R,N,by omega,by omega,o⟩,(ha.mm R)⟩
 rintro _ al ⟨C,j,f,i,rfl,D,K,rfl⟩
 have h:=yI Q
 refine Jp<|Je3 R<|Ju<|Ja2 (l:=[.tmp 4]) V207 (Jp2 R R) R ?_
 cases h
 exact⟨C,f,i,R,(hE.stp<|t.tr D),K⟩
end Go.Proofs.YtleekpaohfpooaaGreat
