/- The walks, part 3. By program. -/
import Derived.Test.YtgbippnfaoedmaaGreatDoorFns2BG
set_option linter.unusedVariables false
set_option linter.unusedSimpArgs false
open Go.Wk.Ep renaming bool → zo
open Int renaming tmod → zx, toNat → zq
open Go.IntKind renaming wrap → zr
open Option.some renaming inj → zt
open Go.Wk.Sl renaming srcP → zu
open Sum renaming inr → zw
namespace Go.Proofs.YtgbippnfaoedmaaGreatDoor
open Tryz
open Go Go.Wk Go.Proofs
set_option maxRecDepth 100000
set_option maxHeartbeats 1000000
section
variable {w:World}{J:Col}
theorem oK {a b}{p0:VI}{p1:Int}(g:Rd Ri J w 0 a b p0){r:Bool}(h:kW p0 p1=some r):Ret prog 48 [.slice a p0.length b,vi p1] w (Pvb J w r):=by
 unfold kW at h
 refine Jp3 J func48 R ntmps48 R λi=>Jf3 R<|Jl3 1 R<|Js3 R U27 R R<|Jn 3 R<|Ob h λm h j=>Jk4 [4] 13 m J w 4 tv ?_ ?_
 revert h
 cases o:decide ((p0.length:Int)<=p1)
 refine JF λh=>Jn 2 R<|Je4 R<|Jn 1 R ?_
 cases h
 exact Jl4 tv R
 refine JT λh=>Jn 2 R<|Ob h λu k h=>Jw3 R call91 (qF (J:=Mk J) (Jn3 g) k) ?_
 rintro _ t ⟨p,rfl,f⟩
 obtain⟨n,e,q⟩:=Ji f 2 R
 refine Tv<|Jn 1 R ?_
 cases h
 exact Jv1 _ tv ⟨R,_,e.wk R⟩<|KM R
 rintro _ s _ ⟨rfl,c,d⟩
 have h:=j
 refine Jb 1 R<|Ju<|Jb2 (l:=[.tmp 4]) results48 (Jq2 R R) R ?_
 cases h
 exact⟨c,R,(i.stp d)⟩
theorem qD {x q t v s u}{p0:Parity}{p1:Int}(y:Rd Ri J w 0 x q p0.Arena.Owner) (z:Rd Rs J w 0 t v p0.Arena.Next) (A:Rd Ri J w 0 s u p0.Prio){r:ByteArray}(h:eW p0 p1=some r):Ret prog 16 [.agg #[.slice x p0.Arena.Owner.length q,.slice t p0.Arena.Next.length v,.slice s p0.Prio.length u],vi p1] w (λX Y=>∃(Z:Col),X= .string r/\Ent J w Z Y):=by
 unfold eW at h
 refine Jp3 J func16 R ntmps16 R λQ=>Jj3<|Jx3 J 2 R λad an o g P=>Tv<|Jb 1 R<|Jq<|Js1 (J:=o) [0,2] none [(0,2),(2,2),(6,2),(7,2),(9,2),(13,2),(14,2),(16,2),(1,0),(3,2),(4,0),(8,0),(10,2),(11,0),(15,0),(17,2),(18,0),(5,1),(12,1),(19,1),(20,1),(21,1),(22,2)] [] (by kernel_rfl) (by kernel_rfl) λau e=>Je3 R U32 R Z27<|Jn 1 R<|Je3 R U32 R Z30<|Je3 R U30 R Z27<|Jn 1 R<|Je3 R U32 R Z30<|Je3 R U30 R Z28<|Jn 1 R ?_
 have m:=P.stp e
 refine Jg R (Jd2 I27 R R<|hvC (m.ld 2 R R) R)<|Ob h λay D h=>Jd3 R A D U27 Z2<|Jg R (Jd2 I2 R R<|hvC ((A.stp<|g.tr e).gInt D) R)<|Jg R (Jd2 I27 R R<|hvC (m.ld 0 R R) R)<|Ob h λav B h=>Jd3 R y B U27 Z2<|Jg R (Jd2 I2 R R<|hvC ((y.stp<|g.tr e).gInt B) R)<|Jg R (Jd2 I28 R R<|hvC (m.ld 1 R R) R)<|Ob h λaw C h=>Jd3 R z C U28 Z27 ?_
 obtain⟨ac,am,N,S⟩:=(z.stp (g.tr e)).gSl C
 refine Jg R (Jd2 I27 R R<|hvC S R)<|Ob h λn T h=>Jw3 R call27 (oH (J:=Mk o) T) ?_
 rintro _ ao ⟨ae,rfl,I⟩
 obtain⟨E,b,ai⟩:=Ji I 3 R
 refine⟨(b.cl R),Ob h λj U h=>Jw3 R call28 (rR (J:=Mk E) U) ?_⟩
 rintro _ ap ⟨af,rfl,K⟩
 obtain⟨F,c,aj⟩:=Ji K 5 R
 refine⟨((b.tr c).cl R),Ob h λf V h=>Jw3 R call29 (rU (J:=Mk F) (Jn3<|N.stp<|b.tr c) V) ?_⟩
 rintro _ d ⟨ag,rfl,L⟩
 obtain⟨a,i,ak⟩:=Ji L 7 R
 refine⟨((T3 b c i).cl R),Jb4 a Ep.str 9 [] (parts:=[(0,.tmp 10),(1,.tmp 17),(2,.tmp 24)]) (cells:=[.string n,.string j,.string f]) (xs:=([n,j,f]:List ByteArray)) R Y38 cG R ⟨[.string n],[.string j,.string f],Zl a d [],Zl a d [],R,Zl.sp (l1:=[]) (l2:=[]) R,Zl.sr (l1:=[]) (l2:=[]),R,⟨[.string j],[.string f],Zl a d [],Zl a d [],R,Zl.sp (l1:=[]) (l2:=[]) R,Zl.sr (l1:=[]) (l2:=[]),R,⟨[.string f],[],Zl a d [],Zl a d [],R,Zl.sp (l1:=[]) (l2:=[]) R,Zl.sr (l1:=[]) (l2:=[]),R,R⟩⟩⟩ λab aa aq G k O=>⟨((T4 b c i k).cl R),Ob h λax W h=>Jw3 R call26 (mv (J:=Mk G) (Jn3 O.rdc) W) ?_⟩⟩
 rintro _ ar ⟨ah,rfl,M⟩
 obtain⟨H,p,al⟩:=Ji M 10 R
 refine⟨((T5 b c i k p).cl R),Jn 1 R<|Jt1<|Jd<|Ju<|Jb2 (l:=[.tmp 4]) results16 (Jq2 R R) R ?_⟩
 cases h
 exact⟨H,R,(Q.stp<|T7 g e b c i k p)⟩
theorem kC {ba bf ay bb a9 bd a8 a7 a6 bg}{p0:l7Game}{a4 bU}{p1:VB}{p2:Int}{a5 bV}{aB:VB}(aw:Rd Ri J w 0 ba bf p0.owner) (bl:Rd Ri J w 0 ay bb p0.prio) (bm:Rd Rs J w 0 a9 bd p0.next) (aM:Rd Rs J w 0 a8 a7 p0.prev) (bp:Rd Ri J w 0 a6 bg p0.pick) (Z:Rd Rp.bool J w 0 a4 bU p1) (bq:Rd Rp.bool J w 0 a5 bV aB){r:VB}(h:eZ p0 p1 p2 aB=some r):Ret prog 95 [.agg #[.slice ba p0.owner.length bf,.slice ay p0.prio.length bb,.slice a9 p0.next.length bd,.slice a8 p0.prev.length a7,.slice a6 p0.pick.length bg],.slice a4 p1.length bU,vi p2,.slice a5 aB.length bV] w (Pvs zo 4 J w r):=by
 unfold eZ at h
 refine Jp3 J func95 R ntmps95 R λcS=>Jj3<|Jx3 J 2 R λdV ei b7 A bk=>Tv<|Jb 1 R<|Jl3 1 R<|Js3 R U71 R R<|Ob h λp dr h=>Jl1 (J:=b7) (E:=zo) (z:=(false:Bool)) 3 R R R R R R R Y71 bZ R R R R R (λ_ _ _=>R) (Jv2 dr) λu v er cc q cO=>Tv<|Jb 1 R<|Jl3 1 R<|Js3 R U71 R R<|Ob h λs ds h=>Jl1 (J:=cc) (E:=E6) (z:=(0:Int)) 4 R R R R R R R Y27 aR R R R R R (λ_ _ _=>R) (Jv2 ds) λE D ex b1 k cx=>Tv<|Jb 1 R<|Jj3<|Jc4 b1 E6 5 R Y27 aR R λcm co bX aC i cB=>Tv<|Jb 1 R<|Jq<|Jf3 R<|Ob h λbS dk cY=>?_
 clear h
 refine Jt3 [1,2,4,9,10] (λc f a=>∃b,∃o:VI×VB×VI,∃ak ae,f=(11,.slice ak o.1.length ae)::c/\Stp [3,4,5] aC bX b a/\Oc E6 2 b a 5 ak ae o.1/\Oc zo 4 b a 3 u v o.2.1/\p.length=o.2.1.length/\Oc E6 2 b a 4 E D o.2.2/\s.length=o.2.2.length/\bS=zw o) ?_ ?_
 refine Jv<|Ju3 [1,2,3,4,9,10] (λg c f a=>∃b x,∃m:VI×VB×VI,∃Y W,f=(11,.slice Y m.1.length W)::(12,vi x)::c/\Stp [3,4,5] aC bX b a/\Oc E6 2 b a 5 Y W m.1/\Oc zo 4 b a 3 u v m.2.1/\p.length=m.2.1.length/\Oc E6 2 b a 4 E D m.2.2/\s.length=m.2.2.length/\0<=x/\zq ((p1.length:Int)-x)=g/\cntM (cU p0 p1 aB) g x m=some bS) ⟨_,_,⟨aC,0,(([]:VI),p,s),cm,co,R,Jo3,cB,(cO.stp<|k.tr i),R,(cx.stp i),R,(by decide),(by simp),dk⟩,(KM R)⟩ ?_
 rintro g _ dC ⟨ac,x,m,Y,W,rfl,K,aL,ar,az,au,aA,c4,br,h⟩
 rcases g with _|g
 have ax:=h;obtain⟨dx,h⟩:=exq ax
 have O:=dcf br
 refine Jq<|Jl3 2 R<|Js3 R U71 R R<|Jb 1 R<|Jx2 R O<|Jc1<|Jt<|Jt ?_
 cases h
 have h:=ax
 refine Jb1 ?_
 cases h
 exact Jw1 _ ⟨ac,(m.1,m.2.1,m.2.2),Y,W,R,K.wk R,aL,ar,az,au,aA,R⟩<|KM R
 obtain⟨dx,h,ax⟩:=BI h;unfold cU at h
 have O:=dct br
 refine Jq<|Jl3 2 R<|Js3 R U71 R R<|Jb 1 R<|Jw2 R O<|Js<|Jp<|Jq<|Jv<|Jq<|Jl3 2 R<|Ob h λdG bA h=>Jd3 R Z bA U71 Z4 ?_
 have av:=Z.stp (T5 A q k i K)
 refine Jc3 R I4 (av.gBool bA)<|Jd<|Ob h λaP h c1=>Jt3 [1,2,3,4,9,10,11,12] (λc f a=>∃b,f=c/\Stp [4] ac dC b a/\Oc E6 2 b a 4 E D aP/\s.length=aP.length) ?_ ?_
 revert h
 cases d7:dG
 refine JF λh=>Jy R<|Js ?_
 cases h
 exact Jw1 _ ⟨ac,R,Jo3,au,aA⟩<|KM R
 have T:=(T5 A q k i K)
 refine JT λh=>Jx R<|Jm3 2 R<|Jg4 tv R (Jh4 (haE (bk.stp<|T4 q k i K).cells) I69 Z69 R)<|Jn 2 R<|Ob h λeF dt h=>Jw3 R call146 (pq (J:=Mk ac) (p0:=p0) (Jn3<|aw.stp T) (Jn3<|bl.stp T) (Jn3<|bm.stp T) (Jn3<|aM.stp T) (Jn3<|bp.stp T) (Jn3 av) dt) ?_
 rintro _ es ⟨eb,rfl,cv⟩
 obtain⟨cb,a0,ed⟩:=Ji cv 6 R
 refine Tv<|Ob h λeG du h=>Jf R (Jg2 au.rdc du U27 Z2 R R aA R)<|Ob h λdM bJ h=>Jk1 (J:=cb) (E:=E6) 4 [] R R R R R R R R Z2 R R R R (au.stp a0) bJ λet cd cl cL=>Tv<|?_
 have df:s.length=dM.length:=aA.trans (Ju2 bJ).2.2.2.symm
 refine Jo ?_
 cases h
 exact Jw1 _ ⟨cd,R,(a0.tr cl).wk R,cL,df⟩<|KM R
 rintro _ dD ⟨ca,rfl,C,cK,de⟩
 have h:=c1
 refine Jp<|Jl3 2 R<|Ob h λdH bB h=>Jd3 R av bB U71 Z4<|Jc3 R I4 ((av.stp C).gBool bB)<|Jn 1 R<|Ob h λbP h c2=>Jk4 [1,2,3,4,9,10,11,12] 50 bP ca dD 5 tv ?_ ?_
 revert h
 cases d8:dH
 refine JF λh=>Jn 3 R<|Je4 R<|Jn 1 R ?_
 cases h
 exact Jl4 tv R
 refine JT λh=>Jn 2 R<|Ob h λeH bC h=>Jd3 R bq bC U71 Z4<|Jc3 R I4 ((bq.stp<|T6 A q k i K C).gBool bC)<|Jn 1 R ?_
 cases h
 exact Jl4 tv R
 rintro _ dE _ ⟨rfl,aF,L⟩
 have h:=c2
 refine Jd<|Ob h λS h c3=>Jt3 [1,2,3,4,9,10,12] (λc f a=>∃b al ag,f=(11,.slice al S.1.length ag)::c/\Stp [3,5] aF dE b a/\Oc E6 2 b a 5 al ag S.1/\Oc zo 4 b a 3 u v S.2/\p.length=S.2.length) ?_ ?_
 revert h
 cases d9:bP
 refine JF λh=>Jy R<|Js ?_
 cases h
 exact Jw1 _ ⟨aF,Y,W,R,Jo3,(aL.stp<|C.tr L),(ar.stp<|C.tr L),az⟩<|KM R
 refine JT λh=>Jx R<|Jl3 2 R<|Ob h λeI dv h=>Jf R (Jg2 ar.rdc dv U71 Z4 R R az R)<|Ob h λdN bK h=>Jk1 (J:=aF) (E:=zo) 3 [] R R R R R R R R Z4 R R R R (ar.stp<|C.tr L) bK λev cf a2 cP=>Tv<|?_
 have dh:p.length=dN.length:=az.trans (Ju2 bK).2.2.2.symm
 refine Jd<|Jm3 2 R<|Ji4 cf 6 [x] R Y27 aR R λaQ dQ ew cg aI cQ=>Tv<|Ob h λeJ dw h=>Jd4 cg E6 5 [] R Y27 aR R (aL.stp<|T4 C L a2 aI) (zu (bo _) cQ.rdc) aV dw R λcp cn ey ch a3 cR=>Tv<|Jc 1 R ?_
 cases h
 exact Jw1 _ ⟨ch,cp,cn,R,(T3 a2 aI a3).wk R,cR,(cP.stp<|aI.tr a3),dh⟩<|KM R
 rintro _ eu ⟨ce,al,ag,rfl,a1,cM,cN,dg⟩
 have h:=c3
 refine Jz<|Jp<|Jg3 R ?_
 have dl:zr .i64 (x+1)=x+1:=wr1 c4 (Jn2 O) Z.len_le
 rw[dl]
 have O:=Jn2 O
 cases h
 exact Ja2 ⟨ce,x+1,(S.1,S.2,aP),al,ag,R,(T4 K C L a1).wk R,cM,cN,dg,(cK.stp<|L.tr a1),de,by omega,by omega,ax⟩ R
 rintro _ bY ⟨aE,o,ak,ae,rfl,I,cH,cI,dc,cJ,dd,rfl⟩
 have h:=yI cY
 refine Jp<|Jq<|Jf3 R<|Ob h λbT di cT=>?_
 clear h
 refine Jt3 [9] (λc f a=>∃b,∃G:VI×Int×VB×VI,∃be bc,f=c/\Stp [3,4,5] aE bY b a/\Oc E6 2 b a 5 be bc G.1/\Oc zo 4 b a 3 u v G.2.2.1/\p.length=G.2.2.1.length/\Oc E6 2 b a 4 E D G.2.2.2/\s.length=G.2.2.2.length/\bT=zw G) ?_ ?_
 refine Jv<|Ju3 [1,2,4,9,10] (λg c f a=>∃b,∃d:VI×Int×VB×VI,∃V X,f=(11,.slice V d.1.length X)::(13,vi d.2.1)::c/\Stp [3,4,5] aE bY b a/\Oc E6 2 b a 5 V X d.1/\Oc zo 4 b a 3 u v d.2.2.1/\p.length=d.2.2.1.length/\Oc E6 2 b a 4 E D d.2.2.2/\s.length=d.2.2.2.length/\bn (dS p0 p1 p2) g d=some bT) ⟨_,_,⟨aE,(o.1,(0:Int),o.2.1,o.2.2),ak,ae,R,Jo3,cH,cI,dc,cJ,dd,di⟩,(KM R)⟩ ?_
 rintro g _ bW ⟨ab,d,V,X,rfl,B,am,bh,bt,bi,bu,h⟩
 rcases g with _|g
 cases h
 obtain⟨ee,h,bs⟩:=BI h;unfold dS at h
 refine Jq<|Jl3 2 R<|Js3 R U27 R R<|Jb 1 R ?_
 revert h
 cases d0:decide (d.2.1<(d.1.length:Int))
 refine JF λh=>Jy R<|Jc1<|Jt<|Jt ?_
 cases h
 have h:=bs
 refine Jb1 ?_
 cases h
 exact Jw1 _ ⟨ab,(d.1,d.2.1,d.2.2.1,d.2.2.2),V,X,R,B.wk R,am,bh,bt,bi,bu,R⟩<|KM R
 refine JT λh=>Jx R<|Js<|Jp<|Jq<|Jv<|Jl3 2 R<|Ob h λdI bD h=>Jd3 R am.rdc bD U27 Z2<|Jc3 R I2 (am.rdc.gInt bD)<|Jb 1 R<|Jf3 R<|Ob h λbR dj cV=>?_
 clear h
 refine Jt3 [1,2,4,9,10,13] (λc f a=>∃b,∃n:VI×Int×VB×VI,∃aj ah,f=(11,.slice aj n.1.length ah)::c/\Stp [3,4,5] ab bW b a/\Oc E6 2 b a 5 aj ah n.1/\Oc zo 4 b a 3 u v n.2.2.1/\p.length=n.2.2.1.length/\Oc E6 2 b a 4 E D n.2.2.2/\s.length=n.2.2.2.length/\bR=zw n) ?_ ?_
 refine Jv<|Ju3 [1,2,4,9,10,13,14] (λg c f a=>∃b,∃e:VI×Int×VB×VI,∃M N,f=(11,.slice M e.1.length N)::(15,vi e.2.1)::c/\Stp [3,4,5] ab bW b a/\Oc E6 2 b a 5 M N e.1/\Oc zo 4 b a 3 u v e.2.2.1/\p.length=e.2.2.1.length/\Oc E6 2 b a 4 E D e.2.2.2/\s.length=e.2.2.2.length/\bn (cu p0 p1 p2 dI) g e=some bR) ⟨_,_,⟨ab,(d.1,(0:Int),d.2.2.1,d.2.2.2),V,X,R,Jo3,am,bh,bt,bi,bu,dj⟩,(KM R)⟩ ?_
 rintro g _ dy ⟨aS,e,M,N,rfl,y,an,F,P,ao,aa,h⟩
 rcases g with _|g
 cases h
 obtain⟨ef,h,aN⟩:=BI h;unfold cu at h
 refine Jq<|Jl3 1 R<|Je3 R U69 R Z28 ?_
 have ap:=bk.stp (T6 q k i I B y)
 refine Jc3 R I28 (ap.ld 3 R R)<|Jn 1 R<|Ob h λdJ bE h=>Jd3 R aM bE U28 Z27 ?_
 have aq:=aM.stp (T7 A q k i I B y)
 obtain⟨dT,eg,dY,c5⟩:=aq.gSl bE
 refine Jc3 R I27 c5<|Js3 R U27 R R<|Jb 1 R ?_
 revert h
 cases d1:decide (e.2.1<(dJ.length:Int))
 refine JF λh=>Jy R<|Jc1<|Jt<|Jt ?_
 cases h
 have h:=aN
 refine Jb1 ?_
 cases h
 exact Jw1 _ ⟨aS,(e.1,e.2.1,e.2.2.1,e.2.2.2),M,N,R,y.wk R,an,F,P,ao,aa,R⟩<|KM R
 refine JT λh=>Jx R<|Js<|Jp<|Jq<|Jv<|Jj3<|Je3 R U69 R Z28<|Jc3 R I28 (ap.ld 3 R R)<|Jn 1 R<|Ob h λeK bF h=>Jd3 R aq bF U28 Z27 ?_
 obtain⟨dU,eh,bj,c6⟩:=aq.gSl bF
 refine Jc3 R I27 c6<|Jn 1 R<|Ob h λdK bG h=>Jd3 R bj bG U27 Z2<|Jc3 R I2 (bj.gInt bG)<|Jb 1 R<|Jq<|Jl3 2 R<|Ob h λdL bH h=>Jd3 R Z bH U71 Z4<|Jc3 R I4 ((Z.stp<|T7 A q k i I B y).gBool bH)<|Jn 2 R<|Ob h λbQ h cW=>Jk4 [1,2,4,9,10,11,13,14,15,16] 96 bQ aS dy 5 tv ?_ ?_
 revert h
 cases d2:(!dL)
 refine JF λh=>Jn 2 R<|Ob h λeL bI h=>Jf R (Jg2 F.rdc bI U71 Z4 R R P R)<|Jc3 R I4 (F.rdc.gBool bI)<|Jn 1 R ?_
 cases h
 exact Jl4 tv R
 refine JT λh=>Jn 3 R<|Je4 R<|Jn 1 R ?_
 cases h
 exact Jl4 tv R
 rintro _ dz _ ⟨rfl,aT,j⟩
 have h:=cW
 refine Jn 1 R<|Ob h λbN h cX=>Jk4 [1,2,4,9,10,11,13,14,15,16] 103 bN aT dz 6 tv ?_ ?_
 revert h
 cases d3:bQ
 have ad:=(T8 A q k i I B y j)
 refine JF λh=>Jg4 tv R (Jh4 (haE (ap.stp j).cells) I69 Z69 R)<|Jn 2 R<|Ob h λez dm h=>Jw3 R call147 (ni (J:=Mk aT) (p0:=p0) (Jn3<|aw.stp ad) (Jn3<|bl.stp ad) (Jn3<|bm.stp ad) (Jn3<|aq.stp j) (Jn3<|bp.stp ad) dm) ?_
 rintro _ el ⟨ea,rfl,ct⟩
 obtain⟨dP,ck,ec⟩:=Ji ct 6 R
 refine Tv<|Jn 2 R ?_
 cases h
 exact Jv1 _ tv ⟨R,_,ck.wk R⟩<|KM R
 refine JT λh=>Je4 R<|Jn 2 R<|Je4 R<|Jn 2 R ?_
 cases h
 exact Jl4 tv R
 rintro _ em _ ⟨rfl,aU,t⟩
 have h:=cX
 refine Jd ?_
 revert h
 cases d4:bN
 refine JF λh=>Jy R<|Js<|Jp<|Jl3 2 R<|Ob h λeA bw h=>Jf R (Jg2 ao.rdc bw U27 Z2 R R aa R) ?_
 have aJ:=ao.stp (j.tr t)
 refine Jc3 R I2 (aJ.rdc.gInt bw)<|Jn 1 R<|Ob h λeB dn h=>Jf R (Jg2 aJ.rdc dn U27 Z2 R R aa R)<|Ob h λb0 bL h=>Jk1 (J:=aU) (E:=E6) 4 [] R R R R R R R R Z2 R R R R aJ bL λdA b4 H aK=>Tv<|?_
 have bv:s.length=b0.length:=aa.trans (Ju2 bL).2.2.2.symm
 refine Jd<|Jj3<|Je3 R U69 R Z27<|Jc3 R I27 ((ap.stp<|T3 j t H).ld 0 R R)<|Jn 1 R<|Ob h λdF bx h=>Jd3 R aw bx U27 Z2<|Jc3 R I2 ((aw.stp<|T10 A q k i I B y j t H).gInt bx)<|Jn 3 R<|Ob h λbO h cZ=>Jk4 [1,2,4,9,10,11,13,14,15,16] 123 bO b4 dA 6 tv ?_ ?_
 revert h
 cases d5:(dF==p2)
 refine JF λh=>Jn 2 R<|Ob h λeC bz h=>Jf R (Jg2 aK.rdc bz U27 Z2 R R bv R)<|Jc3 R I2 (aK.rdc.gInt bz)<|Jn 2 R ?_
 cases h
 exact Jl4 tv R
 refine JT λh=>Jn 3 R<|Je4 R<|Jn 2 R ?_
 cases h
 exact Jl4 tv R
 rintro _ dB _ ⟨rfl,aD,U⟩
 have h:=cZ
 refine Jd<|Ob h λQ h c0=>Jt3 [1,2,4,9,10,13,14,15] (λc f a=>∃b af ai,f=(11,.slice af Q.1.length ai)::c/\Stp [3,5] aD dB b a/\Oc E6 2 b a 5 af ai Q.1/\Oc zo 4 b a 3 u v Q.2/\p.length=Q.2.length) ?_ ?_
 revert h
 cases d6:bO
 refine JF λh=>Jy R<|Js ?_
 cases h
 have aW:=(T4 j t H U)
 exact Jw1 _ ⟨aD,M,N,R,Jo3,(an.stp aW),(F.stp aW),P⟩<|KM R
 refine JT λh=>Jx R<|Jl3 2 R<|Ob h λeD dp h=>Jf R (Jg2 F.rdc dp U71 Z4 R R P R)<|Ob h λdO bM h=>Jk1 (J:=aD) (E:=zo) 3 [] R R R R R R R R Z4 R R R R (F.stp<|T4 j t H U) bM λeo b6 aY cE=>Tv<|?_
 have db:p.length=dO.length:=P.trans (Ju2 bM).2.2.2.symm
 refine Jd<|Jm3 2 R<|Ji4 b6 6 [dK] R Y27 aR R λaO dR ep b8 aH cF=>Tv<|Ob h λeE dq h=>Jd4 b8 E6 5 [] R Y27 aR R (an.stp<|T6 j t H U aY aH) (zu (bo _) cF.rdc) aV dq R λcr cq eq b9 aZ cG=>Tv<|Jc 1 R ?_
 cases h
 exact Jw1 _ ⟨b9,cr,cq,R,(T3 aY aH aZ).wk R,cG,(cE.stp<|aH.tr aZ),db⟩<|KM R
 rintro _ en ⟨b5,af,ai,rfl,aX,cC,cD,da⟩
 have h:=c0
 refine Jz<|Jp<|Jg3 R ?_
 cases h
 exact Ja2 ⟨b5,(Q.1,((zr .i64<|e.2.1+1):Int),Q.2,b0),af,ai,R,(T6 y j t H U aX).wk R,cC,cD,da,(aK.stp<|U.tr aX),bv,aN⟩ R
 refine JT λh=>Jx R<|Jc1<|Jt<|Jb1<|Jp<|Jg3 R ?_
 cases h
 have aG:=(j.tr t)
 exact Ja2 ⟨aU,(e.1,((zr .i64<|e.2.1+1):Int),e.2.2.1,e.2.2.2),M,N,R,(T3 y j t).wk R,(an.stp aG),(F.stp aG),P,(ao.stp aG),aa,aN⟩ R
 rintro _ ek ⟨b3,n,aj,ah,rfl,cj,cy,cz,c8,cA,c9,rfl⟩
 have h:=yI cV
 refine Jz<|Jp<|Jg3 R ?_
 cases h
 exact Ja2 ⟨b3,(n.1,((zr .i64<|d.2.1+1):Int),n.2.2.1,n.2.2.2),aj,ah,R,(B.tr cj).wk R,cy,cz,c8,cA,c9,bs⟩ R
 rintro _ ej ⟨b2,G,be,bc,rfl,ci,dW,cw,c7,dX,dZ,rfl⟩
 have h:=yI cT
 refine Jp<|Jf3 R<|Ju<|Jb2 (l:=[.tmp 8]) results95 (Jq2 R R) R ?_
 cases h
 exact⟨(λcs=>ren [(3,2)]<|b2 cs),u,v,(by simp only[c7]),((cS.stp<|T6 A q k i I ci).map (ren [(3,2)]) R R),(cw.map (ren [(3,2)]) R R)⟩
theorem ma {aa ab ad aj ak an am al} {p0 : bench} {p1 : ByteArray} {b0} (g0_1 : Rd Clause.rp J w 0 aa ab p0.clauses) (g0_2_0_0 : Oc E6 2 J w 2 ad aj p0.game.Arena.Owner) (g0_2_0_1 : Oc (Ep.fz Rs) 27 J w 3 ak an p0.game.Arena.Next) (g0_2_1 : Oc E6 2 J w 4 am al p0.game.Prio) (gb0 : Bc J w 5 b0 58 [vi p0.sig.In, vi p0.sig.Out, .slice aa p0.clauses.length ab, .slice ad p0.game.Arena.Owner.length aj, .slice ak p0.game.Arena.Next.length an, .slice am p0.game.Prio.length al]) (gGE0 : Rd Rp.str J w 0 (some ⟨0, 0, none⟩) 2 ec) (gGM : Vm 2 J w) (gGT : Tb prog "internal/strconv.uint64pow10" .u64 Lib.pow10Tab J w) {r : ByteArray × VI × VV × VI} (h : dJ p0 p1 = some r) : Ret prog 39 [.pointer (some ⟨b0, 0, none⟩), .string p1] w (fun v w' => ∃ (κ' : Col) (ma0 : Option Addr) (mu0 : Nat) (ma1 : Option Addr) (mu1 : Nat) (ma2 : Option Addr) (mu2 : Nat), v = .string r.1 ∧ Ent J w κ' w' ∧ Oc E6 2 κ' w' 2 ma0 mu0 r.2.1 ∧ Oc (Ep.fz Rs) 27 κ' w' 3 ma1 mu1 r.2.2.1 ∧ Oc E6 2 κ' w' 4 ma2 mu2 r.2.2.2 ∧ Bc κ' w' 5 b0 58 [vi p0.sig.In, vi p0.sig.Out, .slice aa p0.clauses.length ab, .slice ma0 r.2.1.length mu0, .slice ma1 r.2.2.1.length mu1, .slice ma2 r.2.2.2.length mu2]) := by
 unfold dJ at h
 refine Jp3 J func39 R ntmps39 R λhE=>Jf3 R<|Jl3 1 R<|Ob h λx11 hx11 h=>Jw3 R call63 (nt (J:=Mk J) (gGE0.map (mp [] 0) R R) (gGM.map (mp [] 0) R R) hx11) ?_
 rintro _ w1 ⟨k2,ap,aq,rfl,e3,f4⟩
 obtain⟨K5,S6,m7⟩:=Ji e3 6 R
 refine Tv<|Jb 9 R<|Jq<|Jl3 3 R<|Ob h λp26 h hK10=>Jk4 [0,5,6,7] 26 p26 K5 w1 8 tv ?_ ?_
 revert h
 cases ht11:(!x11.2.2.2)
 refine JF λh=>Jn 1 R<|Jf R (bh R R)<|Je3 R U58 R Z32<|Je3 R U32 R Z27<|Jc3 R I27 ((gb0.stp S6).ld 5 R R)<|Js3 R U27 R R<|Jn 2 R ?_
 cases h
 exact Jl4 tv R
 refine JT λh=>Jn 4 R<|Je4 R<|Jn 3 R ?_
 cases h
 exact Jl4 tv R
 rintro _ w13 _ ⟨rfl,K14,S15⟩
 have h:=hK10
 refine Jd ?_
 revert h
 cases ht16:p26
 refine JF λh=>Jy R<|Js<|Jp<|Jl3 2 R<|Jf R (bh R R)<|Je3 R U58 R Z32 ?_
 have f22:=gb0.stp (S6.tr S15)
 refine Jg4 tv R (Jh4 (haE<|f22.lds 3 3 R) I32 Z32 R)<|Jn 3 R ?_
 obtain⟨K24,S25,z26⟩:=b9 K14 w13 8
 have S001:=(T3 S6 S15 S25)
 refine Ob h λx35 hx35 h=>Jw3 R call64 (nC (J:=λb=>mp [(2,2),(3,3),(4,4)] 1<|K24 b) (p0:=p0.game) ((g0_2_0_0.stp S001).map (mp [(2,2),(3,3),(4,4)] 1) R R) ((g0_2_0_1.stp S001).map (mp [(2,2),(3,3),(4,4)] 1) R R) ((g0_2_1.stp S001).map (mp [(2,2),(3,3),(4,4)] 1) R R) (Jm2 (Sl.st z26 ((f4.mx (aT _) m7 R (R:6+2=8)).stp S15).rdc) (mp [(2,2),(3,3),(4,4)] 1) R R) hx35) ?_
 rintro _ w31 ⟨k32,ai,ae,af,ac,ao,ah,rfl,e33,f34,f35,f36⟩
 obtain⟨K37,S38,m39,z40⟩:=Jj e33 9 R
 refine Tv<|Jf R (bh R R)<|Je3 R U58 R Z32<|Jz3 K37 5 (off:=3) (vc:=[.slice ai x35.Arena.Owner.length ae,.slice af x35.Arena.Next.length ac,.slice ao x35.Prio.length ah]) (cs':=[vi p0.sig.In,vi p0.sig.Out,.slice aa p0.clauses.length ab,.slice ai x35.Arena.Owner.length ae,.slice af x35.Arena.Next.length ac,.slice ao x35.Prio.length ah]) R Z32 R (f22.stp<|S25.tr S38) R λw45 S46 f47=>Tv<|Jd<|Jl3 1 R<|Jf R (bh R R)<|Je3 R U58 R Z32<|Je3 R U32 R Z27<|Jc3 R I27 (f47.ld 5 R R)<|Js3 R U27 R R<|Ob h λx44 hx44 h=>Jw3 R call62 (mc (J:=Mk K37) ((gGT.stp<|T5 S6 S15 S25 S38 S46).map (mp [] 0) R R) hx44) ?_
 rintro _ w49 ⟨k50,rfl,e51⟩
 obtain⟨K52,S53,m54⟩:=Ji e51 17 R
 refine Tv<|Jb 1 R<|Ju<|Jb2 (l:=[.tmp 4]) results39 (Jq2 R R) R ?_
 cases h
 exact⟨(λb=>ren [(14,2),(15,3),(16,4)]<|K52 b),ai,ae,af,ac,ao,ah,R,((hE.stp<|T6 S6 S15 S25 S38 S46 S53).map (ren [(14,2),(15,3),(16,4)]) R R),(((f34.mx (aT _) m39 R (R:9+5=14)).stp (S46.tr S53)).map (ren [(14,2),(15,3),(16,4)]) R R),(((f35.mxz z40 m39 R (R:9+6=15)).stp (S46.tr S53)).map (ren [(14,2),(15,3),(16,4)]) R R),(((f36.mx (aT _) m39 R (R:9+7=16)).stp (S46.tr S53)).map (ren [(14,2),(15,3),(16,4)]) R R),((f47.stp S53).map (ren [(14,2),(15,3),(16,4)]) R R)⟩
 refine JT λh=>Jx R<|Jf3 R<|Ju<|Jw<|Jb2 (l:=[.tmp 4]) results39 (Jq2 R R) R ?_
 cases h
 have S002:=(S6.tr S15)
 exact⟨K14,ad,aj,ak,an,am,al,R,(hE.stp S002),(g0_2_0_0.stp S002),(g0_2_0_1.stp S002),(g0_2_1.stp S002),(gb0.stp S002)⟩
theorem gw {C x z B y A}{p0:Parity}(T:Rd Ri J w 0 C x p0.Arena.Owner) (U:Rd Rs J w 0 z B p0.Arena.Next) (n:Rd Ri J w 0 y A p0.Prio){r:Bool}(h:dI p0=some r):Ret prog 76 [.agg #[.slice C p0.Arena.Owner.length x,.slice z p0.Arena.Next.length B,.slice y p0.Prio.length A]] w (Pvb J w r):=by
 unfold dI at h
 refine Jp3 J func76 R ntmps76 R λo=>Jj3<|Jx3 J 2 R λae al O b m=>Tv<|Jb 1 R<|Jq<|Jj3<|Je3 R U32 R Z30<|Jg4 tv R (Jh4 (haE<|m.lds 0 2 R) I30 Z30 R)<|Ob h λad Y h=>Jw3 R call126 (lV (J:=Mk O) (p0:=p0.Arena) (Jn3<|T.stp b) (Jn3<|U.stp b) Y) ?_
 rintro _ ab ⟨aj,rfl,S⟩
 obtain⟨N,a,ak⟩:=Ji S 3 R
 refine Tv<|Jn 2 R<|Ob h λH h V=>Jk4 [1] 18 H N ab 9 tv ?_ ?_
 revert h
 cases af:(!ad)
 refine JF λh=>Je3 R U32 R Z27 ?_
 have D:=m.stp a
 refine Jc3 R I27 (D.ld 2 R R)<|Js3 R U27 R R<|Je3 R U32 R Z30<|Je3 R U30 R Z27<|Jc3 R I27 (D.ld 0 R R)<|Js3 R U27 R R<|Jn 2 R ?_
 cases h
 exact Jl4 tv R
 refine JT λh=>Jn 1 R<|Je4 R<|Jn 3 R<|Je4 R<|Jn 3 R ?_
 cases h
 exact Jl4 tv R
 rintro _ L _ ⟨rfl,g,d⟩
 have h:=V
 refine Jd ?_
 revert h
 cases ag:H
 refine JF λh=>Jy R<|Js<|Jp<|Jq<|Jj3<|Je3 R U32 R Z27<|Jc3 R I27 ((m.stp<|a.tr d).ld 2 R R)<|Js3 R U27 R R<|Jb 1 R<|Ob h λK X E=>?_
 clear h
 refine Jx1 (λk q=>∃s,k=[]/\Stp [] g L s q/\K=zw ()) ?_ ?_
 refine Jv<|Ju3 [20,21] (λf M k q=>∃s c,k=(22,vi c)::M/\Stp [] g L s q/\0<=c/\zq ((p0.Prio.length:Int)-c)=f/\cntM (eg p0) f c ()=some K) ⟨_,_,⟨g,0,R,Jo3,(by decide),(by simp),X⟩,(KM R)⟩ ?_
 rintro f _ aa ⟨t,c,rfl,i,F,j,h⟩
 rcases f with _|f
 have e:=h;obtain⟨Z,h⟩:=exq e
 have p:=dcf j
 refine Jf3 R<|Jq<|Jx2 R p<|Jc1<|Jt<|Jt ?_
 cases h
 have h:=e
 refine Jb1 ?_
 cases h
 exact Jw1 _ ⟨t,R,i.wk R,R⟩ KN
 obtain⟨Z,h,e⟩:=BI h;unfold eg at h
 have p:=dct j
 refine Jf3 R<|Jq<|Jw2 R p<|Js<|Jp<|Jq<|Jv<|Jj3<|Ob h λac G h=>Jd3 R n G U27 Z2<|Jc3 R I2 ((n.stp<|T4 b a d i).gInt G)<|Jb 1 R<|Jl3 3 R<|Ob h λI h W=>Jk4 [20,21,22] 31 I t aa 3 tv ?_ ?_
 revert h
 cases ah:decide (ac<0)
 refine JF λh=>Jn 3 R ?_
 cases h
 exact Jl4 tv R
 refine JT λh=>Jn 3 R ?_
 cases h
 exact Jl4 tv R
 rintro _ an _ ⟨rfl,u,v⟩
 have h:=W
 refine Jd ?_
 revert h
 cases ai:I
 refine JF λh=>Jy R<|Js<|Jz<|Jp<|Jg3 R<|wr2 F j n.len_le ▸ ?_
 cases h
 exact Ja2 ⟨u,c+1,R,(i.tr v).wk R,nxz F,nxm j,e⟩ R
 refine JT λh=>Jx R<|Jf3 R<|Ju<|Ja1<|Jw<|Jw ?_
 cases h
 obtain rfl:=zt e
 have h:=yL E
 refine Ja1<|Jr2<|Jw<|Jb2 (l:=[.tmp 2]) results76 (Jq2 R R) R ?_
 cases h
 exact⟨u,R,(o.stp<|T5 b a d i v)⟩
 rintro _ am ⟨P,rfl,Q,rfl⟩
 have h:=yI E
 refine Jp<|Jf3 R<|Ju<|Jb2 (l:=[.tmp 2]) results76 (Jq2 R R) R ?_
 cases h
 exact⟨P,R,(o.stp<|T4 b a d Q)⟩
 refine JT λh=>Jx R<|Jf3 R<|Ju<|Jw<|Jb2 (l:=[.tmp 2]) results76 (Jq2 R R) R ?_
 cases h
 exact⟨g,R,(o.stp<|T3 b a d)⟩
theorem nB (n:Nat):∀{w:World}{J:Col}{K O L M P S I Q}{p0:solver}{A E}{p1:VB}{U}(ak:Rd Ri J w 0 K O p0.game.Arena.Owner) (al:Rd Rs J w 0 L M p0.game.Arena.Next) (am:Rd Ri J w 0 P S p0.game.Prio) (an:Rd Rs J w 0 I Q p0.preds) (B:Rd Rp.bool J w 0 A E p1) (ao:Bc J w 0 U 218 [.slice K p0.game.Arena.Owner.length O,.slice L p0.game.Arena.Next.length M,.slice P p0.game.Prio.length S,.slice I p0.preds.length Q]){r:VB×Int}(h:ch n p0 p1=some r),Ret prog 190 [.pointer (some ⟨U,0,none⟩),.slice A p1.length E] w (λcB a=>∃(b:Col) (a9:Option Addr) (ba:Nat),cB= .tuple #[.slice a9 r.1.length ba,vi r.2]/\Ent J w b a/\Rd Rp.bool b a 0 a9 ba r.1):=by
 induction n with
 |zero=>
  intro w J K O L M P S I Q p0 A E p1 U ak al am an B ao r h
  cases h
 |succ n cq=>
  intro w J K O L M P S I Q p0 A E p1 U ak al am an B ao r h
  have h:cr (ch n) p0 p1=some r:=h
  unfold cr at h
  refine Jp3 J func190 R ntmps190 R λap=>Jf3 R<|Jl3 1 R<|Ob h λcJ cc h=>Jw3 R call191 (eS (J:=Mk J) (Jn3 B) cc) ?_
  rintro _ du ⟨dk,c2,cW,rfl,bO,bY⟩
  obtain⟨az,d,cv⟩:=Ji bO 2 R
  refine Tv<|Jb 1 R<|Jq<|Jl3 1 R<|Js3 R U27 R R<|Jb 1 R ?_
  revert h
  cases c5:((cJ.length:Int)==0)
  refine JF λh=>Jy R<|Js<|Jp<|Jl3 1 R<|Jf R (bh R R)<|Je3 R U218 R Z32 ?_
  have af:=ao.stp d
  refine Jg4 tv R (Jh4 (haE<|af.lds 0 3 R) I32 Z32 R)<|Jn 1 R<|Ob h λav cd h=>?_
  have aQ:=ak.stp d
  have aR:=al.stp d
  have V:=am.stp d
  refine Jw3 R call214 (jT (J:=Mk az) (p0:=p0.game) (Jn3 aQ) (Jn3 aR) (Jn3 V) (Jn3 (bY.mx (aT _) cv R (R:2+2=4)).rdc) cd) ?_
  rintro _ dy ⟨dj,rfl,bN⟩
  obtain⟨bl,j,ds⟩:=Ji bN 5 R
  refine Tv<|Jb 1 R<|Jl3 1 R<|Jf R (c7 R R R<|show ¬(2:Int)=0 by decide) (Jb 1 R<|Jj3<|Jc4 bl zo 7 R Y71 bZ R λcZ cY dz bm k bW=>Tv<|Jn 1 R<|Ob h λcK ce h=>Jd4 bm zo 7 [] R Y71 bZ R bW (zu tF<|B.stp<|T3 d j k) aV ce R λbD bG cG ay q bX=>Tv<|Jb 1 R<|Ob h λcA ca a2=>?_)
  clear h
  refine Jv<|Ju3 [0,1,7,8] (λg i s a=>∃b,∃C:VB,∃T N,s=(9,.slice T C.length N)::i/\Stp [8,14,20,25] ay cG b a/\Oc zo 4 b a 7 T N C/\bn (dg (ch n) p0 p1 av) g C=some cA) ⟨_,_,⟨ay,cK,bD,bG,R,Jo3,bX,ca⟩,(KM R)⟩ ?_
  rintro g _ dA ⟨bo,C,T,N,rfl,m,ah,h⟩
  rcases g with _|g
  cases h
  obtain⟨dt,h,ar⟩:=BI h;unfold dg at h
  refine Jv<|Jl3 1 R<|Js3 R U71 R R<|Ob h λF cf h=>Jl1 (J:=bo) (E:=zo) (z:=(false:Bool)) 8 R R R R R R R Y71 bZ R R R R R (λ_ _ _=>R) (Jv2 cf) λaE aF bb aa c aU=>Tv<|Jb 1 R<|Jq<|Jl3 1 R<|Js3 R U71 R R<|Jb 1 R<|Ob h λa7 cb b5=>?_
  clear h
  refine Jt3 [0,1,7,8,9,10] (λi s a=>∃b,∃Y:VB,s=i/\Stp [8] aa bb b a/\Oc zo 4 b a 8 aE aF Y/\F.length=Y.length/\a7=zw Y) ?_ ?_
  refine Jv<|Ju3 [0,1,7,8,9,10,37] (λg i s a=>∃b x,∃D:VB,s=(38,vi x)::i/\Stp [8] aa bb b a/\Oc zo 4 b a 8 aE aF D/\F.length=D.length/\0<=x/\zq ((F.length:Int)-x)=g/\cntM (dh p0 av C) g x D=some a7) ⟨_,_,⟨aa,0,F,R,Jo3,aU,R,(by decide),(by simp),cb⟩,(KM R)⟩ ?_
  rintro g _ cH ⟨aA,x,D,rfl,H,ai,au,a3,W,h⟩
  rcases g with _|g
  have X:=h;obtain⟨cy,h⟩:=exq X
  have aq:=dcf W
  refine Jf3 R<|Jq<|Jx2 R aq<|Jc1<|Jt<|Jt ?_
  cases h
  have h:=X
  refine Jb1 ?_
  cases h
  exact Jw1 _ ⟨aA,D,R,H.wk R,ai,au,R⟩<|KM R
  obtain⟨cy,h,X⟩:=BI h;unfold dh at h
  have aq:=dct W
  refine Jf3 R<|Jq<|Jw2 R aq<|Js<|Jp<|Jq<|Jv<|Jf3 R<|Jm3 4 R<|Ob h λcL a4 h=>Jd3 R ah.rdc a4 U71 Z4<|Jc3 R I4 ((ah.stp<|c.tr H).rdc.gBool a4)<|Jn 1 R<|Ob h λcz h b6=>Jk4 [0,1,7,8,9,10,37,38,41,42] 58 cz aA cH 11 tv ?_ ?_
  revert h
  cases da:cL
  refine JF λh=>Jn 4 R<|Je4 R<|Jn 2 R<|Je4 R<|Jn 3 R ?_
  cases h
  exact Jl4 tv R
  have aB:=(T6 j k q m c H)
  refine JT λh=>Jn 1 R<|Jf R (bh R R)<|Je3 R U218 R Z32<|Je3 R U32 R Z27<|Jc3 R I27 ((af.stp aB).ld 2 R R)<|Jn 1 R<|Ob h λdF a5 h=>Jd3 R V a5 U27 Z2<|Jc3 R I2 ((V.stp aB).gInt a5)<|Jn 3 R ?_
  cases h
  exact Jl4 tv R
  rintro _ dC _ ⟨rfl,bq,aD⟩
  have h:=b6
  refine Ob h λdG cg h=>Jf R (Jg2 ai.rdc cg U71 Z4 R R au R)<|Ob h λbc a6 h=>Jk1 (J:=bq) (E:=zo) 8 [] R R R R R R R R Z4 R R R R (ai.stp aD) a6 λdD br bA b1=>Tv<|?_
  have b8:F.length=bc.length:=au.trans (Ju2 a6).2.2.2.symm
  refine Jo<|Jz<|Jp<|Jg3 R<|wr2 a3 W aU.len_le ▸ ?_
  cases h
  exact Ja2 ⟨br,x+1,bc,R,(T3 H aD bA).wk R,b1,b8,nxz a3,nxm W,X⟩ R
  rintro _ dB ⟨bp,Y,rfl,o,b0,b7,rfl⟩
  have h:=yI b5
  refine Jp<|Jl3 5 R<|Ob h λdH ci h=>?_
  have aW:=aQ.stp (T6 j k q m c o)
  have aX:=aR.stp (T6 j k q m c o)
  have aY:=V.stp (T6 j k q m c o)
  have aZ:=an.stp (T7 d j k q m c o)
  have a0:=ah.stp (c.tr o)
  have a1:=af.stp (T6 j k q m c o)
  refine Jw3 R call223 (Ret.cast (by simp only[b7,List.cons_append,List.nil_append])<|jz (J:=Mk bp) (p0:=p0) (Jn3 aW) (Jn3 aX) (Jn3 aY) (Jn3 aZ) (Jn3 a0.rdc) (Jn3 b0.rdc) (a1.map (mp [] 0) R R) ci) ?_
  rintro _ dE ⟨dm,cX,c1,rfl,bP,b2⟩
  obtain⟨bs,p,cw⟩:=Ji bP 9 R
  refine Tv<|Ob h λdI cj h=>?_
  have aj:=a0.stp p
  refine Jw3 R call192 (fM (J:=Mk bs) (Jn3 aj.rdc) (Jn3 (b2.mx bU cw R (R:9+2=11)).rdc) cj) ?_
  rintro _ cI ⟨dn,cV,c0,rfl,bQ,b3⟩
  obtain⟨bt,e,cx⟩:=Ji bQ 12 R
  refine Tv<|Jb 1 R<|Jl3 2 R ?_
  obtain⟨bu,f,cQ⟩:=b9 bt cI 14
  have aI:=Sl.st cQ (b3.mx bU cx R (R:12+2=14)).rdc
  refine Ob h λcM ck h=>?_
  have aJ:=aW.stp (T3 p e f)
  have aK:=aX.stp (T3 p e f)
  have aL:=aY.stp (T3 p e f)
  have aM:=aZ.stp (T3 p e f)
  have aN:=a1.stp (T3 p e f)
  refine Jw3 R call190 (cq (J:=λae=>mp [] 1<|bu ae) (p0:=p0) (Jm2 aJ (mp [] 1) R R) (Jm2 aK (mp [] 1) R R) (Jm2 aL (mp [] 1) R R) (Jm2 aM (mp [] 1) R R) (Jm2 aI (mp [] 1) R R) (aN.map (mp [] 1) R R) ck) ?_
  rintro _ cC ⟨db,bE,bF,rfl,bH,bR⟩
  obtain⟨Z,t,dp,cR⟩:=Jj bH 15 R
  refine Tv<|?_
  have aO:=bR.mx cR
  refine Jb 5 R<|Jf3 R<|Jq<|Jf3 R<|Ob h λa8 h b4=>Jt3 [0,1,7,8,9] (λi s a=>∃b ad ac,s=(15,.slice ad a8.length ac)::i/\Stp [20] Z cC b a/\Rd Rp.bool b a 0 ad ac a8) ?_ ?_
  revert h
  cases c6:(cM.2==(zx av 2))
  refine JF λh=>Jy R<|Js ?_
  cases h
  exact Jw1 _ ⟨Z,bE,bF,R,Jo3,aO⟩<|KM R
  refine JT λh=>Jx R<|Jm3 2 R<|Ob h λdJ cl h=>Jw3 R call192 (fM (J:=Mk Z) (Jn3<|aI.stp t) (Jn3 aO) cl) ?_
  rintro _ cD ⟨dc,bB,bC,rfl,bI,bS⟩
  obtain⟨be,bv,cs⟩:=Ji bI 18 R
  refine Tv<|Jc 1 R ?_
  obtain⟨bf,bw,cS⟩:=b9 be cD 20
  cases h
  exact Jw1 _ ⟨bf,bB,bC,R,(bv.tr bw).wk R,(Sl.st cS (bS.mx bU cs R (R:18+2=20)).rdc)⟩<|KM R
  rintro _ dv ⟨bd,ad,ac,rfl,v,aP⟩
  have h:=b4
  refine Jp<|Jq<|Jl3 1 R<|Ob h λcN cm h=>Jw3 R call224 (dl (J:=Mk bd) (Jn3 aP) cm) ?_
  rintro _ cE ⟨dd,rfl,bJ⟩
  obtain⟨aw,u,dq⟩:=Ji bJ 18 R
  refine Tv<|Jb 1 R ?_
  revert h
  cases c8:(!cN)
  refine JF λh=>Jy R<|Js<|Jp<|Jl3 6 R<|Ob h λdK cn h=>?_
  have aS:=aj.stp (T5 e f t v u)
  have y:=(T3 t v u)
  refine Jw3 R call223 (jz (J:=Mk aw) (p0:=p0) (Jn3<|aJ.stp y) (Jn3<|aK.stp y) (Jn3<|aL.stp y) (Jn3<|aM.stp y) (Jn3 aS.rdc) (Jn3<|aP.stp u) ((aN.stp y).map (mp [] 0) R R) cn) ?_
  rintro _ dw ⟨de,c3,c4,rfl,bK,bT⟩
  obtain⟨bi,ab,ct⟩:=Ji bK 20 R
  refine Tv<|Ob h λcO co h=>Jw3 R call192 (fM (J:=Mk bi) (Jn3 (aS.stp ab).rdc) (Jn3 (bT.mx bU ct R (R:20+2=22)).rdc) co) ?_
  rintro _ dx ⟨df,aG,aH,rfl,bL,bV⟩
  obtain⟨bj,aC,cu⟩:=Ji bL 23 R
  refine Tv<|?_
  have ag:=bV.mx bU cu R (R:23+2=25)
  refine Jb 1 R<|Jl3 1 R<|Ob h λcP cp h=>Jw3 R call224 (dl (J:=Mk bj) (Jn3 ag.rdc) cp) ?_
  rintro _ cF ⟨di,rfl,bM⟩
  obtain⟨ax,G,dr⟩:=Ji bM 26 R
  refine Tv<|Jb 1 R ?_
  revert h
  cases c9:(!cP)
  refine JF λh=>Jy R<|Js<|Jz ?_
  cases h
  exact Ja2 ⟨(λae=>ren [(25,7)]<|ax ae),cO,aG,aH,R,(Jz2 ((T12 m c o p e f t v u ab aC G).wk R) [(25,7)] R),((ag.stp G).map (ren [(25,7)]) R R),ar⟩ R
  refine JT λh=>Jx R<|Jf3 R<|Ju<|Ja1<|Jw ?_
  cases h
  obtain rfl:=zt ar
  have h:=yL a2
  refine Ja1 ?_
  obtain⟨bk,bz,cU⟩:=b9 ax cF 25
  refine Jb2 (l:=[.tmp 4,.tmp 5]) results190 (Jq2 R<|Jq2 R R) R ?_
  cases h
  exact⟨bk,aG,aH,R,(ap.stp<|d.tr<|j.tr<|k.tr<|q.tr<|m.tr<|c.tr<|o.tr<|p.tr<|e.tr<|f.tr<|t.tr<|v.tr<|u.tr<|ab.tr<|aC.tr<|G.tr bz),(Sl.st cU (ag.stp G).rdc)⟩
  refine JT λh=>Jx R<|Jf3 R<|Ju<|Jw<|Ja1<|Jw ?_
  cases h
  obtain rfl:=zt ar
  have h:=yL a2
  refine Ja1 ?_
  obtain⟨bg,bx,cT⟩:=b9 aw cE 7
  refine Jb2 (l:=[.tmp 4,.tmp 5]) results190 (Jq2 R<|Jq2 R R) R ?_
  cases h
  exact⟨bg,T,N,R,(ap.stp<|T14 d j k q m c o p e f t v u bx),(Sl.st cT (aj.stp<|T5 e f t v u).rdc)⟩
  refine JT λh=>Jx R<|Jf3 R<|Ju<|Jw<|Jb2 (l:=[.tmp 4,.tmp 5]) results190 (Jq2 R<|Jq2 R R) R ?_
  cases h
  exact⟨az,A,E,R,(ap.stp d),(B.stp d)⟩
theorem me {M N K L}{p0:Arena}{I Z}{p1:VI}(aA:Rd Ri J w 0 M N p0.Owner) (aB:Rd Rs J w 0 K L p0.Next) (D:Rd Ri J w 0 I Z p1){r:Arena}(h:ju p0 p1=some r):Ret prog 241 [.agg #[.slice M p0.Owner.length N,.slice K p0.Next.length L],.slice I p1.length Z] w (λaM a=>∃(b:Col) (V:Option Addr) (X:Nat) (W:Option Addr) (Y:Nat),aM= .agg #[.slice V r.Owner.length X,.slice W r.Next.length Y]/\Ent J w b a/\Oc E6 2 b a 2 V X r.Owner/\Oc (Ep.own E6 2) 27 b a 3 W Y r.Next):=by
 unfold ju at h
 refine Jp3 J func241 R ntmps241 R λaC=>Jj3<|Jx3 J 2 R λaS aY ad p au=>Tv<|Jy3 ad 3 R X30 R λaU a3 ag i az=>Tv<|Jd<|Jj3<|Jg4 tv R (Jh4 (haE (au.stp i).cells) I30 Z30 R)<|Ob h λm aK h=>Jw3 R call186 (oa (J:=Mk ag) (p0:=p0) (Jn3<|aA.stp<|p.tr i) (Jn3<|aB.stp<|p.tr i) aK) ?_
 rintro _ aZ ⟨aX,al,ak,t,u,rfl,an,ao,ap⟩
 obtain⟨ac,B,T⟩:=Ji an 4 R
 refine Tv<|Jy3 ac 8 R X30 R λaV a0 n f aq=>Tv<|Jm4 n 8 R Z30 R aq R λaa g O=>Tv<|Jd<|Jq<|Jl3 1 R<|Js3 R U27 R R<|Jb 1 R<|Ob h λU aI aD=>?_
 clear h
 refine Jt3 [4,5] (λc e a=>∃b,∃A:VV,e=c/\Stp [7,9] n aa b a/\Oc (Ep.own E6 2) 27 b a 7 t u A/\m.Next.length=A.length/\U=zw A) ?_ ?_
 refine Jv<|Ju3 [4,5,10,11] (λj c e a=>∃b d,∃k:VV,e=(12,vi d)::c/\Stp [7,9] n aa b a/\Oc (Ep.own E6 2) 27 b a 7 t u k/\m.Next.length=k.length/\0<=d/\zq ((p1.length:Int)-d)=j/\cntM (ft p1) j d k=some U) ⟨_,_,⟨n,0,m.Next,R,Jo3,((ap.mx (ie (aT _) _) T R (R:4+3=7)).stp (f.tr g)),R,(by decide),(by simp),aI⟩,(KM R)⟩ ?_
 rintro j _ aN ⟨o,d,k,rfl,s,v,z,P,x,h⟩
 rcases j with _|j
 have y:=h;obtain⟨aL,h⟩:=exq y
 have E:=dcf x
 refine Jf3 R<|Jq<|Jx2 R E<|Jc1<|Jt<|Jt ?_
 cases h
 have h:=y
 refine Jb1 ?_
 cases h
 exact Jw1 _ ⟨o,k,R,s.wk R,v,z,R⟩<|KM R
 obtain⟨aL,h,y⟩:=BI h;unfold ft at h
 have E:=dct x
 refine Jf3 R<|Jq<|Jw2 R E<|Js<|Jp<|Jq<|Jv<|Jl3 1 R<|Ob h λab Q h=>Jd3 R D Q U27 Z2<|Jc3 R I2 ((D.stp<|T6 p i B f g s).gInt Q)<|Jb 2 R<|Jf3 R<|Ob h λF h aE=>Jt3 [4,5,10,11,12] (λc e a=>∃b,e=c/\Stp [7,9] o aN b a/\Oc (Ep.own E6 2) 27 b a 7 t u F/\m.Next.length=F.length) ?_ ?_
 revert h
 cases aW:decide (0<=ab)
 refine JF λh=>Jy R<|Js ?_
 cases h
 exact Jw1 _ ⟨o,R,Jo3,v,z⟩<|KM R
 refine JT λh=>Jx R<|Jk3<|Je3 R U30 R Z28<|Jc3 R I28 ((O.stp s).ld 1 R R)<|Jn 2 R<|Ji4 o 9 [ab] R Y27 aR R λaP aQ a4 af H aw=>Tv<|Ob h λa7 aJ h=>Jf R (Jg2 v.rdc aJ U28 Z27 R R z R)<|Ob h λaO S h=>Jk1 (J:=af) (E:=(Ep.own E6 2)) 7 [9] R R R R R R R R Z27 R ⟨_,_,R,aw⟩ R R (v.stp H) S λa5 ah aj ax=>Tv<|?_
 have aH:m.Next.length=aO.length:=z.trans (Ju2 S).2.2.2.symm
 refine Jo ?_
 cases h
 exact Jw1 _ ⟨ah,R,(H.tr aj).wk R,ax,aH⟩<|KM R
 rintro _ a2 ⟨ae,rfl,ai,av,aG⟩
 have h:=aE
 refine Jz<|Jp<|Jg3 R<|wr2 P x D.len_le ▸ ?_
 cases h
 exact Ja2 ⟨ae,d+1,F,R,(s.tr ai).wk R,av,aG,nxz P,nxm x,y⟩ R
 rintro _ a1 ⟨G,A,rfl,q,ar,aF,rfl⟩
 have h:=yI aD
 refine Jp<|Jj3<|Jg4 tv R (Jh4 (haE (O.stp q).cells) I30 Z30 R)<|Jm4 G 3 R Z30 R (az.stp<|T4 B f g q) R λa6 C ay=>Tv<|Jd<|Ju<|Jb2 (l:=[.cell 4 30]) results241 (bv R ay I30 Z30 R R) R ?_
 cases h
 exact⟨(λam=>ren [(6,2),(7,3)]<|G am),al,ak,t,u,(by simp only[aF]),((aC.stp<|T7 p i B f g q C).map (ren [(6,2),(7,3)]) R R),(((ao.mx (aT _) T R (R:4+2=6)).stp (T4 f g q C)).map (ren [(6,2),(7,3)]) R R),((ar.stp C).map (ren [(6,2),(7,3)]) R R)⟩
theorem oe {p0 : Int} (gGT : Tb prog "internal/strconv.uint64pow10" .u64 Lib.pow10Tab J w) {r : ByteArray} (h : gE p0 = some r) : Ret prog 125 [vi p0] w (fun v w' => ∃ (κ' : Col), v = .string r ∧ Ent J w κ' w') := by
 unfold gE at h
 refine Jp3 J func125 R ntmps125 R λhE=>Jf3 R<|Jq<|Jf3 R ?_
 revert h
 cases ht1:(p0==(-1))
 refine JF λh=>Jy R<|Js<|Jp<|Jl3 1 R<|Ob h λx6 hx6 h=>Jw3 R call62 (mc (J:=Mk J) (gGT.map (mp [] 0) R R) hx6) ?_
 rintro _ w2 ⟨k3,rfl,e4⟩
 obtain⟨K5,S6,m7⟩:=Ji e4 2 R
 refine Tv<|Jb 1 R<|Ju<|Jb2 (l:=[.tmp 2]) results125 (Jq2 R R) R ?_
 cases h
 exact⟨K5,R,(hE.stp S6)⟩
 refine JT λh=>Jx R<|Jf3 R<|Ju<|Jw<|Jb2 (l:=[.tmp 2]) results125 (Jq2 R R) R ?_
 cases h
 exact⟨J,R,hE⟩
theorem kl {L K N P M O}{p0:Parity}(aC:Rd Ri J w 0 L K p0.Arena.Owner) (aD:Rd Rs J w 0 N P p0.Arena.Next) (aE:Rd Ri J w 0 M O p0.Prio){r:VI}(h:fE p0=some r):Ret prog 249 [.agg #[.slice L p0.Arena.Owner.length K,.slice N p0.Arena.Next.length P,.slice M p0.Prio.length O]] w (Pvs E6 2 J w r):=by
 unfold fE at h
 refine Jp3 J func249 R ntmps249 R λaF=>Jj3<|Jx3 J 2 R λa3 a8 ab o av=>Tv<|Jb 1 R<|Jj3<|Jc4 ab E6 3 R Y27 aR R λal aU bc H g aB=>Tv<|Jb 1 R<|Jq<|Jq<|Js1 (J:=H) [2] none [(1,2),(6,2),(0,0),(2,0),(3,1),(4,1),(5,2)] [] (by kernel_rfl) (by kernel_rfl) λa9 d=>Je3 R U32 R Z30<|Jn 1 R ?_
 have Q:=av.stp (g.tr d)
 refine Jg R (Jh4 (haC Q.cells R) I32 Z32 R)<|Jg R (Jh4 (haC (Q.lds 0 2 R) R) I30 Z30 R)<|Ob h λbh aK h=>?_
 have S:=aC.stp (T3 o g d)
 have T:=aD.stp (T3 o g d)
 refine Jw3 R call143 (gg (J:=Mk H) (p0:=p0.Arena) (Jn3 S) (Jn3 T) aK) ?_
 rintro _ ba ⟨a5,a2,aY,rfl,ao,ar⟩
 obtain⟨aa,c,aO⟩:=Ji ao 4 R
 refine⟨(c.cl R),Ob h λY aL h=>Jw3 R call271 (pZ (J:=Mk aa) (p0:=p0) (Jn3<|S.stp c) (Jn3<|T.stp c) (Jn3<|aE.stp<|T4 o g d c) (Jn3 (ar.mx (aT _) aO R (R:4+2=6)).rdc) aL) ?_⟩
 rintro _ X ⟨a6,a0,aX,rfl,ap,au⟩
 obtain⟨z,A,aP⟩:=Ji ap 7 R
 refine⟨((c.tr A).cl R),?_⟩
 have D:=au.mx (aT _) aP R (R:7+2=9)
 refine Js3 R U27 R R<|Jt1<|Jd<|Ob h λW aJ aG=>?_
 clear h
 refine Jx1 (λf a=>∃b,∃x:VI,∃t p,f=[(3,.slice t x.length p)]/\Stp [3] z X b a/\Oc E6 2 b a 3 t p x/\W=zw x) ?_ ?_
 refine Jv<|Ju3 [11,12] (λk y f a=>∃b e,∃m:VI,∃j i,f=(3,.slice j m.length i)::(13,vi e)::y/\Stp [3] z X b a/\Oc E6 2 b a 3 j i m/\0<=e/\zq ((Y.length:Int)-e)=k/\cntM (gR Y) k e m=some W) ⟨_,_,⟨z,0,([]:VI),al,aU,R,Jo3,(aB.stp<|T3 d c A),(by decide),(by simp),aJ⟩,(KM R)⟩ ?_
 rintro k _ aW ⟨n,e,m,j,i,rfl,B,E,U,u,h⟩
 rcases k with _|k
 have v:=h;obtain⟨aS,h⟩:=exq v
 have F:=dcf u
 refine Jf3 R<|Jq<|Jx2 R F<|Jc1<|Jt<|Jt ?_
 cases h
 have h:=v
 refine Jb1 ?_
 cases h
 exact Jw1 _ ⟨n,m,j,i,R,B.wk R,E,R⟩<|KM R
 obtain⟨aS,h,v⟩:=BI h;unfold gR at h
 have F:=dct u
 refine Jf3 R<|Jq<|Jw2 R F<|Js<|Jp<|Jq<|Jv<|Jj3<|Ob h λZ V h=>Jd3 R D.rdc V U27 Z2<|Jc3 R I2 ((D.stp B).rdc.gInt V)<|Jb 1 R<|Jl3 1 R<|Jf R (c7 R R R<|show ¬(2:Int)=0 by decide) (Jb 1 R<|Ob h λG h aH=>Jt3 [11,12,13] (λy f a=>∃b s q,f=(3,.slice s G.length q)::y/\Stp [3] n aW b a/\Oc E6 2 b a 3 s q G) ?_ ?_)
 revert h
 cases a4:((zx Z 2)==1)
 refine JF λh=>Jy R<|Js ?_
 cases h
 exact Jw1 _ ⟨n,j,i,R,Jo3,E⟩<|KM R
 refine JT λh=>Jx R<|Jm3 2 R<|Ji4 n 10 [Z] R Y27 aR R λa1 aZ be ae I ay=>Tv<|Ob h λbi aM h=>Jd4 ae E6 3 [] R Y27 aR R (E.stp I) (zu (bo _) ay.rdc) aV aM R λam an bf af aj az=>Tv<|Jc 1 R ?_
 cases h
 exact Jw1 _ ⟨af,am,an,R,(I.tr aj).wk R,az⟩<|KM R
 rintro _ bd ⟨ad,s,q,rfl,ai,ax⟩
 have h:=aH
 refine Jz<|Jp<|Jg3 R<|wr2 U u D.len_le ▸ ?_
 cases h
 exact Ja2 ⟨ad,e+1,G,s,q,R,(B.tr ai).wk R,ax,nxz U,nxm u,v⟩ R
 rintro _ bb ⟨ac,x,t,p,rfl,ah,aw,rfl⟩
 have h:=yI aG
 refine Jp<|Jl3 1 R<|Ob h λbj aN h=>Jw3 R call272 (i7 (J:=λC=>mp [(3,2)] 0<|ac C) (aw.map (mp [(3,2)] 0) R R) aN) ?_
 rintro _ bg ⟨a7,rfl,aq,aA,aI⟩
 obtain⟨ag,ak,aQ⟩:=Ji aq 10 R
 refine Tv<|Jd<|Jf3 R<|Ju<|Jb2 (l:=[.tmp 2]) results249 (Jq2 R R) R ?_
 cases h
 exact⟨(λC=>ren [(12,2)]<|ag C),t,p,(by simp only[(aI)]),((aF.stp<|T7 o g d c A ah ak).map (ren [(12,2)]) R R),((aA.mx (aT _) aQ R (R:10+2=12)).map (ren [(12,2)]) R R)⟩
theorem cx {v D}{p0:VI}{x E}{p1:VI}(k:Rd Ri J w 0 v D p0) (y:Rd Ri J w 0 x E p1){r:Int}(h:bq p0 p1=some r):Ret prog 248 [.slice v p0.length D,.slice x p1.length E] w (Pvi J w r):=by
 unfold bq at h
 refine Jp3 J func248 R ntmps248 R λe=>Jf3 R<|Jq<|Jl3 1 R<|Js3 R U27 R R<|Jb 1 R<|Ob h λC G m=>?_
 clear h
 refine Jt3 [0,1] (λg j o=>∃p,j=g/\Stp [] J w p o/\C=zw ()) ?_ ?_
 refine Jv<|Ju3 [0,1,9,10] (λd g j o=>∃p a,j=(11,vi a)::g/\Stp [] J w p o/\0<=a/\zq ((p0.length:Int)-a)=d/\cntM (bt p0 p1) d a ()=some C) ⟨_,_,⟨J,0,R,Jo3,(by decide),(by simp),G⟩,(KM R)⟩ ?_
 rintro d _ T ⟨i,a,rfl,b,z,f,h⟩
 rcases d with _|d
 have c:=h;obtain⟨I,h⟩:=exq c
 have n:=dcf f
 refine Jf3 R<|Jq<|Jx2 R n<|Jc1<|Jt<|Jt ?_
 cases h
 have h:=c
 refine Jb1 ?_
 cases h
 exact Jw1 _ ⟨i,R,b.wk R,R⟩<|KM R
 obtain⟨I,h,c⟩:=BI h;unfold bt at h
 have n:=dct f
 refine Jf3 R<|Jq<|Jw2 R n<|Js<|Jp<|Jq<|Jv<|Jl3 1 R<|Ob h λU A h=>Jd3 R k A U27 Z2<|Jc3 R I2 ((k.stp b).gInt A)<|Jb 2 R<|Jq<|Jl3 2 R<|Js3 R U27 R R<|Jb 1 R ?_
 revert h
 cases L:decide ((p1.length:Int)<=a)
 refine JF λh=>Jy R<|Js<|Jp<|Jl3 2 R<|Ob h λV B h=>Jd3 R y B U27 Z2<|Jc3 R I2 ((y.stp b).gInt B)<|Jb 1 R<|Jl3 2 R<|Ob h λK H h=>Jw3 R call270 (kh (J:=Mk i) H) ?_
 rintro _ Q ⟨O,rfl,F⟩
 obtain⟨q,t,P⟩:=Ji F 2 R
 refine Tv<|Jb 1 R<|Jf3 R ?_
 revert h
 cases M:(K !=0)
 refine JF λh=>Jy R<|Js<|Jz<|Jp<|Jg3 R<|wr2 z f k.len_le ▸ ?_
 cases h
 exact Ja2 ⟨q,a+1,R,(b.tr t).wk R,nxz z,nxm f,c⟩ R
 refine JT λh=>Jx R<|Jf3 R<|Ju<|Ja1<|Jw<|Jw ?_
 cases h
 obtain rfl:=zt c
 have h:=yL m
 refine Ja1<|Jr2<|Jw<|Jb2 (l:=[.tmp 4]) results248 (Jq2 R R) R ?_
 cases h
 exact⟨q,R,(e.stp<|b.tr t)⟩
 refine JT λh=>Jx R<|Jf3 R<|Ju<|Jw<|Ja1<|Jw<|Jw ?_
 cases h
 obtain rfl:=zt c
 have h:=yL m
 refine Ja1<|Jr2<|Jw<|Jb2 (l:=[.tmp 4]) results248 (Jq2 R R) R ?_
 cases h
 exact⟨i,R,(e.stp b)⟩
 rintro _ S ⟨s,rfl,u,rfl⟩
 have h:=yI m
 refine Jp<|Jq<|Jl3 1 R<|Js3 R U27 R R<|Jn 1 R<|Js3 R U27 R R<|Jb 1 R ?_
 revert h
 cases N:decide ((p0.length:Int)<(p1.length:Int))
 refine JF λh=>Jy R<|Js<|Jp<|Jf3 R<|Ju<|Jb2 (l:=[.tmp 4]) results248 (Jq2 R R) R ?_
 cases h
 exact⟨s,R,(e.stp u)⟩
 refine JT λh=>Jx R<|Jf3 R<|Ju<|Jw<|Jb2 (l:=[.tmp 4]) results248 (Jq2 R R) R ?_
 cases h
 exact⟨s,R,(e.stp u)⟩
theorem il {L I K M}{p0:Arena}{p1:Int}{G Q}{p2:VI}{H S}{C:VI}(ar:Rd Ri J w 0 L I p0.Owner) (au:Rd Rs J w 0 K M p0.Next) (av:Rd Ri J w 0 G Q p2) (aw:Rd Ri J w 0 H S C){r:VI}(h:eQ p0 p1 p2 C=some r):Ret prog 276 [.agg #[.slice L p0.Owner.length I,.slice K p0.Next.length M],vi p1,.slice G p2.length Q,.slice H C.length S] w (Pvs E6 2 J w r):=by
 unfold eQ at h
 refine Jp3 J func276 R ntmps276 R λax=>Jj3<|Jx3 J 2 R λaL aO V f am=>Tv<|Jb 1 R<|Jj3<|Jc4 V E6 3 R Y27 aR R λag af aW aa d aq=>Tv<|Jb 1 R<|Jq<|Jj3<|Jg4 tv R (Jh4 (haE (am.stp d).cells) I30 Z30 R)<|Jn 3 R<|Ob h λU aB h=>Jw3 R call294 (p6 (J:=Mk aa) (p0:=p0) (Jn3<|ar.stp<|f.tr d) (Jn3<|au.stp<|f.tr d) (Jn3<|av.stp<|f.tr d) (Jn3<|aw.stp<|f.tr d) aB) ?_
 rintro _ T ⟨aN,aK,aH,rfl,aj,ak⟩
 obtain⟨x,E,aD⟩:=Ji aj 4 R
 refine Tv<|?_
 have z:=ak.mx (aT _) aD R (R:4+2=6)
 refine Js3 R U27 R R<|Jb 1 R<|Ob h λP aA ay=>?_
 clear h
 refine Jx1 (λe a=>∃b,∃u:VI,∃q n,e=[(9,.slice q u.length n)]/\Stp [3] x T b a/\Oc E6 2 b a 3 q n u/\P=zw u) ?_ ?_
 refine Jv<|Ju3 [17,18] (λj v e a=>∃b c,∃k:VI,∃i g,e=(9,.slice i k.length g)::(19,vi c)::v/\Stp [3] x T b a/\Oc E6 2 b a 3 i g k/\0<=c/\zq ((U.length:Int)-c)=j/\cntM (fj U) j c k=some P) ⟨_,_,⟨x,0,([]:VI),ag,af,R,Jo3,(aq.stp E),(by decide),(by simp),aA⟩,(KM R)⟩ ?_
 rintro j _ aF ⟨m,c,k,i,g,rfl,y,A,N,s,h⟩
 rcases j with _|j
 have t:=h;obtain⟨aE,h⟩:=exq t
 have B:=dcf s
 refine Jf3 R<|Jq<|Jx2 R B<|Jc1<|Jt<|Jt ?_
 cases h
 have h:=t
 refine Jb1 ?_
 cases h
 exact Jw1 _ ⟨m,k,i,g,R,y.wk R,A,R⟩<|KM R
 obtain⟨aE,h,t⟩:=BI h;unfold fj at h
 have B:=dct s
 refine Jf3 R<|Jq<|Jw2 R B<|Js<|Jp<|Jq<|Jv<|Jl3 1 R<|Ob h λaG O h=>Jd3 R z.rdc O U27 Z2<|Jc3 R I2 ((z.stp y).rdc.gInt O)<|Jb 2 R<|Jf3 R<|Ob h λD h az=>Jt3 [17,18,19] (λv e a=>∃b p o,e=(9,.slice p D.length o)::v/\Stp [3] m aF b a/\Oc E6 2 b a 3 p o D) ?_ ?_
 revert h
 cases aM:decide (0<=aG)
 refine JF λh=>Jy R<|Js ?_
 cases h
 exact Jw1 _ ⟨m,i,g,R,Jo3,A⟩<|KM R
 refine JT λh=>Jx R<|Jm3 2 R<|Ji4 m 7 [c] R Y27 aR R λaJ aI aS Y F ao=>Tv<|Ob h λaX aC h=>Jd4 Y E6 3 [] R Y27 aR R (A.stp F) (zu (bo _) ao.rdc) aV aC R λae ah aU Z ad ap=>Tv<|Jc 1 R ?_
 cases h
 exact Jw1 _ ⟨Z,ae,ah,R,(F.tr ad).wk R,ap⟩<|KM R
 rintro _ aQ ⟨X,p,o,rfl,ac,an⟩
 have h:=az
 refine Jz<|Jp<|Jg3 R<|wr2 N s z.len_le ▸ ?_
 cases h
 exact Ja2 ⟨X,c+1,D,p,o,R,(y.tr ac).wk R,an,nxz N,nxm s,t⟩ R
 rintro _ aP ⟨W,u,q,n,rfl,ab,al,rfl⟩
 have h:=yI ay
 refine Jp<|Jf3 R<|Ju<|Jb2 (l:=[.tmp 8]) results276 (Jq2 R R) R ?_
 cases h
 exact⟨(λai=>ren [(3,2)]<|W ai),q,n,R,((ax.stp<|T4 f d E ab).map (ren [(3,2)]) R R),(al.map (ren [(3,2)]) R R)⟩
theorem gt {t A}{p0:VI}{p1:Int}(f:Rd Ri J w 0 t A p0){r:Int×Bool}(h:bD p0 p1=some r):Ret prog 187 [.slice t p0.length A,vi p1] w (λad b=>∃(c:Col),ad= .tuple #[vi r.1,.bool r.2]/\Ent J w c b):=by
 unfold bD at h
 refine Jp3 J func187 R ntmps187 R λP=>Jf3 R<|Jl3 1 R<|Js3 R U27 R R<|Jb 1 R<|Jf3 R<|Jq<|Ob h λz W Q=>?_
 clear h
 refine Jt3 [0,1,6] (λd e b=>∃c,∃j:Int×Int,e=(7,vi j.1)::d/\Stp [] J w c b/\z=zw j) ?_ ?_
 refine Jv<|Ju3 [0,1,6] (λg d e b=>∃c,∃a:Int×Int,e=(7,vi a.1)::(8,vi a.2)::d/\Stp [] J w c b/\bn (bw p0 p1) g a=some z) ⟨_,_,⟨J,((0:Int),((p0.length:Int):Int)),R,Jo3,W⟩,(KM R)⟩ ?_
 rintro g _ aF ⟨q,a,rfl,n,h⟩
 rcases g with _|g
 cases h
 obtain⟨az,h,u⟩:=BI h;unfold bw at h
 refine Jq<|Jf3 R ?_
 revert h
 cases am:decide (a.1<a.2)
 refine JF λh=>Jy R<|Jc1<|Jt<|Jt ?_
 cases h
 have h:=u
 refine Jb1 ?_
 cases h
 exact Jw1 _ ⟨q,(a.1,a.2),R,n.wk R,R⟩<|KM R
 refine JT λh=>Jx R<|Js<|Jp<|Jv<|Jl3 3 R<|Jf R (Ji2 U3 runUnderlying59 R R)<|Jf R (vg R R R (by decide))<|Jf R (Ji2 runUnderlying59 U3 R R)<|Jb 1 R<|Jl3 2 R<|Ob h λaG v h=>Jd3 R f v U27 Z2<|Jc3 R I2 ((f.stp n).gInt v)<|Jn 1 R<|Ob h λag X h=>Jw3 R call221 (lO (J:=Mk q) X) ?_
 rintro _ ae ⟨ar,rfl,M⟩
 obtain⟨k,E,aw⟩:=Ji M 2 R
 refine Tv<|Jd<|Ob h λi h S=>Jt3 [0,1,6] (λd e b=>∃c,e=(7,vi i.1)::(8,vi i.2)::d/\Stp [] k ae c b) ?_ ?_
 revert h
 cases an:ag
 refine JF λh=>Jy R<|Jg3 R ?_
 cases h
 exact Jw1 _ ⟨k,R,Jo3⟩<|KM R
 refine JT λh=>Jx R<|Jg3 R ?_
 cases h
 exact Jw1 _ ⟨k,R,Jo3⟩<|KM R
 rintro _ aA ⟨C,rfl,F⟩
 have h:=S
 refine Jz ?_
 cases h
 exact Ja2 ⟨C,(i.1,i.2),R,(T3 n E F).wk R,u⟩ R
 rintro _ B ⟨m,j,rfl,s,rfl⟩
 have h:=yI Q
 refine Jp<|Jl3 5 R<|Ob h λac h T=>Jk4 [31] 53 ac m B 18 tv ?_ ?_
 revert h
 cases ao:decide (j.1<(p0.length:Int))
 refine JF λh=>Jn 3 R<|Je4 R<|Jn 6 R<|Je4 R<|Je4 R<|Jn 2 R<|Je4 R<|Jn 3 R ?_
 cases h
 exact Jl4 tv R
 refine JT λh=>Jn 2 R<|Ob h λah x h=>Jd3 R f x U27 Z2 ?_
 have o:=f.stp s
 refine Jc3 R I2 (o.gInt x)<|Jn 3 R<|Ob h λab h U=>Jk4 [31,35] 52 ab m B 10 tv ?_ ?_
 revert h
 cases ap:(ah==p1)
 refine JF λh=>Jn 2 R<|Ob h λaH y h=>Jd3 R o y U27 Z2<|Jc3 R I2 (o.gInt y)<|Ob h λai Y h=>Jw3 R call222 (gc (J:=Mk m) Y) ?_
 rintro _ af ⟨au,rfl,N⟩
 obtain⟨p,G,ax⟩:=Ji N 2 R
 refine Tv<|Jn 1 R<|Ob h λaa h V=>Jk4 [31,35,42] 51 aa p af 3 tv ?_ ?_
 revert h
 cases aq:ai
 refine JF λh=>Jn 1 R<|Je4 R<|Jn 1 R ?_
 cases h
 exact Jl4 tv R
 refine JT λh=>Jn 1 R<|Ob h λaI Z h=>Jw3 R call222 (gc (J:=Mk p) Z) ?_
 rintro _ aB ⟨av,rfl,O⟩
 obtain⟨aj,H,ay⟩:=Ji O 4 R
 refine Tv<|Jn 1 R ?_
 cases h
 exact Jv1 _ tv ⟨R,_,H.wk R⟩<|KM R
 rintro _ aC _ ⟨rfl,ak,I⟩
 have h:=V
 refine Jn 1 R ?_
 cases h
 exact Jv1 _ tv ⟨R,_,(G.tr I).wk R⟩<|KM R
 refine JT λh=>Jn 3 R<|Je4 R<|Je4 R<|Jn 2 R<|Je4 R<|Jn 2 R ?_
 cases h
 exact Jl4 tv R
 rintro _ aD _ ⟨rfl,al,K⟩
 have h:=U
 refine Jn 1 R ?_
 cases h
 exact Jv1 _ tv ⟨R,_,K.wk R⟩<|KM R
 rintro _ aE _ ⟨rfl,D,L⟩
 have h:=T
 refine Jb 2 R<|Ju<|Jb2 (l:=[.tmp 4,.tmp 5]) results187 (Jq2 R<|Jq2 R R) R ?_
 cases h
 exact⟨D,R,(P.stp<|s.tr L)⟩
theorem n7 {I K G H}{p0:Arena}{p1:Int}(ar:Rd Ri J w 0 I K p0.Owner) (au:Rd Rs J w 0 G H p0.Next){r:VI}(h:gB p0 p1=some r):Ret prog 257 [.agg #[.slice I p0.Owner.length K,.slice G p0.Next.length H],vi p1] w (Pvs E6 2 J w r):=by
 unfold gB at h
 refine Jp3 J func257 R ntmps257 R λS=>Jj3<|Jx3 J 2 R λaQ a1 ab o M=>Tv<|Jb 1 R<|Jq<|Jj3<|Jg4 tv R (Jh4 (haE M.cells) I30 Z30 R)<|Ob h λaM aG h=>?_
 have O:=ar.stp o
 have Q:=au.stp o
 refine Jw3 R call126 (lV (J:=Mk ab) (p0:=p0) (Jn3 O) (Jn3 Q) aG) ?_
 rintro _ aK ⟨aX,rfl,am⟩
 obtain⟨E,f,aY⟩:=Ji am 3 R
 refine Tv<|Jn 2 R<|Ob h λY h av=>Jk4 [1,2] 15 Y E aK 4 tv ?_ ?_
 revert h
 cases aR:(!aM)
 refine JF λh=>Jn 1 R<|Ob h λa7 aD h=>Jw3 R call185 (pe (J:=Mk E) aD) ?_
 rintro _ a2 ⟨aV,rfl,ak⟩
 obtain⟨aO,af,aZ⟩:=Ji ak 5 R
 refine Tv<|Jn 2 R ?_
 cases h
 exact Jv1 _ tv ⟨R,_,af.wk R⟩<|KM R
 refine JT λh=>Jn 1 R<|Je4 R<|Jn 2 R ?_
 cases h
 exact Jl4 tv R
 rintro _ a3 _ ⟨rfl,F,g⟩
 have h:=av
 refine Jd ?_
 revert h
 cases aS:Y
 refine JF λh=>Jy R<|Js<|Jp<|Jj3 ?_
 have L:=M.stp (f.tr g)
 refine Jg4 tv R (Jh4 (haE L.cells) I30 Z30 R)<|Ob h λm aE h=>?_
 have B:=O.stp (f.tr g)
 have t:=Q.stp (f.tr g)
 refine Jw3 R call170 (eT (J:=Mk F) (p0:=p0) (Jn3 B) (Jn3 t) aE) ?_
 rintro _ aa ⟨aW,s,q,rfl,al,an⟩
 obtain⟨A,p,aH⟩:=Ji al 5 R
 refine Tv<|Jb 1 R<|Jq<|Jj3<|Je3 R U30 R Z28 ?_
 have N:=L.stp p
 refine Jc3 R I28 (N.ld 1 R R)<|Js3 R U28 R R<|Jb 1 R<|Ob h λZ aC aw=>?_
 clear h
 refine Jt3 [5] (λc e a=>∃b,∃z:VI,e=c/\Stp [7] A aa b a/\Oc E6 2 b a 7 s q z/\m.length=z.length/\Z=zw z) ?_ ?_
 refine Jv<|Ju3 [1,2,5,19,20] (λj c e a=>∃b d,∃k:VI,e=(21,vi d)::c/\Stp [7] A aa b a/\Oc E6 2 b a 7 s q k/\m.length=k.length/\0<=d/\zq ((p0.Next.length:Int)-d)=j/\cntM (dH p0 p1) j d k=some Z) ⟨_,_,⟨A,0,m,R,Jo3,(an.mx (aT _) aH R (R:5+2=7)),R,(by decide),(by simp),aC⟩,(KM R)⟩ ?_
 rintro j _ aJ ⟨n,d,k,rfl,i,u,y,T,v,h⟩
 rcases j with _|j
 have x:=h;obtain⟨aI,h⟩:=exq x
 have C:=dcf v
 refine Jf3 R<|Jq<|Jx2 R C<|Jc1<|Jt<|Jt ?_
 cases h
 have h:=x
 refine Jb1 ?_
 cases h
 exact Jw1 _ ⟨n,k,R,i.wk R,u,y,R⟩<|KM R
 obtain⟨aI,h,x⟩:=BI h;unfold dH at h
 have C:=dct v
 refine Jf3 R<|Jq<|Jw2 R C<|Js<|Jp<|Jq<|Jv<|Jl3 1 R<|Ob h λa8 U h=>Jd3 R t U U28 Z27 ?_
 obtain⟨aP,a0,P,ay⟩:=(t.stp (p.tr i)).gSl U
 refine Jc3 R I27 ay<|Jb 2 R<|Jj3<|Je3 R U30 R Z27<|Jc3 R I27 ((N.stp i).ld 0 R R)<|Jn 1 R<|Ob h λaL V h=>Jd3 R B V U27 Z2<|Jc3 R I2 ((B.stp<|p.tr i).gInt V)<|Jb 2 R<|Ob h λD h ax=>Jt3 [1,2,5,19,20,21] (λc e a=>∃b,e=c/\Stp [7] n aJ b a/\Oc E6 2 b a 7 s q D/\m.length=D.length) ?_ ?_
 revert h
 cases aU:(aL==p1)
 refine JF λh=>Jy R<|Js ?_
 cases h
 exact Jw1 _ ⟨n,R,Jo3,u,y⟩<|KM R
 refine JT λh=>Jx R<|Jm3 3 R<|Ob h λa9 W h=>Jd3 R P W U27 Z2<|Jc3 R I2 (P.gInt W)<|Ob h λba aF h=>Jf R (Jg2 u.rdc aF U27 Z2 R R y R)<|Ob h λaN X h=>Jk1 (J:=n) (E:=E6) 7 [] R R R R R R R R Z2 R R R R u X λa6 ae ai aq=>Tv<|?_
 have aB:m.length=aN.length:=y.trans (Ju2 X).2.2.2.symm
 refine Jo ?_
 cases h
 exact Jw1 _ ⟨ae,R,ai.wk R,aq,aB⟩<|KM R
 rintro _ a5 ⟨ad,rfl,ah,ap,aA⟩
 have h:=ax
 refine Jz<|Jp<|Jg3 R<|wr2 T v t.len_le ▸ ?_
 cases h
 exact Ja2 ⟨ad,d+1,D,R,(i.tr ah).wk R,ap,aA,nxz T,nxm v,x⟩ R
 rintro _ a4 ⟨ac,z,rfl,ag,ao,az,rfl⟩
 have h:=yI aw
 refine Jp<|Jf3 R<|Ju<|Jb2 (l:=[.tmp 4]) results257 (Jq2 R R) R ?_
 cases h
 exact⟨(λaj=>ren [(7,2)]<|ac aj),s,q,(by simp only[az]),((S.stp<|T5 o f g p ag).map (ren [(7,2)]) R R),(ao.map (ren [(7,2)]) R R)⟩
 refine JT λh=>Jx R<|Jf3 R<|Ju<|Jw<|Jb2 (l:=[.tmp 4]) results257 (Jq2 R R) R ?_
 cases h
 exact⟨F,none,0,R,(S.stp<|T3 o f g),Ow.nil⟩
theorem na {H U}{p0:VI}{p1:Int}(I:Rd Ri J w 0 H U p0){r:Lasso}(h:jv p0 p1=some r):Ret prog 255 [.slice H p0.length U,vi p1] w (λaw b=>∃(c:Col) (P:Option Addr) (S:Nat) (Q:Option Addr) (T:Nat),aw= .agg #[.slice P r.Stem.length S,.slice Q r.Loop.length T]/\Ent J w c b/\Rd Ri c b 0 P S r.Stem/\Rd Ri c b 0 Q T r.Loop):=by
 unfold jv at h
 refine Jp3 J func255 R ntmps255 R λan=>Jj3<|Jy3 J 2 R zeroValue296 R λaF aM Z E ak=>Tv<|Jd<|Jj3<|Jc4 Z E6 3 R Y27 aR R λad av V q y am=>Tv<|Jb 1 R<|Jq<|Ob h λO ap ao=>?_
 clear h
 refine Jt3 [4] (λo s b=>∃c,∃g:Int×VI,∃e a,s=(1,vi g.1)::(5,.slice e g.2.length a)::o/\Stp [3] q V c b/\Oc E6 2 c b 3 e a g.2/\O=zw g) ?_ ?_
 refine Jv<|Ju3 [0,4] (λm o s b=>∃c,∃d:Int×VI,∃j k,s=(1,vi d.1)::(5,.slice j d.2.length k)::o/\Stp [3] q V c b/\Oc E6 2 c b 3 j k d.2/\bn (gT p0) m d=some O) ⟨_,_,⟨q,(p1,([]:VI)),ad,av,R,Jo3,am,ap⟩,(KM R)⟩ ?_
 rintro m _ aO ⟨Y,d,j,k,rfl,t,A,h⟩
 rcases m with _|m
 cases h
 obtain⟨aL,h,K⟩:=BI h;unfold gT at h
 refine Jq<|Jl3 2 R<|Ob h λay aq h=>Jw3 R call134 (cv (J:=Mk Y) (Jn3 A.rdc) aq) ?_
 rintro _ aP ⟨aH,rfl,ag⟩
 obtain⟨C,f,aJ⟩:=Ji ag 4 R
 refine Tv<|Jb 1 R ?_
 revert h
 cases aG:(!ay)
 refine JF λh=>Jy R<|Jc1<|Jt<|Jt ?_
 cases h
 have h:=K
 refine Jb1 ?_
 cases h
 exact Jw1 _ ⟨C,(d.1,d.2),j,k,R,(t.tr f).wk R,(A.stp f),R⟩<|KM R
 refine JT λh=>Jx R<|Js<|Jp<|Jv<|Jl3 2 R<|Ji4 C 6 [d.1] R Y27 aR R λaD aE aQ aa u ai=>Tv<|Ob h λaz ar h=>Jd4 aa E6 3 [] R Y27 aR R (A.stp<|f.tr u) (zu (bo _) ai.rdc) aV ar R λae af aS ab F aj=>Tv<|Jb 1 R<|Jm3 2 R<|Ob h λaA L h=>Jd3 R I L U27 Z2<|Jc3 R I2 ((I.stp<|T6 E y t f u F).gInt L)<|Jc 1 R<|Jz ?_
 cases h
 exact Ja2 ⟨ab,(aA,az),ae,af,R,(T4 t f u F).wk R,aj,K⟩ R
 rintro _ aN ⟨X,g,e,a,rfl,D,z,rfl⟩
 have h:=yI ao
 refine Jp<|Jl3 2 R<|Ob h λn au h=>Jw3 R call111 (fd (J:=Mk X) (Jn3 z.rdc) au) ?_
 rintro _ aT ⟨aI,rfl,ah⟩
 obtain⟨p,v,aK⟩:=Ji ah 4 R
 refine Tv<|Jb 1 R<|Jq<|Js1 (J:=p) [] none [(0,2),(1,2),(2,2),(3,2),(4,2),(5,2),(6,2),(7,1)] [] (by kernel_rfl) (by kernel_rfl) λaU x=>Jn 2 R<|Ob h λaB M h=>Jf R (jE (k1:= .i64) (k2:= .i64) U27 Z2 (.inl ⟨R,R⟩) (.inr ⟨_,R,R⟩) M z.rdc.1 R R R) ?_
 have B:=z.stp (v.tr x)
 refine Jn 2 R<|Ob h λaC N h=>Jf R (jE (k1:= .i64) (k2:= .i64) U27 Z2 (.inr ⟨_,R,R⟩) (.inl ⟨R,R⟩) N B.rdc.1 R R R)<|Jf R (Jn4 [.slice (subA e a (0:Int).toNat 1) aB.length (a-(0:Int).toNat),.slice (subA e a n.toNat 1) aC.length (a-n.toNat)] R)<|Jm4 p 2 R sizeOf296 R (ak.stp<|T4 y D v x) R λax i al=>⟨(i.cl R),Jt1<|Jd<|Ju ?_⟩
 obtain⟨ac,G,W⟩:=b9 p ax 3
 refine Jb2 (l:=[.cell 4 296]) results255 (bv R (al.stp G) isAgg296 sizeOf296 R R) R ?_
 cases h
 exact⟨ac,(subA e a (0:Int).toNat 1),(a-(0:Int).toNat),(subA e a n.toNat 1),(a-n.toNat),R,(an.stp<|T7 E y D v x i G),(Sl.st W ((B.rdc.sub M).stp i)),(Sl.st W ((B.rdc.sub N).stp i))⟩
theorem kj {ab T W Z V X}{p0:Parity}{ac Y}{p1:Worth}{U aa}{p2:Worth}(M:Rd Ri J w 0 ab T p0.Arena.Owner) (N:Rd Rs J w 0 W Z p0.Arena.Next) (af:Rd Ri J w 0 V X p0.Prio) (aL:Rd Ri J w 0 ac Y p1.Over) (aM:Rd Ri J w 0 U aa p2.Over){r:Bool}(h:iF p0 p1 p2=some r):Ret prog 256 [.agg #[.slice ab p0.Arena.Owner.length T,.slice W p0.Arena.Next.length Z,.slice V p0.Prio.length X],.agg #[vi p1.Head,.slice ac p1.Over.length Y,vi p1.Way],.agg #[vi p2.Head,.slice U p2.Over.length aa,vi p2.Way]] w (Pvb J w r):=by
 unfold iF at h
 refine Jp3 J func256 R ntmps256 R λp=>Jj3<|Jx3 J 2 R λa9 bw ap e aJ=>Tv<|Jx3 ap 3 R λba bC au d aK=>Tv<|Jx3 au 4 R λbb bH t b aI=>Tv<|Jb 1 R<|Jq<|Js1 (J:=t) [0,2,3,4] none [(0,2),(2,2),(8,2),(10,2),(1,0),(3,0),(4,2),(5,0),(6,2),(7,2),(16,2),(9,0),(11,0),(12,2),(13,0),(14,2),(15,2),(17,2)] [] (by kernel_rfl) (by kernel_rfl) λbz a=>Je3 R U32 R Z27<|Je3 R U257 R Z2<|Je3 R U32 R Z27<|Je3 R U257 R Z2 ?_
 have j:=aJ.stp (T3 d b a)
 refine Jg R (Jd2 I27 R R<|hvC (j.ld 2 R R) R) ?_
 have k:=aK.stp (b.tr a)
 refine Jg R (Jd2 I2 R R<|hvC (k.ld 0 R R) R)<|Ob h λP ah h=>Jd3 R af ah U27 Z2 ?_
 have g:=af.stp (T4 e d b a)
 refine Jg R (Jd2 I2 R R<|hvC (g.gInt ah) R)<|Jf R (c7 R R R<|show ¬(2:Int)=0 by decide) (Jn 2 R<|Jg R (Jd2 I27 R R<|hvC (j.ld 2 R R) R) ?_)
 have m:=aI.stp a
 refine Jg R (Jd2 I2 R R<|hvC (m.ld 0 R R) R)<|Ob h λa3 ai h=>Jd3 R g ai U27 Z2<|Jg R (Jd2 I2 R R<|hvC (g.gInt ai) R)<|Jf R (c7 R R R<|show ¬(2:Int)=0 by decide) (Jn 2 R<|Jt1<|Jd<|Jq<|Jj3<|Je3 R U257 R Z2<|Jc3 R I2 (k.ld 0 R R)<|Je3 R U257 R Z2<|Jc3 R I2 (m.ld 0 R R)<|Jb 1 R ?_)
 revert h
 cases bf:(p1.Head !=p2.Head)
 refine JF λh=>Jy R<|Js<|Jp<|Jf3 R<|Jf3 R<|Jq<|Jj3<|Je3 R U32 R Z30<|Jg4 tv R (Jh4 (haE<|j.lds 0 2 R) I30 Z30 R)<|Ob h λa4 aW h=>?_
 have ad:=M.stp (T4 e d b a)
 have ae:=N.stp (T4 e d b a)
 refine Jw3 R call194 (pB (J:=Mk t) (p0:=p0.Arena) (Jn3 ad) (Jn3 ae) aW) ?_
 rintro _ am ⟨bm,rfl,aE⟩
 obtain⟨G,c,bs⟩:=Ji aE 5 R
 refine Tv<|Jb 1 R<|Ob h λ_ aT h=>?_
 have aR:=ku aT
 refine Ob h λal aS aO=>?_
 clear h
 refine Jt3 [3,4,5,7] (λs u z=>∃A,∃y:Int×Bool,u=(9,vi y.1)::(10,.bool y.2)::s/\Stp [] G am A z/\al=zw y) ?_ ?_
 refine Jv<|Ju3 [3,4,5,7,56] (λx s u z=>∃A q,∃n:Int×Bool,u=(9,vi n.1)::(10,.bool n.2)::(57,vi q)::s/\Stp [] G am A z/\0<=q/\zq (a4-q)=x/\cntM (gC p0 p1 p2) x q n=some al) ⟨_,_,⟨G,0,(((-1):Int),false),R,Jo3,(by decide),(by simp),aS⟩,(KM R)⟩ ?_
 rintro x _ bE ⟨I,q,n,rfl,i,ag,C,h⟩
 rcases x with _|x
 have D:=h;obtain⟨a0,h⟩:=exq D
 have O:=dcf C
 refine Jf3 R<|Jq<|Jx2 R O<|Jc1<|Jt<|Jt ?_
 cases h
 have h:=D
 refine Jb1 ?_
 cases h
 exact Jw1 _ ⟨I,(n.1,n.2),R,i.wk R,R⟩<|KM R
 obtain⟨a0,h,D⟩:=BI h;unfold gC at h
 have O:=dct C
 refine Jf3 R<|Jq<|Jw2 R O<|Js<|Jp<|Jq<|Jv<|Jf3 R<|Jq<|Js1 (J:=I) [3,4] none [(0,2),(2,2),(4,2),(6,2),(1,0),(5,0),(3,1),(7,1),(8,2),(9,2)] [] (by kernel_rfl) (by kernel_rfl) λbF o=>Je3 R U257 R Z27<|Jn 1 R<|Je3 R U257 R Z27<|Jn 1 R<|Jg R (Jd2 I27 R R<|hvC ((k.stp<|T3 c i o).ld 1 R R) R)<|Jg R (Jd2 I27 R R<|hvC ((m.stp<|T3 c i o).ld 1 R R) R)<|Ob h λa5 aX h=>Jw3 R call134 (cv (J:=Mk I) (Jn3<|aL.stp<|T7 e d b a c i o) aX) ?_
 rintro _ bG ⟨bn,rfl,aF⟩
 obtain⟨av,v,bt⟩:=Ji aF 7 R
 refine⟨(v.cl R),Ob h λa6 aY h=>Jw3 R call134 (cv (J:=Mk av) (Jn3<|aM.stp<|T8 e d b a c i o v) aY) ?_⟩
 rintro _ an ⟨bo,rfl,aG⟩
 obtain⟨K,L,bu⟩:=Ji aG 9 R
 refine⟨((v.tr L).cl R),Jn 2 R<|Jt1<|Jd<|Jl3 2 R<|Jf R (nQ R R U4 R)<|Jn 1 R<|Ob h λak h aP=>Jk4 [3,4,5,7,9,10,11,12,56,57] 80 ak K an 9 tv ?_ ?_⟩
 revert h
 cases bi:(a5 !=a6)
 refine JF λh=>Jn 3 R<|Je4 R<|Jn 2 R<|Je4 R<|Jn 2 R ?_
 cases h
 exact Jl4 tv R
 refine JT λh=>Jn 3 R<|Ob h λa1 h aQ=>Jk4 [3,4,5,7,9,10,11,12,56,57,71,72,73,74] 79 a1 K an 5 tv ?_ ?_
 revert h
 cases bj:decide (n.1<0)
 have B:=(T5 c i o v L)
 refine JF λh=>Jg4 tv R (Jh4 (haE (j.stp B).cells) I32 Z32 R)<|Jn 2 R<|Ob h λbM aZ h=>Jw3 R call278 (fu (J:=Mk K) (p0:=p0) (Jn3<|ad.stp B) (Jn3<|ae.stp B) (Jn3<|g.stp B) aZ) ?_
 rintro _ bI ⟨bp,rfl,aH⟩
 obtain⟨a7,aA,bv⟩:=Ji aH 11 R
 refine Tv<|Jn 1 R ?_
 cases h
 exact Jv1 _ tv ⟨R,_,aA.wk R⟩<|KM R
 refine JT λh=>Je4 R<|Jn 2 R<|Je4 R<|Jn 1 R ?_
 cases h
 exact Jl4 tv R
 rintro _ bJ _ ⟨rfl,a8,aB⟩
 have h:=aQ
 refine Jn 1 R ?_
 cases h
 exact Jv1 _ tv ⟨R,_,aB.wk R⟩<|KM R
 rintro _ a2 _ ⟨rfl,F,aw⟩
 have h:=aP
 refine Jd<|Ob h λE h aN=>Jt3 [3,4,5,7,56,57] (λs u z=>∃A,u=(9,vi E.1)::(10,.bool E.2)::s/\Stp [] F a2 A z) ?_ ?_
 revert h
 cases bc:ak
 refine JF λh=>Jy R<|Js ?_
 cases h
 exact Jw1 _ ⟨F,R,Jo3⟩<|KM R
 refine JT λh=>Jx R<|Jf3 R<|Jg3 R ?_
 cases h
 exact Jw1 _ ⟨F,R,Jo3⟩<|KM R
 rintro _ bx ⟨ao,rfl,ax⟩
 have h:=aN
 refine Jz<|Jp<|Jg3 R<|wr2 ag C aR ▸ ?_
 cases h
 exact Ja2 ⟨ao,q+1,(E.1,E.2),R,(T6 i o v L aw ax).wk R,nxz ag,nxm C,D⟩ R
 rintro _ bD ⟨H,y,rfl,f,rfl⟩
 have h:=yI aO
 refine Jp<|Jq<|Jf3 R ?_
 revert h
 cases bd:decide (0<=y.1)
 refine JF λh=>Jy R<|Js<|Jp<|Jq<|Jf3 R ?_
 revert h
 cases be:((zx P 2)==0)
 refine JF λh=>Jy R<|Js<|Jp<|Jj3<|Je3 R U257 R Z2<|Jc3 R I2 ((m.stp<|c.tr f).ld 2 R R)<|Je3 R U257 R Z2<|Jc3 R I2 ((k.stp<|c.tr f).ld 2 R R)<|Jb 2 R<|Ju<|Jb2 (l:=[.tmp 6]) V256 (Jq2 R R) R ?_
 cases h
 exact⟨H,R,(p.stp<|T6 e d b a c f)⟩
 refine JT λh=>Jx R<|Jj3<|Je3 R U257 R Z2<|Jc3 R I2 ((k.stp<|c.tr f).ld 2 R R)<|Je3 R U257 R Z2<|Jc3 R I2 ((m.stp<|c.tr f).ld 2 R R)<|Jb 2 R<|Ju<|Jw<|Jb2 (l:=[.tmp 6]) V256 (Jq2 R R) R ?_
 cases h
 exact⟨H,R,(p.stp<|T6 e d b a c f)⟩
 refine JT λh=>Jx R<|Jj3<|Je3 R U32 R Z27<|Jc3 R I27 ((j.stp<|c.tr f).ld 2 R R)<|Jn 1 R<|Ob h λbN aj h=>Jd3 R g aj U27 Z2<|Jc3 R I2 ((g.stp<|c.tr f).gInt aj)<|Jf R (c7 R R R<|show ¬(2:Int)=0 by decide) (Jn 2 R<|Jf R (tI R R U4 R)<|Jb 1 R<|Ju<|Jw<|Jb2 (l:=[.tmp 6]) V256 (Jq2 R R) R ?_)
 cases h
 exact⟨H,R,(p.stp<|T6 e d b a c f)⟩
 refine JT λh=>Jx R<|Jq<|Jv<|Jl3 2 R<|Jf R (nQ R R U4 R)<|Jb 1 R ?_
 revert h
 cases bg:(((zx P 2)==0) !=((zx a3 2)==0))
 refine JF λh=>Jy R<|Jf3 R ?_
 revert h
 cases bh:((zx P 2)==0)
 have Q:=(T4 e d b a)
 refine JF λh=>Jy R<|Js<|Jz<|Jp<|Jj3<|Jg4 tv R (Jh4 (haE j.cells) I32 Z32 R)<|Je3 R U257 R Z2<|Jc3 R I2 (m.ld 0 R R)<|Je3 R U257 R Z2<|Jc3 R I2 (k.ld 0 R R)<|Ob h λbL aV h=>Jw3 R call278 (fu (J:=Mk t) (p0:=p0) (Jn3<|M.stp Q) (Jn3<|N.stp Q) (Jn3 g) aV) ?_
 rintro _ bB ⟨bl,rfl,aD⟩
 obtain⟨ar,az,br⟩:=Ji aD 5 R
 refine Tv<|Jb 1 R<|Ju<|Jw<|Jb2 (l:=[.tmp 6]) V256 (Jq2 R R) R ?_
 cases h
 exact⟨ar,R,(p.stp<|T5 e d b a az)⟩
 have S:=(T4 e d b a)
 refine JT λh=>Jx R<|Jj3<|Jg4 tv R (Jh4 (haE j.cells) I32 Z32 R)<|Je3 R U257 R Z2<|Jc3 R I2 (k.ld 0 R R)<|Je3 R U257 R Z2<|Jc3 R I2 (m.ld 0 R R)<|Ob h λbK aU h=>Jw3 R call278 (fu (J:=Mk t) (p0:=p0) (Jn3<|M.stp S) (Jn3<|N.stp S) (Jn3 g) aU) ?_
 rintro _ bA ⟨bk,rfl,aC⟩
 obtain⟨aq,ay,bq⟩:=Ji aC 5 R
 refine Tv<|Jb 1 R<|Ju<|Ja1<|Jw<|Jw<|Jb2 (l:=[.tmp 6]) V256 (Jq2 R R) R ?_
 cases h
 exact⟨aq,R,(p.stp<|T5 e d b a ay)⟩
 refine JT λh=>Jx R<|Jf3 R<|Ju<|Ja1<|Jw<|Jw<|Jb2 (l:=[.tmp 6]) V256 (Jq2 R R) R ?_
 cases h
 exact⟨t,R,(p.stp<|T4 e d b a)⟩
theorem ny {W Q T V S U}{p0:Parity}(ai:Rd Ri J w 0 W Q p0.Arena.Owner) (aj:Rd Rs J w 0 T V p0.Arena.Next) (ak:Rd Ri J w 0 S U p0.Prio){r:Stage}(h:fq p0=some r):Ret prog 259 [.agg #[.slice W p0.Arena.Owner.length Q,.slice T p0.Arena.Next.length V,.slice S p0.Prio.length U]] w (λbf m=>∃(n:Col) (ap:Option Addr) (ar:Nat) (aq:Option Addr) (au:Nat),bf= .agg #[.slice ap r.Won.length ar,.slice aq r.Region.length au,vi r.At]/\Ent J w n m/\Oc E6 2 n m 2 ap ar r.Won/\Oc E6 2 n m 3 aq au r.Region):=by
 unfold fq at h
 refine Jp3 J func259 R ntmps259 R λa9=>Jj3<|Jx3 J 2 R λbh br ax o a2=>Tv<|Jy3 ax 3 R X261 R λaL bg v i ae=>Tv<|Jd<|Jq<|Ob h λG an h=>Ob h λH ao h=>Ob h λbI al h=>Ob h λI am h=>Jt3 [2] (λav aG m=>∃n D C E B,aG=av/\Stp [3,4,6,7] v bg n m/\Oc E6 2 n m 4 D C G/\Oc E6 2 n m 5 E B H/\Bc n m 3 aL 261 [.slice D G.length C,.slice E H.length B,vi I]) ?_ ?_
 refine WC.rxt (J:=v) [2] none (by kernel_rfl) λbu a=>Jq1 (fuel:=7) [(0,2),(4,2),(8,2),(1,0),(5,0),(7,0),(9,0)] (by kernel_rfl) (by kernel_rfl) R<|Je3 R U32 R Z30<|Je3 R U32 R Z27<|Je3 R U32 R Z30 ?_
 have F:=a2.stp (i.tr a)
 refine Jg R (Jh4 (haC (F.lds 0 2 R) R) I30 Z30 R)<|Jg R (Jd2 I27 R R<|hvC (F.ld 2 R R) R)<|Jg R (Jh4 (haC F.cells R) I32 Z32 R)<|Jg R (Jh4 (haC (F.lds 0 2 R) R) I30 Z30 R)<|Jp1<|WA.fork2 (fuel:=6) 2 3 (by kernel_rfl) R ?_ ?_
 have X:=ai.stp (T3 o i a)
 have Y:=aj.stp (T3 o i a)
 refine Jw3 R call170 (eT (J:=Mk v) (p0:=p0.Arena) (Jn3 X) (Jn3 Y) an) ?_
 rintro _ bw ⟨bj,s,q,rfl,aN,aZ⟩
 obtain⟨ay,b,ba⟩:=Ji aN 4 R
 refine⟨(b.cl R),Jp1<|Jq1 (fuel:=0) [(3,1),(6,1),(10,1),(11,1),(12,2),(13,1)] (by kernel_rfl) (by kernel_rfl) R<|Jc4 ay E6 7 R Y27 aR R λaI be bx az c a0=>⟨((b.tr c).cl R),?_⟩⟩
 have Z:=ak.stp (T5 o i a b c)
 refine Jd4 az E6 7 [] R Y27 aR R a0 (zu (bo _) Z) aV ao R λp u bz aA f a1=>⟨((T3 b c f).cl R),?_⟩
 have aa:=X.stp (T3 b c f)
 have ab:=Y.stp (T3 b c f)
 refine Jw3 R call143 (gg (J:=Mk aA) (p0:=p0.Arena) (Jn3 aa) (Jn3 ab) al) ?_
 rintro _ bA ⟨bk,aK,aJ,rfl,aO,a3⟩
 obtain⟨aB,g,bb⟩:=Ji aO 8 R
 refine⟨((T4 b c f g).cl R),Jw3 R call214 (jT (J:=Mk aB) (p0:=p0) (Jn3<|aa.stp g) (Jn3<|ab.stp g) (Jn3<|Z.stp<|f.tr g) (Jn3 (a3.mx (aT _) bb R (R:8+2=10)).rdc) am) ?_⟩
 rintro _ bB ⟨bl,rfl,aP⟩
 obtain⟨L,z,bq⟩:=Ji aP 11 R
 have M:=(T6 a b c f g z)
 have N:=(T5 b c f g z)
 exact⟨(N.cl R),Jf R (Jn4 [.slice s G.length q,.slice p H.length u,vi I] R)<|Jm4 L 3 R Z261 R (ae.stp M) R λbC A a4=>⟨((N.tr A).cl R),Jp1<|Jr1 [] (by kernel_rfl) (by kernel_rfl) R<|Jo<|Jw1 _ ⟨(λt=>ren [(6,4),(7,5)]<|L t),s,q,p,u,R,(Jz2 ((M.tr A).wk R) [(6,4),(7,5)] R),(((aZ.mx (aT _) ba R (R:4+2=6)).stp (T5 c f g z A)).map (ren [(6,4),(7,5)]) R R),((a1.stp<|T3 g z A).map (ren [(6,4),(7,5)]) R R),(a4.map (ren [(6,4),(7,5)]) R R)⟩<|KM R⟩⟩
 refine Jc4 v E6 4 R Y27 aR R λaI be bD aC d a5=>⟨(d.cl R),Jp1<|Jq1 (fuel:=0) [(2,1),(6,1),(10,1),(11,1),(12,2),(13,1)] (by kernel_rfl) (by kernel_rfl) R ?_⟩
 have ac:=ai.stp (T4 o i a d)
 have ad:=aj.stp (T4 o i a d)
 refine Jw3 R call170 (eT (J:=Mk aC) (p0:=p0.Arena) (Jn3 ac) (Jn3 ad) an) ?_
 rintro _ bE ⟨bm,s,q,rfl,aQ,a6⟩
 obtain⟨aD,e,bc⟩:=Ji aQ 5 R
 refine⟨((d.tr e).cl R),?_⟩
 have af:=ak.stp (T5 o i a d e)
 refine Jd4 aD E6 4 [] R Y27 aR R (a5.stp e) (zu (bo _) af) aV ao R λp u bF aE j a7=>⟨((T3 d e j).cl R),?_⟩
 have ag:=ac.stp (e.tr j)
 have ah:=ad.stp (e.tr j)
 refine Jw3 R call143 (gg (J:=Mk aE) (p0:=p0.Arena) (Jn3 ag) (Jn3 ah) al) ?_
 rintro _ bG ⟨bn,aK,aJ,rfl,aS,a8⟩
 obtain⟨aF,k,bd⟩:=Ji aS 8 R
 refine⟨((T4 d e j k).cl R),Jw3 R call214 (jT (J:=Mk aF) (p0:=p0) (Jn3<|ag.stp k) (Jn3<|ah.stp k) (Jn3<|af.stp<|j.tr k) (Jn3 (a8.mx (aT _) bd R (R:8+2=10)).rdc) am) ?_⟩
 rintro _ bs ⟨bi,rfl,aM⟩
 obtain⟨K,x,bp⟩:=Ji aM 11 R
 have O:=(T6 a d e j k x)
 have P:=(T5 d e j k x)
 exact⟨(P.cl R),Jf R (Jn4 [.slice s G.length q,.slice p H.length u,vi I] R)<|Jm4 K 3 R Z261 R (ae.stp O) R λbt y aU=>⟨((P.tr y).cl R),Jp1<|Jr1 [] (by kernel_rfl) (by kernel_rfl) R<|Jo<|Jw1 _ ⟨(λt=>ren [(7,4),(4,5)]<|K t),s,q,p,u,R,(Jz2 ((O.tr y).wk R) [(7,4),(4,5)] R),(((a6.mx (aT _) bc R (R:5+2=7)).stp (T4 j k x y)).map (ren [(7,4),(4,5)]) R R),((a7.stp<|T3 k x y).map (ren [(7,4),(4,5)]) R R),(aU.map (ren [(7,4),(4,5)]) R R)⟩<|KM R⟩⟩
 rintro _ bH ⟨aw,D,C,E,B,rfl,aH,aW,aX,aY⟩
 refine Jp<|Ju<|Jb2 (l:=[.cell 2 261]) results259 (bv R aY I261 Z261 R R) R ?_
 cases h
 exact⟨(λt=>ren [(4,2),(5,3)]<|aw t),D,C,E,B,R,((a9.stp<|T3 o i aH).map (ren [(4,2),(5,3)]) R R),(aW.map (ren [(4,2),(5,3)]) R R),(aX.map (ren [(4,2),(5,3)]) R R)⟩
end
end Go.Proofs.YtgbippnfaoedmaaGreatDoor
