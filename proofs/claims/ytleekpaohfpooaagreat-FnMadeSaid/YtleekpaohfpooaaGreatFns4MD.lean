/- The walks, part 4. By program. -/
import Derived.Test.YtleekpaohfpooaaGreatFns0MD
import Derived.Test.YtleekpaohfpooaaGreatFns1MD
set_option linter.unusedVariables false
set_option linter.unusedSimpArgs false
open Go.Wk.Ep renaming bool → Do
open Int renaming toNat → Dq
open Go.IntKind renaming wrap → Dr
open Option.some renaming inj → Ds
open Go.Wk.Sl renaming srcP → Du
open Sum renaming inr → Dv
namespace Go.Proofs.YtleekpaohfpooaaGreat
open Tryz
open Go Go.Wk Go.Proofs
set_option maxRecDepth 100000
set_option maxHeartbeats 1000000
section
variable {w:World}{J:Col}
theorem r7 {t q}{p0:dice}{p1:Int}{v}(bO:Rd (Rp.int .u8) J w 0 t q p0.b) (bP:Bc J w 2 v 65 [.slice t p0.b.length q,vi p0.i,.int .u64 p0.h]){r:VC×Int×Int}(h:kr p0 p1=some r):Ret prog 18 [.pointer (some ⟨v,0,none⟩),vi p1] w (λck a=>∃(b:Col) (aZ:Option Addr) (a0:Nat),ck= .slice aZ r.1.length a0/\Ent J w b a/\Oc Clause.ep67 67 b a 3 aZ a0 r.1/\Bc b a 2 v 65 [.slice t p0.b.length q,vi r.2.1,.int .u64 r.2.2]):=by
 unfold kr at h
 refine Jl3 J func18 R ntmps18 R λbQ=>Jf3 R<|Je [1,2] R<|Jy3 J Clause.ep67 3 R underlying29 ph R λbi cj cH bb ag bC=>Tv<|Jb 1 R<|Jq<|Jh3 [2,2,2,1,2] 3 R<|Ob h λaw b4 h=>?_
 have aP:=bO.stp ag
 refine Js3 R call25 (iV (J:=λg=>mp [(2,2)] 0<|bb g) (p0:=p0) (Jm2 aP (mp [(2,2)] 0) R R) ((bP.stp ag).map (mp [(2,2)] 0) R R) b4) ?_
 rintro _ a3 ⟨cF,rfl,bo,bp⟩
 obtain⟨Y,ab,ce⟩:=Ji bo 4 R
 refine Tv<|Jb 1 R<|Ob h λaX b1 bX=>?_
 clear h
 refine Jp3 [0] (λi j a=>∃b,∃E:VC×Int×Int×Int,∃T U,j=(5,.slice T E.1.length U)::i/\Stp [3,6,9,10,11,12,13,15,18] Y a3 b a/\Oc Clause.ep67 67 b a 3 T U E.1/\Bc b a 6 v 65 [.slice t p0.b.length q,vi E.2.2.1,.int .u64 E.2.2.2]/\aX=Dv E) ?_ ?_
 refine Jv<|Jq3 [0] (λk i j a=>∃b,∃e:VC×Int×Int×Int,∃O Q,j=(5,.slice O e.1.length Q)::(6,vi e.2.1)::i/\Stp [3,6,9,10,11,12,13,15,18] Y a3 b a/\Oc Clause.ep67 67 b a 3 O Q e.1/\Bc b a 6 v 65 [.slice t p0.b.length q,vi e.2.2.1,.int .u64 e.2.2.2]/\cd (gU p0) k e=some aX) ⟨_,_,⟨Y,(([]:VC),aw.1,aw.2.1,aw.2.2),bi,cj,R,Jk3,(bC.stp ab),(bp.mx ce R (R:4+2=6)),b1⟩,(KM R)⟩ ?_
 rintro k _ cQ ⟨aB,e,O,Q,rfl,af,aM,aN,h⟩
 rcases k with _|k
 cases h
 obtain⟨cG,h,aU⟩:=BI h;unfold gU at h
 refine Jq<|Jf3 R ?_
 revert h
 cases cA:decide (0<e.2.1)
 refine JF λh=>Jy R<|Jc1<|Jt<|Jt ?_
 cases h
 have h:=aU
 refine Jb1 ?_
 cases h
 exact Jw1 _ ⟨aB,(e.1,e.2.1,e.2.2.1,e.2.2.2),O,Q,R,af.wk R,aM,aN,R⟩<|KM R
 refine JT λh=>Jx R<|Js<|Jp<|Jq<|Jv<|Jh3 [2,1,2,2,1,1] 1 R<|Ob h λf b5 h=>?_
 have aO:=aP.stp (ab.tr af)
 refine Js3 R call25 (iV (J:=λg=>mp [(6,2)] 0<|aB g) (p0:=(⟨p0.b,e.2.2.1,e.2.2.2⟩:dice)) (Jm2 aO (mp [(6,2)] 0) R R) (aN.map (mp [(6,2)] 0) R R) b5) ?_
 rintro _ cR ⟨cD,rfl,bm,bB⟩
 obtain⟨bd,ah,cf⟩:=Ji bm 7 R
 refine Tv<|Jn 1 R<|Jf R (Jj4 [vi (Dr .i64 (1+f.1)),.slice none 0 0,.slice none 0 0] R)<|Ju3 bd 10 R zeroValue67 R λV cS L M bD=>Tv<|Ji4 L 10 R Z67 R bD R λa2 N bE=>Tv<|Jd<|Jq<|Jf3 R<|Ob h λaY b2 bY=>?_
 clear h
 refine Jp3 [0,5,6,7] (λi j a=>∃b,∃c:Int×Int×VI×VI,∃C x y B,j=i/\Stp [9,10,11,12,15,18] L a2 b a/\Oc E6 2 b a 11 C x c.2.2.1/\Oc E6 2 b a 12 y B c.2.2.2/\Bc b a 9 v 65 [.slice t p0.b.length q,vi c.1,.int .u64 c.2.1]/\Bc b a 10 V 67 [vi (Dr .i64 (1+f.1)),.slice C c.2.2.1.length x,.slice y c.2.2.2.length B]/\aY=Dv c) ?_ ?_
 refine Jv<|Jq3 [0,5,6,7] (λk i j a=>∃b m,∃d:Int×Int×VI×VI,∃H I u s,j=(8,vi m)::i/\Stp [9,10,11,12,15,18] L a2 b a/\Oc E6 2 b a 11 H I d.2.2.1/\Oc E6 2 b a 12 u s d.2.2.2/\Bc b a 9 v 65 [.slice t p0.b.length q,vi d.1,.int .u64 d.2.1]/\Bc b a 10 V 67 [vi (Dr .i64 (1+f.1)),.slice H d.2.2.1.length I,.slice u d.2.2.2.length s]/\0<=m/\Dq (4-m)=k/\cntM (gV p0 f) k m d=some aY) ⟨_,_,⟨L,0,(f.2.1,f.2.2,([]:VI),([]:VI)),none,0,none,0,R,Jk3,Ow.nil,Ow.nil,((bB.mx cf R (R:7+2=9)).stp (M.tr N)),bE,(by decide),(by simp),b2⟩,(KM R)⟩ ?_
 rintro k _ cT ⟨aC,m,d,H,I,u,s,rfl,ai,ap,aq,aQ,ar,b0,aT,h⟩
 rcases k with _|k
 have W:=h;obtain⟨ch,h⟩:=exq W
 have D:=dcf aT
 refine Jq<|Jf3 R<|Jx2 R D<|Jc1<|Jt<|Jt ?_
 cases h
 have h:=W
 refine Jb1 ?_
 cases h
 exact Jw1 _ ⟨aC,(d.1,d.2.1,d.2.2.1,d.2.2.2),H,I,u,s,R,ai.wk R,ap,aq,aQ,ar,R⟩<|KM R
 obtain⟨ch,h,W⟩:=BI h;unfold gV at h
 have D:=dct aT
 refine Jq<|Jf3 R<|Jw2 R D<|Js<|Jp<|Jq<|Jv<|Jq<|Jh3 [2,1,2] 1 R<|Ob h λax b6 h=>?_
 have aR:=aO.stp (T4 ah M N ai)
 refine Js3 R call25 (iV (J:=λg=>mp [(9,2)] 0<|aC g) (p0:=(⟨p0.b,d.1,d.2.1⟩:dice)) (Jm2 aR (mp [(9,2)] 0) R R) (aQ.map (mp [(9,2)] 0) R R) b6) ?_
 rintro _ cn ⟨cE,rfl,bn,bJ⟩
 obtain⟨aa,n,cg⟩:=Ji bn 13 R
 refine Tv<|Jb 1 R<|Ob h λK h bZ=>Jp3 [0,5,6,7,8] (λi j a=>∃b z A,j=i/\Stp [10,11] aa cn b a/\Oc E6 2 b a 11 z A K/\Bc b a 10 V 67 [vi (Dr .i64 (1+f.1)),.slice z K.length A,.slice u d.2.2.2.length s]) ?_ ?_
 revert h
 cases cB:(ax.1==0)
 refine JF λh=>Jy R<|Js ?_
 cases h
 exact Jw1 _ ⟨aa,H,I,R,Jk3,(ap.stp n),(ar.stp n)⟩<|KM R
 refine JT λh=>Jx R<|Ja [2,1,2,1,1,2,1] R<|Je3 R U67 R Z37 ?_
 have aS:=ar.stp n
 refine Jc3 R I37 (aS.ld 1 R R)<|Jn 1 R<|Je4 aa 16 [m] R Y37 bS R λcv cu cV bf aj bL=>Tv<|Ob h λa4 b7 h=>Jz3 bf E6 11 [] R Y37 bS R (ap.stp<|n.tr aj) (Du (cc _) bL.rdc) bV b7 R λan am cW aD aJ bM=>Tv<|Je3 R U67 R Z37<|Jv3 aD 10 (off:=1) (vc:=[.slice an a4.length am]) (cs':=[vi (Dr .i64 (1+f.1)),.slice an a4.length am,.slice u d.2.2.2.length s]) R Z37 R (aS.stp<|aj.tr aJ) R λcX aK bN=>Tv<|Jo ?_
 cases h
 exact Jw1 _ ⟨aD,an,am,R,(T3 aj aJ aK).wk R,(bM.stp aK),bN⟩<|KM R
 rintro _ cU ⟨be,z,A,rfl,G,bK,au⟩
 have h:=bZ
 refine Jp<|Jh3 [2,1,2,2,2,1,2,2,2,1,2,2,2,2,1,2,2,2] 1 R<|Ob h λay b8 h=>Js3 R call25 (iV (J:=λg=>mp [(15,2)] 0<|be g) (p0:=(⟨p0.b,ax.2.1,ax.2.2⟩:dice)) (Jm2 (aR.stp<|n.tr G) (mp [(15,2)] 0) R R) (((bJ.mx cg R (R:13+2=15)).stp G).map (mp [(15,2)] 0) R R) b8) ?_
 rintro _ a1 ⟨cC,rfl,bl,bq⟩
 obtain⟨az,o,cb⟩:=Ji bl 16 R
 refine Tv<|Jn 2 R<|Ob h λaW h bR=>Jg4 [0,5,6,7,8] 52 aW az a1 [(4,2),(5,1),(6,2),(7,2),(8,2),(9,1),(10,2),(11,2),(12,2),(13,2),(14,1),(15,2),(16,2),(17,2)] [] tv ?_ ?_
 revert h
 cases cw:(ay.1==0)
 refine JF λh=>Jn 1 R<|Ja4 R<|Jn 3 R<|Ja4 R<|Jn 4 R<|Ja4 R<|Jn 3 R ?_
 cases h
 exact Jh4 tv R
 refine JT λh=>Je3 R U67 R Z2 ?_
 have ao:=au.stp o
 refine Jc3 R I2 (ao.ld 0 R R)<|Jn 2 R<|Ob h λaV h bT=>Jg4 [0,5,6,7,8,38,39,40,41,42] 46 aV az a1 [(8,2),(9,1),(10,2),(11,2)] [(12,2),(13,2),(14,1),(15,2),(16,2),(17,2)] tv ?_ ?_
 revert h
 cases cx:((Dr .i64 (1+f.1))==2)
 refine JF λh=>Je3 R U67 R Z2<|Jc3 R I2 (ao.ld 0 R R)<|Jn 2 R ?_
 cases h
 exact Jh4 tv R
 refine JT λh=>Jn 1 R<|Ja4 R<|Jn 2 R ?_
 cases h
 exact Jh4 tv R
 rintro _ cl _ ⟨rfl,a6,aE⟩
 have h:=bT
 refine Jn 1 R<|Ob h λci h bU=>Jg4 [0,5,6,7,8,38,39,40,41,42,46,47] 51 ci a6 cl [(13,2),(14,1),(15,2),(16,2)] [(17,2)] tv ?_ ?_
 revert h
 cases cy:aV
 refine JF λh=>Je3 R U67 R Z2<|Jc3 R I2 ((ao.stp aE).ld 0 R R)<|Jn 2 R ?_
 cases h
 exact Jh4 tv R
 refine JT λh=>Jn 1 R<|Ja4 R<|Jn 2 R ?_
 cases h
 exact Jh4 tv R
 rintro _ cI _ ⟨rfl,cp,bg⟩
 have h:=bU
 refine Jn 1 R ?_
 cases h
 exact Jv1 _ tv ⟨R,_,(aE.tr bg).wk R⟩<|KM R
 rintro _ cm _ ⟨rfl,Z,p⟩
 have h:=bR
 refine Jd<|Ob h λav h bW=>Jp3 [0,5,6,7,8] (λi j a=>∃b S P,j=i/\Stp [10,12] Z cm b a/\Oc E6 2 b a 12 S P av/\Bc b a 10 V 67 [vi (Dr .i64 (1+f.1)),.slice z K.length A,.slice S av.length P]) ?_ ?_
 revert h
 cases cz:aW
 refine JF λh=>Jy R<|Js ?_
 cases h
 exact Jw1 _ ⟨Z,u,s,R,Jk3,(aq.stp<|T4 n G o p),(au.stp<|o.tr p)⟩<|KM R
 refine JT λh=>Jx R<|Ja [2,1,2,1,1,2,1] R<|Je3 R U67 R Z37 ?_
 have aL:=au.stp (o.tr p)
 refine Jc3 R I37 (aL.ld 2 R R)<|Jn 1 R<|Je4 Z 19 [m] R Y37 bS R λcr ct cK a8 ad bt=>Tv<|Ob h λa5 b9 h=>Jz3 a8 E6 12 [] R Y37 bS R (aq.stp<|T5 n G o p ad) (Du (cc _) bt.rdc) bV b9 R λak al cL aA aF bu=>Tv<|Je3 R U67 R Z37<|Jv3 aA 10 (off:=2) (vc:=[.slice ak a5.length al]) (cs':=[vi (Dr .i64 (1+f.1)),.slice z K.length A,.slice ak a5.length al]) R Z37 R (aL.stp<|ad.tr aF) R λcM aG bv=>Tv<|Jo ?_
 cases h
 exact Jw1 _ ⟨aA,ak,al,R,(T3 ad aF aG).wk R,(bu.stp aG),bv⟩<|KM R
 rintro _ cJ ⟨a7,S,P,rfl,ac,br,bs⟩
 have h:=bW
 refine Jz<|Jp<|Jg3 R ?_
 have b3:Dr .i64 (m+1)=m+1:=wr1 b0 (Jn2 D) (by decide)
 rw[b3]
 have D:=Jn2 D
 cases h
 exact Ja2 ⟨(λg=>ren [(18,9)]<|a7 g),m+1,(ay.2.1,ay.2.2,K,av),z,A,S,P,R,(Jz2 ((T6 ai n G o p ac).wk R) [(18,9)] R),((bK.stp<|T3 o p ac).map (ren [(18,9)]) R R),(br.map (ren [(18,9)]) R R),(((bq.mx cb R (R:16+2=18)).stp (p.tr ac)).map (ren [(18,9)]) R R),(bs.map (ren [(18,9)]) R R),by omega,by omega,W⟩ R
 rintro _ X ⟨F,c,C,x,y,B,rfl,aI,bF,bG,bH,bI,rfl⟩
 have h:=yI bY
 refine Jp<|Ji3 [2,1,1,1,2] 1 R<|Jc4 tv R (Jd4 (haE bI.cells) I67 Z67 R)<|Jx3 F Clause.ep67 13 [11,12] (parts:=[(0,.tmp 60)]) (cells:=[vi (Dr .i64 (1+f.1)),.slice C c.2.2.1.length x,.slice y c.2.2.2.length B]) (xs:=([(⟨(Dr .i64 (1+f.1)),c.2.2.1,c.2.2.2⟩:Clause)]:VC)) R underlying29 ph R (Jf4 ⟨[vi<|Dr .i64 (1+f.1)],[.slice C c.2.2.1.length x,.slice y c.2.2.2.length B],Zl F X [],Zl F X [11,12],R,Zl.sp (l1:=[]) (l2:=[11,12]) R,Zl.sr (l1:=[]) (l2:=[11,12]),R,⟨[.slice C c.2.2.1.length x],[.slice y c.2.2.2.length B],Zl F X [11],Zl F X [12],R,Zl.sp (l1:=[11]) (l2:=[12]) R,Zl.sr (l1:=[11]) (l2:=[12]),⟨_,_,R,bF⟩,⟨_,_,R,bG⟩⟩⟩) λcs cq cN a9 ae bw=>Tv<|Ob h λco ca h=>Jz3 a9 Clause.ep67 3 [13] R underlying29 ph R (aM.stp<|T5 ah M N aI ae) bw.src (c9 R) ca R λbj bk cO ba aH bx=>Tv<|Jc 1 R<|Jz<|Jp<|Jg3 R ?_
 cases h
 exact Ja2 ⟨(λg=>ren [(9,6)]<|ba g),(co,((Dr .i64<|e.2.1-1):Int),c.1,c.2.1),bj,bk,R,(Jz2 ((T7 af ah M N aI ae aH).wk R) [(9,6)] R),(bx.map (ren [(9,6)]) R R),((bH.stp<|ae.tr aH).map (ren [(9,6)]) R R),aU⟩ R
 rintro _ cP ⟨bc,E,T,U,rfl,bh,bz,bA,rfl⟩
 have h:=yI bX
 refine Jp<|Jf3 R<|Ju<|Jb2 (l:=[.tmp 4]) results18 (Jq2 R R) R ?_
 cases h
 exact⟨(λg=>ren [(6,2)]<|bc g),T,U,R,((bQ.stp<|T3 ag ab bh).map (ren [(6,2)]) R R),(bz.map (ren [(6,2)]) R R),(bA.map (ren [(6,2)]) R R)⟩
theorem mQ {aT aY ay ar aW aS aU aV}{p0:solver}{p1:Int}{aQ bA}{p2:VB}{aR bB}{aI:VB}{a0}(a6:Rd Ri J w 0 aT aY p0.game.Arena.Owner) (a7:Rd Rs J w 0 ay ar p0.game.Arena.Next) (de:Rd Ri J w 0 aW aS p0.game.Prio) (a8:Rd Rs J w 0 aU aV p0.preds) (aj:Rd Rp.bool J w 0 aQ bA p2) (cs:Rd Rp.bool J w 0 aR bB aI) (ct:Bc J w 0 a0 193 [.slice aT p0.game.Arena.Owner.length aY,.slice ay p0.game.Arena.Next.length ar,.slice aW p0.game.Prio.length aS,.slice aU p0.preds.length aV]){r:VB}(h:gk p0 p1 p2 aI=some r):Ret prog 244 [.pointer (some ⟨a0,0,none⟩),vi p1,.slice aQ p2.length bA,.slice aR aI.length bB] w (Pvs Do 4 J w r):=by
 unfold gk at h
 refine Jl3 J func244 R ntmps244 R λcu=>Jf3 R<|Je [1,2,1,2] R<|Jy3 J Do 2 R Y178 da R λc7 c8 dt bQ t cn=>Tv<|Jn 1 R<|Ob h λF cP h=>?_
 have a4:=cs.stp t
 refine Jz3 bQ Do 2 [] R Y178 da R cn (Du uH a4) bV cP R λS Q dH bU v cr=>Tv<|Jb 1 R<|Jh3 [2,2,1,2] 1 R<|Jo3 R U178 R R<|Ob h λo cQ h=>Jl1 (J:=bU) (E:=E6) (z:=(0:Int)) 3 R R R R R R R underlying266 ym R R R R R (λ_ _ _=>R) (Jv2 cQ) λx y du bH p ce=>Tv<|Jb 1 R<|Jh3 [2,1,2] 1 R<|Ob h λc0 cR h=>Js3 R call179 (ji (J:=Mk bH) (Jj3<|a4.stp<|v.tr p) cR) ?_
 rintro _ bC ⟨dp,b4,b7,rfl,b8,cl⟩
 obtain⟨ap,q,cT⟩:=Ji b8 4 R
 refine Tv<|Jb 1 R<|Jq<|Ob h λbv cL cw=>?_
 clear h
 refine Jp3 [0,9] (λc i a=>∃b,∃E:VI×VB×VI,∃aX aZ,i=c/\Stp [2,3,6] ap bC b a/\Oc E6 2 b a 6 aX aZ E.1/\Oc Do 4 b a 2 S Q E.2.1/\F.length=E.2.1.length/\Oc E6 3 b a 3 x y E.2.2/\o.length=E.2.2.length/\bv=Dv E) ?_ ?_
 refine Jv<|Jq3 [0,1,2,9,10] (λg c i a=>∃b,∃k:VI×VB×VI,∃P I,i=(11,.slice P k.1.length I)::c/\Stp [2,3,6] ap bC b a/\Oc E6 2 b a 6 P I k.1/\Oc Do 4 b a 2 S Q k.2.1/\F.length=k.2.1.length/\Oc E6 3 b a 3 x y k.2.2/\o.length=k.2.2.length/\cd (fk p0 p1 p2) g k=some bv) ⟨_,_,⟨ap,(c0,F,o),b4,b7,R,Jk3,(cl.mx (bZ _) cT R (R:4+2=6)),(cr.stp<|p.tr q),R,(ce.stp q),R,cL⟩,(KM R)⟩ ?_
 rintro g _ bD ⟨ab,k,P,I,rfl,u,T,a1,bc,a2,bd,h⟩
 rcases g with _|g
 cases h
 obtain⟨dq,h,bb⟩:=BI h;unfold fk at h
 refine Jq<|Jh3 [2,2,2] 1 R<|Jo3 R U37 R R<|Jb 1 R ?_
 revert h
 cases dj:decide (0<(k.1.length:Int))
 refine JF λh=>Jy R<|Jc1<|Jt<|Jt ?_
 cases h
 have h:=bb
 refine Jb1 ?_
 cases h
 exact Jw1 _ ⟨ab,(k.1,k.2.1,k.2.2),P,I,R,u.wk R,T,a1,bc,a2,bd,R⟩<|KM R
 refine JT λh=>Jx R<|Js<|Jp<|Jv<|Jh3 [2,2,1,2] 1 R<|Ob h λdK bf h=>Jd3 R T.rdc bf U37 Z2<|Jc3 R I2 (T.rdc.gInt bf)<|Jb 1 R<|Jh3 [2,2,2] 1 R<|Ob h λc1 bg h=>Jf R (ob (k1:= .i64) (k2:= .i64) U37 Z2 (.inr ⟨_,R,R⟩) (.inl ⟨R,R⟩) bg T.rdc.1 R R R)<|Jb 1 R<|Jh3 [2,2,2,1,2,2,1,2,2] 1 R<|Jf R (bX R R)<|Je3 R U193 R Z31 ?_
 have a3:=ct.stp (T5 t v p q u)
 refine Jc3 R I31 (a3.ld 3 R R)<|Jn 1 R<|Ob h λbE bh h=>Jd3 R a8 bh U31 Z37 ?_
 obtain⟨c9,dr,aA,cB⟩:=(a8.stp (T5 t v p q u)).gSl bh
 refine Jc3 R I37 cB<|Jo3 R U37 R R<|Jb 1 R ?_
 have al:=aA.len_le
 refine Ob h λbw cM cx=>?_
 clear h
 refine Jp3 [0,1,2,9,10] (λc i a=>∃b,∃n:VI×VB×VI,∃ag af,i=(11,.slice ag n.1.length af)::c/\Stp [2,3,6] ab bD b a/\Oc E6 2 b a 6 ag af n.1/\Oc Do 4 b a 2 S Q n.2.1/\F.length=n.2.1.length/\Oc E6 3 b a 3 x y n.2.2/\o.length=n.2.2.length/\bw=Dv n) ?_ ?_
 refine Jv<|Jq3 [0,1,2,9,10,39,40] (λg c i a=>∃b f,∃e:VI×VB×VI,∃K L,i=(11,.slice K e.1.length L)::(41,vi f)::c/\Stp [2,3,6] ab bD b a/\Oc E6 2 b a 6 K L e.1/\Oc Do 4 b a 2 S Q e.2.1/\F.length=e.2.1.length/\Oc E6 3 b a 3 x y e.2.2/\o.length=e.2.2.length/\0<=f/\Dq ((bE.length:Int)-f)=g/\cntM (ef p0 p1 p2 bE) g f e=some bw) ⟨_,_,⟨ab,0,(c1,k.2.1,k.2.2),(subA P I (1:Int).toNat 1),(I-(1:Int).toNat),R,Jk3,(T.sub bg),a1,bc,a2,bd,(by decide),(by simp),cM⟩,(KM R)⟩ ?_
 rintro g _ cX ⟨aP,f,e,K,L,rfl,m,U,s,A,V,N,am,a9,h⟩
 rcases g with _|g
 have C:=h;obtain⟨cU,h⟩:=exq C
 have j:=dcf a9
 refine Jf3 R<|Jq<|Jx2 R j<|Jc1<|Jt<|Jt ?_
 cases h
 have h:=C
 refine Jb1 ?_
 cases h
 exact Jw1 _ ⟨aP,(e.1,e.2.1,e.2.2),K,L,R,m.wk R,U,s,A,V,N,R⟩<|KM R
 obtain⟨cU,h,C⟩:=BI h;unfold ef at h
 have j:=dct a9
 refine Jf3 R<|Jq<|Jw2 R j<|Js<|Jp<|Jq<|Jv<|Je [2,1,2] R<|Ob h λaM bi h=>Jd3 R aA bi U37 Z2<|Jc3 R I2 ((aA.stp m).gInt bi)<|Jb 1 R<|Jq<|Jh3 [2,2,2,1,2,2,2,2,1,2,2] 2 R<|Ob h λc2 bj h=>Jf R (Jg2 s.rdc bj U178 Z4 R R A R)<|Jc3 R I4 (s.rdc.gBool bj)<|Jn 1 R<|Ob h λbu h cy=>Jg4 [0,1,2,9,10,11,14,39,40,41] 55 bu aP cX [(5,2),(6,2),(7,2),(8,1),(9,2),(10,2)] [] tv ?_ ?_
 revert h
 cases dk:c2
 refine JF λh=>Jn 2 R<|Ob h λdL bk h=>Jd3 R aj bk U178 Z4<|Jc3 R I4 ((aj.stp<|T6 t v p q u m).gBool bk)<|Jn 2 R ?_
 cases h
 exact Jh4 tv R
 refine JT λh=>Jn 3 R<|Ja4 R<|Jn 2 R ?_
 cases h
 exact Jh4 tv R
 rintro _ aK _ ⟨rfl,B,d⟩
 have h:=cy
 refine Jd ?_
 revert h
 cases dl:bu
 refine JF λh=>Jy R<|Js<|Jp<|Jq<|Jh3 [2,2,2,2,2,1,2,2,1,2,2] 1 R<|Jf R (bX R R)<|Je3 R U193 R Z79<|Je3 R U79 R Z75<|Je3 R U75 R Z37 ?_
 have a5:=a3.stp (m.tr d)
 refine Jc3 R I37 (a5.ld 0 R R)<|Jn 1 R<|Ob h λc3 bl h=>Jd3 R a6 bl U37 Z2<|Jc3 R I2 ((a6.stp<|T7 t v p q u m d).gInt bl)<|Jb 2 R ?_
 revert h
 cases dm:(c3 !=p1)
 refine JF λh=>Jy R<|Js<|Jp<|Jh3 [2,2,2,1] 2 R<|Ob h λcZ aG h=>Jf R (Jg2 s.rdc aG U178 Z4 R R A R)<|Ob h λZ X h=>Jk1 (J:=B) (E:=Do) 2 [] R R R R R R R R Z4 R R R R (s.stp d) X λdC bN av ci=>Tv<|?_
 have cH:F.length=Z.length:=A.trans (Ju2 X).2.2.2.symm
 refine Jd<|Ji3 [2,2,1,1,2] 2 R<|Je4 bN 7 [aM] R Y37 bS R λb5 b6 dD bO ae cj=>Tv<|Ob h λaL aH h=>Jz3 bO E6 6 [] R Y37 bS R (U.stp<|T3 d av ae) (Du (cc _) cj.rdc) bV aH R λax az dE bP aw ck=>Tv<|Jc 1 R<|Jz<|Jp<|Jg3 R ?_
 have D:Dr .i64 (f+1)=f+1:=wr1 am (Jn2 j) al
 rw[D]
 have j:=Jn2 j
 cases h
 exact Ja2 ⟨bP,f+1,(aL,Z,e.2.2),ax,az,R,(T5 m d av ae aw).wk R,ck,(ci.stp<|ae.tr aw),cH,(V.stp<|T4 d av ae aw),N,by omega,by omega,C⟩ R
 refine JT λh=>Jx R<|Jq<|Jh3 [2,2,2,1,2] 2 R<|Ob h λc4 bm h=>Jf R (Jg2 V.rdc bm U266 Z3 R R N R) ?_
 have aB:=V.stp d
 refine Jc3 R I3 (aB.rdc.gInt bm)<|Jb 1 R<|Ob h λbx h cz=>Jp3 [0,1,2,9,10,11,14,39,40,41] (λc i a=>∃b,i=c/\Stp [3] B aK b a/\Oc E6 3 b a 3 x y bx/\o.length=bx.length) ?_ ?_
 revert h
 cases dn:(c4==0)
 refine JF λh=>Jy R<|Js ?_
 cases h
 exact Jw1 _ ⟨B,R,Jk3,aB,N⟩<|KM R
 refine JT λh=>Jx R<|Jh3 [2,2,2,2,2,1,2,2,1,2,2] 1 R<|Jf R (bX R R)<|Je3 R U193 R Z79<|Je3 R U79 R Z75<|Je3 R U75 R Z31<|Jc3 R I31 (a5.ld 1 R R)<|Jn 1 R<|Ob h λbF bn h=>Jd3 R a7 bn U31 Z37 ?_
 obtain⟨db,ds,aC,cC⟩:=(a7.stp (T7 t v p q u m d)).gSl bn
 refine Jc3 R I37 cC<|Jo3 R U37 R R<|Jb 1 R<|Ob h λbz cN cA=>?_
 clear h
 refine Jp3 [0,1,2,9,10,11,14,39,40,41] (λc i a=>∃b,∃ao:VI,i=c/\Stp [3] B aK b a/\Oc E6 3 b a 3 x y ao/\o.length=ao.length/\bz=Dv ao) ?_ ?_
 refine Jv<|Jq3 [0,1,2,9,10,11,14,39,40,41,80,81] (λg c i a=>∃b O,∃Y:VI,i=(82,vi O)::c/\Stp [3] B aK b a/\Oc E6 3 b a 3 x y Y/\o.length=Y.length/\0<=O/\Dq ((bF.length:Int)-O)=g/\cntM (di p2 aM bF) g O Y=some bz) ⟨_,_,⟨B,0,e.2.2,R,Jk3,aB,N,(by decide),(by simp),cN⟩,(KM R)⟩ ?_
 rintro g _ cW ⟨aa,O,Y,rfl,ac,M,W,ba,ak,h⟩
 rcases g with _|g
 have an:=h;obtain⟨cV,h⟩:=exq an
 have aD:=dcf ak
 refine Jf3 R<|Jq<|Jx2 R aD<|Jc1<|Jt<|Jt ?_
 cases h
 have h:=an
 refine Jb1 ?_
 cases h
 exact Jw1 _ ⟨aa,Y,R,ac.wk R,M,W,R⟩<|KM R
 obtain⟨cV,h,an⟩:=BI h;unfold di at h
 have aD:=dct ak
 refine Jf3 R<|Jq<|Jw2 R aD<|Js<|Jp<|Jq<|Jv<|Je [2,1,2] R<|Ob h λdM bo h=>Jd3 R aC bo U37 Z2<|Jc3 R I2 ((aC.stp ac).gInt bo)<|Jb 1 R<|Jh3 [2,2,2,1] 2 R<|Ob h λc5 bp h=>Jd3 R aj bp U178 Z4<|Jc3 R I4 ((aj.stp<|T8 t v p q u m d ac).gBool bp)<|Jd<|Ob h λaJ h cv=>Jp3 [0,1,2,9,10,11,14,39,40,41,80,81,82] (λc i a=>∃b,i=c/\Stp [3] aa cW b a/\Oc E6 3 b a 3 x y aJ/\o.length=aJ.length) ?_ ?_
 revert h
 cases dg:c5
 refine JF λh=>Jy R<|Js ?_
 cases h
 exact Jw1 _ ⟨aa,R,Jk3,M,W⟩<|KM R
 refine JT λh=>Jx R<|Ji3 [2,2,2,1,2,2,1] 2 R<|Ob h λdN bq h=>Jf R (Jg2 M.rdc bq U266 Z3 R R W R)<|Jc3 R I3 (M.rdc.gInt bq)<|Jn 1 R<|Ob h λdO cS h=>Jf R (Jg2 M.rdc cS U266 Z3 R R W R)<|Ob h λc6 bs h=>Jk1 (J:=aa) (E:=E6) 3 [] R R R R R R R R Z3 R R R R M bs λdx bJ b1 cb=>Tv<|?_
 have cF:o.length=c6.length:=W.trans (Ju2 bs).2.2.2.symm
 refine Jo ?_
 cases h
 exact Jw1 _ ⟨bJ,R,b1.wk R,cb,cF⟩<|KM R
 rintro _ dw ⟨bI,rfl,b0,ca,cE⟩
 have h:=cv
 refine Jz<|Jp<|Jg3 R<|wr2 ba ak aC.len_le ▸ ?_
 cases h
 exact Ja2 ⟨bI,O+1,aJ,R,(ac.tr b0).wk R,ca,cE,nxz ba,nxm ak,an⟩ R
 rintro _ dv ⟨bG,ao,rfl,bY,b9,cD,rfl⟩
 have h:=yI cA
 cases h
 exact Jw1 _ ⟨bG,R,bY.wk R,b9,cD⟩<|KM R
 rintro _ dI ⟨bW,rfl,H,ai,aF⟩
 have h:=cz
 refine Jp<|Jh3 [2,2,2,1,2,2,1] 2 R<|Ob h λdP br h=>Jf R (Jg2 ai.rdc br U266 Z3 R R aF R)<|Jc3 R I3 (ai.rdc.gInt br)<|Jn 1 R<|Ob h λdJ cO h=>Jf R (Jg2 ai.rdc cO U266 Z3 R R aF R)<|Ob h λaN bt h=>Jk1 (J:=bW) (E:=E6) 3 [] R R R R R R R R Z3 R R R R ai bt λdy aO G ah=>Tv<|?_
 have aE:o.length=aN.length:=aF.trans (Ju2 bt).2.2.2.symm
 refine Jd<|Jh3 [2,2,2,1,2] 2 R<|Ob h λcY be h=>Jf R (Jg2 ah.rdc be U266 Z3 R R aE R)<|Jc3 R I3 (ah.rdc.gInt be)<|Jb 1 R ?_
 revert h
 cases dh:decide (0<cY)
 refine JF λh=>Jy R<|Js<|Jp<|Jh3 [2,2,2,1] 2 R<|Ob h λcZ aG h=>Jf R (Jg2 s.rdc aG U178 Z4 R R A R)<|Ob h λZ X h=>Jk1 (J:=aO) (E:=Do) 2 [] R R R R R R R R Z4 R R R R (s.stp<|T3 d H G) X λdz bK aq cf=>Tv<|?_
 have cG:F.length=Z.length:=A.trans (Ju2 X).2.2.2.symm
 refine Jd<|Ji3 [2,2,1,1,2] 2 R<|Je4 bK 7 [aM] R Y37 bS R λb5 b6 dA bL ad cg=>Tv<|Ob h λaL aH h=>Jz3 bL E6 6 [] R Y37 bS R (U.stp<|T5 d H G aq ad) (Du (cc _) cg.rdc) bV aH R λax az dB bM au ch=>Tv<|Jc 1 R<|Jz<|Jp<|Jg3 R ?_
 have D:Dr .i64 (f+1)=f+1:=wr1 am (Jn2 j) al
 rw[D]
 have j:=Jn2 j
 cases h
 exact Ja2 ⟨bM,f+1,(aL,Z,aN),ax,az,R,(T7 m d H G aq ad au).wk R,ch,(cf.stp<|ad.tr au),cG,(ah.stp<|T3 aq ad au),aE,by omega,by omega,C⟩ R
 refine JT λh=>Jx R<|Jc1<|Jt<|Jb1<|Jp<|Jg3 R ?_
 have D:Dr .i64 (f+1)=f+1:=wr1 am (Jn2 j) al
 rw[D]
 have j:=Jn2 j
 cases h
 exact Ja2 ⟨aO,f+1,(e.1,e.2.1,aN),K,L,R,(T4 m d H G).wk R,(U.stp<|T3 d H G),(s.stp<|T3 d H G),A,ah,aE,by omega,by omega,C⟩ R
 refine JT λh=>Jx R<|Jc1<|Jt<|Jb1<|Jp<|Jg3 R ?_
 have D:Dr .i64 (f+1)=f+1:=wr1 am (Jn2 j) al
 rw[D]
 have j:=Jn2 j
 cases h
 exact Ja2 ⟨B,f+1,(e.1,e.2.1,e.2.2),K,L,R,(m.tr d).wk R,(U.stp d),(s.stp d),A,(V.stp d),N,by omega,by omega,C⟩ R
 rintro _ dG ⟨bT,n,ag,af,rfl,b3,co,cp,cJ,cq,cK,rfl⟩
 have h:=yI cx
 refine Jz ?_
 cases h
 exact Ja2 ⟨bT,(n.1,n.2.1,n.2.2),ag,af,R,(u.tr b3).wk R,co,cp,cJ,cq,cK,bb⟩ R
 rintro _ dF ⟨bR,E,aX,aZ,rfl,b2,dc,cm,cI,dd,df,rfl⟩
 have h:=yI cw
 refine Jp<|Jf3 R<|Ju<|Jb2 (l:=[.tmp 8]) results244 (Jq2 R R) R ?_
 cases h
 exact⟨bR,S,Q,(by simp only[cI]),(cu.stp<|T5 t v p q b2),cm⟩
theorem ui {E C D F}{p0:Arena}(I:Rd Ri J w 0 E C p0.Owner) (s:Rd Rs J w 0 D F p0.Next){r:Bool}(h:kZ p0=some r):Ret prog 182 [.agg #[.slice E p0.Owner.length C,.slice D p0.Next.length F]] w (Pvb J w r):=by
 unfold kZ at h
 refine Jl3 J func182 R ntmps182 R λt=>Je [1,2] R<|Jt3 J 2 R λaD au Z e q=>Tv<|Jb 1 R<|Je [2,1,2,2] R<|Je3 R U75 R Z37<|Jc3 R I37 (q.ld 0 R R)<|Jo3 R U37 R R<|Jb 1 R<|Jq<|Jh3 [2,2,2,2,2,2,2,2,1,2,2,2,2] 3 R<|Ob h λP h an=>Jg4 [1,3] 14 P Z au [(3,2),(4,2),(5,2)] [(6,2),(7,2),(8,1),(9,2),(10,2),(11,2),(12,2)] tv ?_ ?_
 revert h
 cases aK:decide ((p0.Owner.length:Int)<1)
 refine JF λh=>Jn 3 R ?_
 cases h
 exact Jh4 tv R
 refine JT λh=>Jn 3 R ?_
 cases h
 exact Jh4 tv R
 rintro _ az _ ⟨rfl,ad,a⟩
 have h:=an
 refine Jn 1 R<|Ob h λQ h ai=>Jg4 [1,3] 21 Q ad az [(7,2),(8,1),(9,2),(10,2),(11,2),(12,2)] [] tv ?_ ?_
 revert h
 cases aE:P
 refine JF λh=>Je3 R U75 R Z31<|Jc3 R I31 ((q.stp a).ld 1 R R)<|Jo3 R U31 R R<|Jn 3 R ?_
 cases h
 exact Jh4 tv R
 refine JT λh=>Jn 1 R<|Ja4 R<|Jn 4 R ?_
 cases h
 exact Jh4 tv R
 rintro _ X _ ⟨rfl,i,b⟩
 have h:=ai
 refine Jd ?_
 revert h
 cases aF:Q
 refine JF λh=>Jy R<|Js<|Jp<|Jq<|Je [2,1,2,2] R<|Je3 R U75 R Z31 ?_
 have G:=q.stp (a.tr b)
 refine Jc3 R I31 (G.ld 1 R R)<|Jo3 R U31 R R<|Jb 1 R<|Ob h λW ap K=>?_
 clear h
 refine Jx1 (λk v=>∃x,k=[]/\Stp [] i X x v/\W=Dv ()) ?_ ?_
 refine Jv<|Jq3 [1,3,23,24] (λg Y k v=>∃x d,k=(25,vi d)::Y/\Stp [] i X x v/\0<=d/\Dq ((p0.Next.length:Int)-d)=g/\cntM (jp p0) g d ()=some W) ⟨_,_,⟨i,0,R,Jk3,(by decide),(by simp),ap⟩,(KM R)⟩ ?_
 rintro g _ av ⟨y,d,rfl,c,L,j,h⟩
 rcases g with _|g
 have f:=h;obtain⟨ar,h⟩:=exq f
 have u:=dcf j
 refine Jf3 R<|Jq<|Jx2 R u<|Jc1<|Jt<|Jt ?_
 cases h
 have h:=f
 refine Jb1 ?_
 cases h
 exact Jw1 _ ⟨y,R,c.wk R,R⟩ KN
 obtain⟨ar,h,f⟩:=BI h;unfold jp at h
 have u:=dct j
 refine Jf3 R<|Jq<|Jw2 R u<|Js<|Jp<|Jq<|Jv<|Jh3 [2,2,1,2,2] 1 R<|Ob h λaS M h=>Jd3 R s M U31 Z37 ?_
 obtain⟨aC,aO,ah,ao⟩:=(s.stp (T4 e a b c)).gSl M
 refine Jc3 R I37 ao<|Jb 2 R<|Je [2,1,2,2,1,2,2,2,1,2,2,1,2,2,2,2,2,2,2,2,2,2,2,2,2,2,2,1,2,2] R<|Je3 R U75 R Z37 ?_
 have H:=G.stp c
 refine Jc3 R I37 (H.ld 0 R R)<|Jn 1 R<|Ob h λaA N h=>Jd3 R I N U37 Z2 ?_
 have p:=I.stp (T4 e a b c)
 refine Jc3 R I2 (p.gInt N)<|Jn 2 R<|Ob h λS h aj=>Jg4 [1,3,5,23,24,25] 43 S y av [(7,2),(8,1),(9,2),(10,2),(11,1),(12,2),(13,2)] [(14,2),(15,2),(16,2),(17,2),(18,2),(19,2),(20,2),(21,2),(22,2),(23,2),(24,2),(25,2),(26,2),(27,1),(28,2),(29,2)] tv ?_ ?_
 revert h
 cases aG:decide (aA<0)
 refine JF λh=>Je3 R U75 R Z37<|Jc3 R I37 (H.ld 0 R R)<|Jn 1 R<|Ob h λaT O h=>Jd3 R p O U37 Z2<|Jc3 R I2 (p.gInt O)<|Jn 2 R ?_
 cases h
 exact Jh4 tv R
 refine JT λh=>Jn 1 R<|Ja4 R<|Jn 2 R<|Ja4 R<|Jn 2 R ?_
 cases h
 exact Jh4 tv R
 rintro _ aw _ ⟨rfl,ab,m⟩
 have h:=aj
 refine Jn 1 R<|Ob h λT h ak=>Jg4 [1,3,5,23,24,25] 48 T ab aw [(15,2),(16,2),(17,2),(18,2)] [(19,2),(20,2),(21,2),(22,2),(23,2),(24,2),(25,2),(26,2),(27,1),(28,2),(29,2)] tv ?_ ?_
 revert h
 cases aH:S
 refine JF λh=>Jn 1 R<|Jo3 R U37 R R<|Jn 2 R ?_
 cases h
 exact Jh4 tv R
 refine JT λh=>Jn 4 R ?_
 cases h
 exact Jh4 tv R
 rintro _ ax _ ⟨rfl,ac,n⟩
 have h:=ak
 refine Jn 1 R<|Ob h λU h al=>Jg4 [1,3,5,23,24,25] 53 U ac ax [(20,2),(21,2),(22,2),(23,2)] [(24,2),(25,2),(26,2),(27,1),(28,2),(29,2)] tv ?_ ?_
 revert h
 cases aI:T
 refine JF λh=>Jn 1 R<|Jo3 R U37 R R<|Jn 2 R ?_
 cases h
 exact Jh4 tv R
 refine JT λh=>Jn 4 R ?_
 cases h
 exact Jh4 tv R
 rintro _ ay _ ⟨rfl,z,o⟩
 have h:=al
 refine Jn 1 R<|Ob h λV h am=>Jg4 [1,3,23,24,25] 59 V z ay [(25,2),(26,2),(27,1),(28,2),(29,2)] [] tv ?_ ?_
 revert h
 cases aJ:U
 refine JF λh=>Jn 2 R<|Ob h λaU aq h=>Js3 R call195 (lF (J:=Mk z) (Jj3<|ah.stp<|T3 m n o) aq) ?_
 rintro _ aQ ⟨aM,rfl,ag⟩
 obtain⟨aB,af,aN⟩:=Ji ag 3 R
 refine Tv<|Jn 2 R ?_
 cases h
 exact Jv1 _ tv ⟨R,_,af.wk R⟩<|KM R
 refine JT λh=>Jn 2 R<|Ja4 R<|Jn 2 R ?_
 cases h
 exact Jh4 tv R
 rintro _ aR _ ⟨rfl,A,B⟩
 have h:=am
 refine Jd ?_
 revert h
 cases aL:V
 refine JF λh=>Jy R<|Js<|Jz<|Jp<|Jg3 R<|wr2 L j s.len_le ▸ ?_
 cases h
 exact Ja2 ⟨A,d+1,R,(T5 c m n o B).wk R,nxz L,nxm j,f⟩ R
 refine JT λh=>Jx R<|Jf3 R<|Ju<|Ja1<|Jw<|Jw ?_
 cases h
 obtain rfl:=Ds f
 have h:=yL K
 refine Ja1<|Jr2<|Jw<|Jb2 (l:=[.tmp 2]) results182 (Jq2 R R) R ?_
 cases h
 exact⟨A,R,(t.stp<|T8 e a b c m n o B)⟩
 rintro _ aP ⟨aa,rfl,ae,rfl⟩
 have h:=yI K
 refine Jp<|Jf3 R<|Ju<|Jb2 (l:=[.tmp 2]) results182 (Jq2 R R) R ?_
 cases h
 exact⟨aa,R,(t.stp<|T4 e a b ae)⟩
 refine JT λh=>Jx R<|Jf3 R<|Ju<|Jw<|Jb2 (l:=[.tmp 2]) results182 (Jq2 R R) R ?_
 cases h
 exact⟨i,R,(t.stp<|T3 e a b)⟩
theorem jY {p0:Sig}  {r:Bool}(h:kg p0=some r):Ret prog 58 [.agg #[vi p0.In,vi p0.Out]] w (Pvb J w r):=by
 unfold kg at h
 refine Jl3 J func58 R ntmps58 R λm=>Je [1,2] R<|Jt3 J 2 R λv C d i c=>Tv<|Jb 1 R<|Je [2,1,1,2,2,1,1,2,2] R<|Je3 R U28 R Z2<|Jc3 R I2 (c.ld 0 R R)<|Ob h λt o h=>Js3 R C59 (dD (J:=Mk d) o) ?_
 rintro _ s ⟨z,rfl,k⟩
 obtain⟨a,b,A⟩:=Ji k 3 R
 refine Tv<|Jn 1 R<|Ob h λq h n=>Jg4 [2] 10 q a s [(4,2),(5,1),(6,1),(7,2)] [(8,2)] tv ?_ ?_
 revert h
 cases x:t
 refine JF λh=>Jn 1 R<|Ja4 R<|Ja4 R<|Jn 1 R ?_
 cases h
 exact Jh4 tv R
 refine JT λh=>Je3 R U28 R Z2<|Jc3 R I2 ((c.stp b).ld 1 R R)<|Ob h λF p h=>Js3 R C59 (dD (J:=Mk a) p) ?_
 rintro _ D ⟨y,rfl,j⟩
 obtain⟨u,f,B⟩:=Ji j 5 R
 refine Tv<|Jn 1 R ?_
 cases h
 exact Jv1 _ tv ⟨R,_,f.wk R⟩<|KM R
 rintro _ E _ ⟨rfl,e,g⟩
 have h:=n
 refine Jb 1 R<|Ju<|Jb2 (l:=[.tmp 2]) results58 (Jq2 R R) R ?_
 cases h
 exact⟨e,R,(m.stp<|T3 i b g)⟩
theorem mG {p x}{p0:VI}{p1:Int}(g:Rd Ri J w 0 p x p0){r:Bool}(h:ja p0 p1=some r):Ret prog 61 [.slice p p0.length x,vi p1] w (Pvb J w r):=by
 unfold ja at h
 refine Jl3 J func61 R ntmps61 R λq=>Jf3 R<|Jq<|Jf3 R<|Ob h λv C s=>?_
 clear h
 refine Jx1 (λf j=>∃k,f=[]/\Stp [] J w k j/\v=Dv ()) ?_ ?_
 refine Jv<|Jq3 [0,1] (λc y f j=>∃k a,f=(5,vi a)::y/\Stp [] J w k j/\0<=a/\Dq ((p0.length:Int)-a)=c/\cntM (iN p0 p1) c a ()=some v) ⟨_,_,⟨J,0,R,Jk3,(by decide),(by simp),C⟩,(KM R)⟩ ?_
 rintro c _ M ⟨n,a,rfl,d,t,e,h⟩
 rcases c with _|c
 have b:=h;obtain⟨E,h⟩:=exq b
 have i:=dcf e
 refine Jq<|Jh3 [2,2,2,2] 2 R<|Jo3 R U37 R R<|Jb 1 R<|Jx2 R i<|Jc1<|Jt<|Jt ?_
 cases h
 have h:=b
 refine Jb1 ?_
 cases h
 exact Jw1 _ ⟨n,R,d.wk R,R⟩ KN
 obtain⟨E,h,b⟩:=BI h;unfold iN at h
 have i:=dct e
 refine Jq<|Jh3 [2,2,2,2] 2 R<|Jo3 R U37 R R<|Jb 1 R<|Jw2 R i<|Js<|Jp<|Jq<|Jv<|Jh3 [2,2,2,1,2,2,1,2] 2 R<|Ob h λN u h=>Jd3 R g u U37 Z2<|Jc3 R I2 ((g.stp d).gInt u)<|Jn 2 R<|Ob h λF D h=>Js3 R C59 (dD (J:=Mk n) D) ?_
 rintro _ K ⟨H,rfl,B⟩
 obtain⟨m,o,I⟩:=Ji B 2 R
 refine Tv<|Jb 1 R ?_
 revert h
 cases G:(!F)
 refine JF λh=>Jy R<|Js<|Jz<|Jp<|Jg3 R<|wr2 t e g.len_le ▸ ?_
 cases h
 exact Ja2 ⟨m,a+1,R,(d.tr o).wk R,nxz t,nxm e,b⟩ R
 refine JT λh=>Jx R<|Jf3 R<|Ju<|Ja1<|Jw<|Jw ?_
 cases h
 obtain rfl:=Ds b
 have h:=yL s
 refine Ja1<|Jr2<|Jw<|Jb2 (l:=[.tmp 4]) results61 (Jq2 R R) R ?_
 cases h
 exact⟨m,R,(q.stp<|d.tr o)⟩
 rintro _ L ⟨z,rfl,A,rfl⟩
 have h:=yI s
 refine Jp<|Jf3 R<|Ju<|Jb2 (l:=[.tmp 4]) results61 (Jq2 R R) R ?_
 cases h
 exact⟨z,R,(q.stp A)⟩
theorem uQ {s C}{p0:VL}{p1:Int}{t D}{p2:VI}(k:Rd Place.rp J w 0 s C p0) (L:Rd Ri J w 0 t D p2){r:Int}(h:mW p0 p1 p2=some r):Ret prog 135 [.slice s p0.length C,vi p1,.slice t p2.length D] w (Pvi J w r):=by
 unfold mW at h
 refine Jl3 J func135 R ntmps135 R λu=>Jf3 R<|Jq<|Jf3 R<|Ob h λB P v=>?_
 clear h
 refine Jx1 (λi a=>∃o,i=[]/\Stp [] J w o a/\B=Dv ()) ?_ ?_
 refine Jv<|Jq3 [0,1,2] (λe E i a=>∃o b,i=(7,vi b)::E/\Stp [] J w o a/\0<=b/\Dq ((p0.length:Int)-b)=e/\cntM (jK p0 p1 p2) e b ()=some B) ⟨_,_,⟨J,0,R,Jk3,(by decide),(by simp),P⟩,(KM R)⟩ ?_
 rintro e _ V ⟨g,b,rfl,c,x,f,h⟩
 rcases e with _|e
 have d:=h;obtain⟨U,h⟩:=exq d
 have m:=dcf f
 refine Jq<|Jh3 [2,2,2,2] 2 R<|Jo3 R U80 R R<|Jb 1 R<|Jx2 R m<|Jc1<|Jt<|Jt ?_
 cases h
 have h:=d
 refine Jb1 ?_
 cases h
 exact Jw1 _ ⟨g,R,c.wk R,R⟩ KN
 obtain⟨U,h,d⟩:=BI h;unfold jK at h
 have m:=dct f
 refine Jq<|Jh3 [2,2,2,2] 2 R<|Jo3 R U80 R R<|Jb 1 R<|Jw2 R m<|Js<|Jp<|Jq<|Jv<|Jh3 [2,2,2,2,1,2,2,2,2,2,2,2,1,2,1,2] 2 R<|Ob h λW y h=>Jd3 R k y U80 Z88<|Je3 R U88 R Z2 ?_
 have j:=k.stp c
 obtain⟨aa,Q,N⟩:=(j).gSt y
 obtain⟨Y,ah,rfl,ac⟩:=Place.un Q
 refine Jc3 R I2 (λa n=>N a n 0 _ R)<|Jn 3 R<|Ob h λA h M=>Jg4 [0,1,2,7] 29 A g V [(8,2),(9,2),(10,2),(11,2),(12,1),(13,2),(14,1),(15,2)] [] tv ?_ ?_
 revert h
 cases ad:(W.At==p1)
 refine JF λh=>Jn 4 R<|Ja4 R<|Jn 1 R<|Ja4 R<|Jn 1 R ?_
 cases h
 exact Jh4 tv R
 refine JT λh=>Jn 2 R<|Ob h λam z h=>Jd3 R j z U80 Z88<|Je3 R U88 R Z37 ?_
 obtain⟨ab,S,O⟩:=(j).gSt z
 obtain⟨Z,ai,rfl,K⟩:=Place.un S
 refine Jc3 R I37 (λa n=>O a n 1 _ R)<|Jn 1 R<|Ob h λan T h=>Js3 R call198 (qA (J:=Mk g) (Jj3 K) (Jj3<|L.stp c) T) ?_
 rintro _ aj ⟨af,rfl,I⟩
 obtain⟨X,G,ag⟩:=Ji I 2 R
 refine Tv<|Jn 1 R ?_
 cases h
 exact Jv1 _ tv ⟨R,_,G.wk R⟩<|KM R
 rintro _ ak _ ⟨rfl,p,q⟩
 have h:=M
 refine Jd ?_
 revert h
 cases ae:A
 refine JF λh=>Jy R<|Js<|Jz<|Jp<|Jg3 R<|wr2 x f k.len_le ▸ ?_
 cases h
 exact Ja2 ⟨p,b+1,R,(c.tr q).wk R,nxz x,nxm f,d⟩ R
 refine JT λh=>Jx R<|Jf3 R<|Ju<|Ja1<|Jw<|Jw ?_
 cases h
 obtain rfl:=Ds d
 have h:=yL v
 refine Ja1<|Jr2<|Jw<|Jb2 (l:=[.tmp 6]) results135 (Jq2 R R) R ?_
 cases h
 exact⟨p,R,(u.stp<|c.tr q)⟩
 rintro _ al ⟨F,rfl,H,rfl⟩
 have h:=yI v
 refine Jp<|Jf3 R<|Ju<|Jb2 (l:=[.tmp 6]) results135 (Jq2 R R) R ?_
 cases h
 exact⟨F,R,(u.stp H)⟩
theorem uS {D Q}{p0:VP}{E S}{p1:VI}{p2:Int}(F:Rd Pair.rp J w 0 D Q p0) (y:Rd Ri J w 0 E S p1){r:Int}(h:j4 p0 p1 p2=some r):Ret prog 137 [.slice D p0.length Q,.slice E p1.length S,vi p2] w (Pvi J w r):=by
 unfold j4 at h
 refine Jl3 J func137 R ntmps137 R λz=>Jf3 R<|Jf3 R<|Jf3 R<|Jq<|Jf3 R<|Ob h λN ai ac=>?_
 clear h
 refine Jx1 (λb a=>∃d,∃c:Int×Int,b=[(7,vi c.1),(8,vi c.2)]/\Stp [] J w d a/\N=Dv c) ?_ ?_
 refine Jv<|Jq3 [0,1,2] (λi g b a=>∃d f,∃e:Int×Int,b=(7,vi e.1)::(8,vi e.2)::(9,vi f)::g/\Stp [] J w d a/\0<=f/\Dq ((p1.length:Int)-f)=i/\cntM (fR p0 p1 p2) i f e=some N) ⟨_,_,⟨J,0,(((-1):Int),((-1):Int)),R,Jk3,(by decide),(by simp),ai⟩,(KM R)⟩ ?_
 rintro i _ aT ⟨C,f,e,rfl,j,G,k,h⟩
 rcases i with _|i
 have m:=h;obtain⟨an,h⟩:=exq m
 have A:=dcf k
 refine Jq<|Jh3 [2,2,2,2] 2 R<|Jo3 R U37 R R<|Jb 1 R<|Jx2 R A<|Jc1<|Jt<|Jt ?_
 cases h
 have h:=m
 refine Jb1 ?_
 cases h
 exact Jw1 _ ⟨C,(e.1,e.2),R,j.wk R,R⟩<|KM R
 obtain⟨an,h,m⟩:=BI h;unfold fR at h
 have A:=dct k
 refine Jq<|Jh3 [2,2,2,2] 2 R<|Jo3 R U37 R R<|Jb 1 R<|Jw2 R A<|Js<|Jp<|Jq<|Jv<|Jq<|Jh3 [2,2,2,2,1,2,2,1,2,1] 3 R<|Ob h λaU H h=>Jd3 R y H U37 Z2 ?_
 have v:=y.stp j
 refine Jc3 R I2 (v.gInt H)<|Ob h λaV I h=>Jd3 R F I U69 Z127<|Je3 R U127 R Z37 ?_
 have x:=F.stp j
 obtain⟨az,aj,ag⟩:=(x).gSt I
 obtain⟨av,aM,aw,aN,rfl,aa,aB⟩:=Pair.un aj
 refine Jc3 R I37 (λa B=>ag a B 0 _ R)<|Jn 1 R<|Ob h λar al h=>Js3 R call197 (oh (J:=Mk C) (Jj3 aa) al) ?_
 rintro _ ao ⟨aI,rfl,Y⟩
 obtain⟨n,q,aK⟩:=Ji Y 2 R
 refine Tv<|Jd<|Ob h λO h ad=>Jp3 [0,1,2,8,9] (λg b a=>∃d,b=(7,vi O)::g/\Stp [] n ao d a) ?_ ?_
 revert h
 cases aD:ar
 refine JF λh=>Jy R<|Js ?_
 cases h
 exact Jw1 _ ⟨n,R,Jk3⟩<|KM R
 refine JT λh=>Jx R<|Jg3 R ?_
 cases h
 exact Jw1 _ ⟨n,R,Jk3⟩<|KM R
 rintro _ aQ ⟨T,rfl,s⟩
 have h:=ad
 refine Jp<|Jh3 [2,2,2,2,1,2,2,1,2,1] 3 R<|Ob h λaW K h=>Jd3 R v K U37 Z2<|Jc3 R I2 ((v.stp<|q.tr s).gInt K)<|Ob h λaX L h=>Jd3 R x L U69 Z127<|Je3 R U127 R Z37 ?_
 obtain⟨aA,ak,ah⟩:=((x.stp (q.tr s))).gSt L
 obtain⟨ax,aO,ay,aP,rfl,aC,ab⟩:=Pair.un ak
 refine Jc3 R I37 (λa B=>ah a B 1 _ R)<|Jn 1 R<|Ob h λau am h=>Js3 R call197 (oh (J:=Mk T) (Jj3 ab) am) ?_
 rintro _ ap ⟨aJ,rfl,Z⟩
 obtain⟨o,W,aL⟩:=Ji Z 4 R
 refine Tv<|Jd<|Ob h λP h ae=>Jp3 [0,1,2,7,9] (λg b a=>∃d,b=(8,vi P)::g/\Stp [] o ap d a) ?_ ?_
 revert h
 cases aE:au
 refine JF λh=>Jy R<|Js ?_
 cases h
 exact Jw1 _ ⟨o,R,Jk3⟩<|KM R
 refine JT λh=>Jx R<|Jg3 R ?_
 cases h
 exact Jw1 _ ⟨o,R,Jk3⟩<|KM R
 rintro _ aR ⟨U,rfl,X⟩
 have h:=ae
 refine Jz<|Jp<|Jg3 R<|wr2 G k y.len_le ▸ ?_
 cases h
 exact Ja2 ⟨U,f+1,(O,P),R,(T5 j q s W X).wk R,nxz G,nxm k,m⟩ R
 rintro _ aq ⟨V,c,rfl,u,rfl⟩
 have h:=yI ac
 refine Jp<|Jq<|Jv<|Jh3 [2,2,2,2,2,2,2] 3 R<|Ob h λM h af=>Jg4 [7,8] 44 M V aq [(3,2),(4,2),(5,2)] [(6,2)] tv ?_ ?_
 revert h
 cases aF:decide (c.1<0)
 refine JF λh=>Jn 3 R ?_
 cases h
 exact Jh4 tv R
 refine JT λh=>Jn 3 R ?_
 cases h
 exact Jh4 tv R
 rintro _ aS _ ⟨rfl,p,t⟩
 have h:=af
 refine Jb 1 R ?_
 revert h
 cases aG:M
 refine JF λh=>Jy R<|Jf3 R ?_
 revert h
 cases aH:decide (c.2<c.1)
 refine JF λh=>Jy R<|Js<|Jz<|Jp<|Jf3 R<|Ju<|Jb2 (l:=[.tmp 6]) results137 (Jq2 R R) R ?_
 cases h
 exact⟨p,R,(z.stp<|u.tr t)⟩
 refine JT λh=>Jx R<|Jf3 R<|Ju<|Ja1<|Jw<|Jb2 (l:=[.tmp 6]) results137 (Jq2 R R) R ?_
 cases h
 exact⟨p,R,(z.stp<|u.tr t)⟩
 refine JT λh=>Jx R<|Jf3 R<|Ju<|Ja1<|Jw<|Jb2 (l:=[.tmp 6]) results137 (Jq2 R R) R ?_
 cases h
 exact⟨p,R,(z.stp<|u.tr t)⟩
theorem xw {c a e b d f}{p0:Parity}(y:Rd Ri J w 0 c a p0.Arena.Owner) (z:Rd Rs J w 0 e b p0.Arena.Next) (A:Rd Ri J w 0 d f p0.Prio){r:VI}(h:oV p0=some r):Ret prog 191 [.agg #[.slice c p0.Arena.Owner.length a,.slice e p0.Arena.Next.length b,.slice d p0.Prio.length f]] w (Pvs E6 2 J w r):=by
 unfold oV at h
 refine Jl3 J func191 R ntmps191 R λt=>Je [1,2] R<|Jt3 J 2 R λx C g k q=>Tv<|Jb 1 R<|Je [2,1,2,1,2] R<|Je3 R U79 R Z37<|Jc3 R I37 (q.ld 2 R R)<|Jo3 R U37 R R<|Ob h λE u h=>Js3 R call99 (xr (J:=Mk g) u) ?_
 rintro _ D ⟨B,n,m,rfl,p,s⟩
 obtain⟨i,j,v⟩:=Ji p 3 R
 refine Tv<|Jb 1 R<|Ju<|Jb2 (l:=[.tmp 2]) results191 (Jq2 R R) R ?_
 cases h
 exact⟨(λo=>ren [(5,2)]<|i o),n,m,R,((t.stp<|k.tr j).map (ren [(5,2)]) R R),((s.mx (bZ _) v R (R:3+2=5)).map (ren [(5,2)]) R R)⟩
theorem qh {P L I K N M O H}{p0:l30Graph}{G W}{p1:VI}(aG:Rd Ri J w 0 P L p0.of) (B:Rd Ri J w 0 I K p0.by0) (aH:Rd Rs J w 0 N M p0.next) (aI:Rd Rs J w 0 O H p0.letters) (aq:Rd Ri J w 0 G W p1){r:VI}(h:lj p0 p1=some r):Ret prog 206 [.agg #[.slice P p0.of.length L,.slice I p0.by0.length K,.slice N p0.next.length M,.slice O p0.letters.length H],.slice G p1.length W] w (Pvs E6 2 J w r):=by
 unfold lj at h
 refine Jl3 J func206 R ntmps206 R λar=>Je [1,2] R<|Jt3 J 2 R λaF aM Z z S=>Tv<|Jb 1 R<|Je [1,2] R<|Jy3 Z E6 3 R Y37 bS R λag aA X x f ap=>Tv<|Jb 1 R<|Jq<|Jf3 R<|Ob h λV aw au=>?_
 clear h
 refine Jx1 (λe a=>∃b,∃t:VI,∃m o,e=[(5,.slice m t.length o)]/\Stp [3] x X b a/\Oc E6 2 b a 3 m o t/\V=Dv t) ?_ ?_
 refine Jv<|Jq3 [1,2] (λj u e a=>∃b c,∃k:VI,∃g i,e=(5,.slice g k.length i)::(6,vi c)::u/\Stp [3] x X b a/\Oc E6 2 b a 3 g i k/\0<=c/\Dq ((p0.by0.length:Int)-c)=j/\cntM (jO p0 p1) j c k=some V) ⟨_,_,⟨x,0,([]:VI),ag,aA,R,Jk3,ap,(by decide),(by simp),aw⟩,(KM R)⟩ ?_
 rintro j _ aO ⟨E,c,k,g,i,rfl,d,A,T,q,h⟩
 rcases j with _|j
 have s:=h;obtain⟨az,h⟩:=exq s
 have C:=dcf q
 refine Jq<|Jh3 [2,2,1,2,2] 1 R<|Je3 R U216 R Z37<|Jc3 R I37 ((S.stp<|f.tr d).ld 1 R R)<|Jo3 R U37 R R<|Jb 1 R<|Jx2 R C<|Jc1<|Jt<|Jt ?_
 cases h
 have h:=s
 refine Jb1 ?_
 cases h
 exact Jw1 _ ⟨E,k,g,i,R,d.wk R,A,R⟩<|KM R
 obtain⟨az,h,s⟩:=BI h;unfold jO at h
 have C:=dct q
 refine Jq<|Jh3 [2,2,1,2,2] 1 R<|Je3 R U216 R Z37 ?_
 have Q:=S.stp (f.tr d)
 refine Jc3 R I37 (Q.ld 1 R R)<|Jo3 R U37 R R<|Jb 1 R<|Jw2 R C<|Js<|Jp<|Jq<|Jv<|Jh3 [2,2,1,2,2,1,1] 1 R<|Je3 R U216 R Z37<|Jc3 R I37 (Q.ld 1 R R)<|Jn 1 R<|Ob h λaS U h=>Jd3 R B U U37 Z2<|Jc3 R I2 ((B.stp<|T3 z f d).gInt U)<|Ob h λaC ax h=>Js3 R call81 (i9 (J:=Mk E) (Jj3<|aq.stp<|T3 z f d) ax) ?_
 rintro _ aB ⟨aK,rfl,ak⟩
 obtain⟨v,y,aL⟩:=Ji ak 4 R
 refine Tv<|Jd<|Ob h λD h av=>Jp3 [1,2,6] (λu e a=>∃b p n,e=(5,.slice p D.length n)::u/\Stp [3] v aB b a/\Oc E6 2 b a 3 p n D) ?_ ?_
 revert h
 cases aJ:aC
 refine JF λh=>Jy R<|Js ?_
 cases h
 exact Jw1 _ ⟨v,g,i,R,Jk3,(A.stp y)⟩<|KM R
 refine JT λh=>Jx R<|Ji3 [2,2,1,1,2] 2 R<|Je4 v 6 [c] R Y37 bS R λaE aD aQ ab F an=>Tv<|Ob h λaT ay h=>Jz3 ab E6 3 [] R Y37 bS R (A.stp<|y.tr F) (Du (cc _) an.rdc) bV ay R λai ah aR ac af ao=>Tv<|Jc 1 R ?_
 cases h
 exact Jw1 _ ⟨ac,ai,ah,R,(F.tr af).wk R,ao⟩<|KM R
 rintro _ aP ⟨aa,p,n,rfl,ae,am⟩
 have h:=av
 refine Jz<|Jp<|Jg3 R<|wr2 T q B.len_le ▸ ?_
 cases h
 exact Ja2 ⟨aa,c+1,D,p,n,R,(T3 d y ae).wk R,am,nxz T,nxm q,s⟩ R
 rintro _ aN ⟨Y,t,m,o,rfl,ad,al,rfl⟩
 have h:=yI au
 refine Jp<|Jf3 R<|Ju<|Jb2 (l:=[.tmp 4]) results206 (Jq2 R R) R ?_
 cases h
 exact⟨(λaj=>ren [(3,2)]<|Y aj),m,o,R,((ar.stp<|T3 z f ad).map (ren [(3,2)]) R R),(al.map (ren [(3,2)]) R R)⟩
theorem ww {p0:Int}{y C}{p1:VI}(W:Rd Ri J w 0 y C p1){r:VB}(h:na p0 p1=some r):Ret prog 207 [vi p0,.slice y p1.length C] w (Pvs Do 4 J w r):=by
 unfold na at h
 refine Jl3 J func207 R ntmps207 R λX=>Jf3 R<|Je [1,2] R<|Jy3 J Do 2 R Y178 da R λN af D o x V=>Tv<|Jb 1 R<|Jq<|Jf3 R<|Ob h λ_ ab h=>?_
 have Z:=jG ab
 refine Ob h λB aa Y=>?_
 clear h
 refine Jx1 (λp d=>∃e,∃n:VB,∃i j,p=[(5,.slice i n.length j)]/\Stp [2] o D e d/\Oc Do 4 e d 2 i j n/\B=Dv n) ?_ ?_
 refine Jv<|Jq3 [0,1] (λb F p d=>∃e a,∃c:VB,∃g f,p=(5,.slice g c.length f)::(6,vi a)::F/\Stp [2] o D e d/\Oc Do 4 e d 2 g f c/\0<=a/\Dq (p0-a)=b/\cntM (kI p1) b a c=some B) ⟨_,_,⟨o,0,([]:VB),N,af,R,Jk3,V,(by decide),(by simp),aa⟩,(KM R)⟩ ?_
 rintro b _ al ⟨t,a,c,g,f,rfl,q,z,A,k,h⟩
 rcases b with _|b
 have m:=h;obtain⟨ae,h⟩:=exq m
 have s:=dcf k
 refine Jq<|Jf3 R<|Jx2 R s<|Jc1<|Jt<|Jt ?_
 cases h
 have h:=m
 refine Jb1 ?_
 cases h
 exact Jw1 _ ⟨t,c,g,f,R,q.wk R,z,R⟩<|KM R
 obtain⟨ae,h,m⟩:=BI h;unfold kI at h
 have s:=dct k
 refine Jq<|Jf3 R<|Jw2 R s<|Js<|Jp<|Jq<|Jv<|Ji3 [2,2,2,1,2,1,1,2] 3 R<|Ob h λE ac h=>Js3 R call81 (i9 (J:=Mk t) (Jj3<|W.stp<|x.tr q) ac) ?_
 rintro _ am ⟨aj,rfl,Q⟩
 obtain⟨G,u,ak⟩:=Ji Q 3 R
 refine Tv<|Jn 1 R<|Jx3 G Do 5 [] (parts:=[(0,.tmp 17)]) (cells:=[.bool (!E)]) (xs:=([(!E)]:VB)) R Y178 da R (Jf4 R) λai ah an H v T=>Tv<|Ob h λag ad h=>Jz3 H Do 2 [] R Y178 da R (z.stp<|u.tr v) (Du uH T.rdc) bV ad R λO P ao I M U=>Tv<|Jc 1 R<|Jz<|Jp<|Jg3 R<|wr2 A k Z ▸ ?_
 cases h
 exact Ja2 ⟨I,a+1,ag,O,P,R,(T4 q u v M).wk R,U,nxz A,nxm k,m⟩ R
 rintro _ ap ⟨K,n,i,j,rfl,L,S,rfl⟩
 have h:=yI Y
 refine Jp<|Jf3 R<|Ju<|Jb2 (l:=[.tmp 4]) results207 (Jq2 R R) R ?_
 cases h
 exact⟨K,i,j,R,(X.stp<|x.tr L),S⟩
end
end Go.Proofs.YtleekpaohfpooaaGreat
